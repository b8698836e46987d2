import PyProof.Rows.All
import Wide.All
import OpenK.AllK
import Wide.FinOn
import HandS.ForMost
import HandS.ForExc
import HandS.Star
import HandS.IsInst
import HandS.Flow
import HandS.Wide
import HandS.EndBits
import PyProof.ReprRoads
import HandS.TupAny
import HandS.TupMul
import HandS.Deep
import HandS.More
import HandS.Style
import KE.KTupSum
import PyProof.WalkInts
import HandS.SortInts
import HandS.Zip
import KE.KRevSl
import KE.KExcInit
import KE.KExcIs
import HandS.ExcIs
import HandS.ExcField
import HandS.TryMany
import HandS.Small
import HandS.HotCalls
import HandS.Conv
import HandS.Iter
import KE.GoesEnum
import PyProof.NeKinds
import KE.DataFind
import KE.KEqDict
import HandS.NoneIn
import PySem.Challenge.RW_ringpostfix_k55_long_far_beginnings
set_option Elab.async false
set_option linter.all false
set_option maxRecDepth 100000
set_option maxHeartbeats 4000000
/-! Layer part 0: data, the store, how they stand in the heap, readings by functions. -/
namespace DL
open PySem PySem.Spec L2
open PyProof.Rows hiding St

/-- a class by its name: of the program, built in -/
inductive Cn where
  | own (n : Str) | blt (n : String)
  deriving DecidableEq
/-- plain data (tuples, frozen lists and dicts by value), defs by name, caught errors, and places of the store -/
inductive D where
  | non | bl (b : Bool) | int (i : Int) | str (x : Str) | ty (n : String) | fn (n : Str)
  | tup (ds : List D) | fl (ds : List D) | kl (ds : List D) | fd (kvs : List (Key × D)) | exc (c : Cn) (fs : List (Str × D)) | loc (n : Nat)
abbrev Ev := List (Option D)
/-- what a place of the store holds -/
inductive Ob where
  | lst (ds : List D)
  | ins (c : Str) (fs : List (Str × D))
  | dct (kvs : List (Key × D))
  | dtt (kvs : List (List Key × D))
  | scr (ds : List D)
abbrev Sto := List Ob
structure Ex where
  cls : Cn
  fs : List (Str × D)
inductive R (α : Type) where
  | ok (a : α) (S : Sto)
  | er (e : Ex) (S : Sto)
  | stuck
inductive SR where
  | nx (ρ : Ev) (S : Sto)
  | rt (d : D) (S : Sto)
  | bk (ρ : Ev) (S : Sto)
  | ct (ρ : Ev) (S : Sto)
  | er (e : Ex) (ρ : Ev) (S : Sto)
  | stuck
/-- a test that no reckoning opens -/
noncomputable def ifp {α : Type} (p : Prop) (a b : α) : α := @ite α p (Classical.propDecidable p) a b
theorem ifp_pos {α : Type} {p : Prop} {a b : α} (h : p) : ifp p a b = a := by unfold ifp; exact if_pos h
theorem ifp_neg {α : Type} {p : Prop} {a b : α} (h : ¬ p) : ifp p a b = b := by unfold ifp; exact if_neg h
theorem ifp_t {α : Type} {a b : α} : ifp True a b = a := ifp_pos trivial
theorem ifp_f {α : Type} {a b : α} : ifp False a b = b := ifp_neg id
def R.bind {α β : Type} (r : R α) (k : α → Sto → R β) : R β := match r with
  | .ok a S => k a S
  | .er e S => .er e S
  | .stuck => .stuck
@[simp] theorem R.bind_ok {α β : Type} (a : α) (S : Sto) (k : α → Sto → R β) : (R.ok a S).bind k = k a S := rfl
@[simp] theorem R.bind_er {α β : Type} (e : Ex) (S : Sto) (k : α → Sto → R β) : (R.er e S : R α).bind k = .er e S := rfl
@[simp] theorem R.bind_stuck {α β : Type} (k : α → Sto → R β) : (R.stuck : R α).bind k = .stuck := rfl

/-! ### how data stand in the heap -/
def TupAt (K : PySem.W.Frag) (ι : List Addr) (H : Hp) (a : Addr) (vs : List V) : Prop := (a ∉ ι ∧ H a = some (.tup vs)) ∨ SqT K (fun _ => none) a vs
def LstAt (ι : List Addr) (H : Hp) (a : Addr) (vs : List V) : Prop := a ∉ ι ∧ H a = some (.lst vs)
/-- a list that nobody changes: locked, or of the written part -/
def KlAt (K : PySem.W.Frag) (ι : List Addr) (H : Hp) (a : Addr) (vs : List V) : Prop := (a ∉ ι ∧ ∃ o, H a = some (.frz o (.lst vs))) ∨ SqL K (fun _ => none) a vs
theorem no_rd {a : Addr} {u : HO} (h : Rd (fun _ => none) a u) : False := by
  rcases h with h | ⟨_, h⟩ <;> cases h
theorem TupAt.sq {K : PySem.W.Frag} {ι : List Addr} {H : Hp} {a : Addr} {vs : List V} (h : TupAt K ι H a vs) : SqT K H a vs := by
  rcases h with h | h | h
  · exact .inl (.inl h.2)
  · exact (no_rd h).elim
  · exact .inr h
theorem KlAt.sq {K : PySem.W.Frag} {ι : List Addr} {H : Hp} {a : Addr} {vs : List V} (h : KlAt K ι H a vs) : SqL K H a vs := by
  rcases h with ⟨_, h⟩ | h | h
  · exact .inl (.inr h)
  · exact (no_rd h).elim
  · exact .inr h
theorem LstAt.sq {K : PySem.W.Frag} {ι : List Addr} {H : Hp} {a : Addr} {vs : List V} (h : LstAt ι H a vs) : SqL K H a vs := SqL.of h.2
def RepC (K : PySem.W.Frag) : Cn → Value → Prop
  | .own n, v => ∃ C, v = .ref C ∧ PySem.W.nsIn K mainGlobals n = some (some (.ref C))
  | .blt n, v => v = .type n
/-- an error that is held as a value: at a, its class, its dict -/
def exv (a : Addr) (cls : Value) (d : Option Addr) : HO := .ext fun h => ∃ (oe : Obj) (vs : Array Value), h.get? a = some oe ∧ oe.cls = cls ∧ oe.dict = d ∧ oe.data = .fields vs
mutual
def RepV (K : PySem.W.Frag) (ι : List Addr) (H : Hp) : D → V → Prop
  | .non, v => v = .non
  | .bl b, v => v = .bl b
  | .int i, v => v = .int i
  | .str x, v => v = .str x
  | .ty n, v => v = .ty n
  | .fn n, v => ∃ a, v = .ref a ∧ PySem.W.nsIn K mainGlobals n = some (some (.ref a))
  | .loc n, v => ∃ a, ι[n]? = some a ∧ v = .ref a
  | .tup ds, v => ∃ a vs, v = .ref a ∧ TupAt K ι H a vs ∧ RepL K ι H ds vs
  | .fl ds, v => ∃ a vs, v = .ref a ∧ LstAt ι H a vs ∧ RepL K ι H ds vs
  | .kl ds, v => ∃ a vs, v = .ref a ∧ KlAt K ι H a vs ∧ RepL K ι H ds vs
  | .fd kvs, v => ∃ a ks, v = .ref a ∧ a ∉ ι ∧ H a = some (.dK ks) ∧ RepK K ι H kvs ks
  | .exc c fs, v => ∃ a cls dd, v = .ref a ∧ a ∉ ι ∧ H a = some (exv a cls dd) ∧ RepC K c cls ∧ ((dd = none ∧ fs = []) ∨ ∃ d vs, dd = some d ∧ d ∉ ι ∧ H d = some (.xd vs) ∧ RepF K ι H fs vs)
def RepL (K : PySem.W.Frag) (ι : List Addr) (H : Hp) : List D → List V → Prop
  | [], vs => vs = []
  | d :: ds, vs => ∃ v r, vs = v :: r ∧ RepV K ι H d v ∧ RepL K ι H ds r
def RepK (K : PySem.W.Frag) (ι : List Addr) (H : Hp) : List (Key × D) → List (Key × V) → Prop
  | [], vs => vs = []
  | (k, d) :: ds, vs => ∃ v r, vs = (k, v) :: r ∧ RepV K ι H d v ∧ RepK K ι H ds r
def RepF (K : PySem.W.Frag) (ι : List Addr) (H : Hp) : List (Str × D) → List (Str × V) → Prop
  | [], vs => vs = []
  | (k, d) :: ds, vs => ∃ v r, vs = (k, v) :: r ∧ RepV K ι H d v ∧ RepF K ι H ds r
end
def RepKT (K : PySem.W.Frag) (ι : List Addr) (H : Hp) : List (List Key × D) → List (List Key × V) → Prop
  | [], vs => vs = []
  | (k, d) :: ds, vs => ∃ v r, vs = (k, v) :: r ∧ RepV K ι H d v ∧ RepKT K ι H ds r
def RepO (K : PySem.W.Frag) (ι : List Addr) (H : Hp) (a : Addr) : Ob → Prop
  | .lst ds => ∃ vs, H a = some (.lst vs) ∧ RepL K ι H ds vs
  | .ins c fs => ∃ C dx vs, PySem.W.nsIn K mainGlobals c = some (some (.ref C)) ∧ H a = some (.ins C dx vs) ∧ RepF K ι H fs vs
  | .dct kvs => ∃ ks, H a = some (.dK ks) ∧ RepK K ι H kvs ks
  | .dtt kvs => ∃ ks, H a = some (.dT ks) ∧ RepKT K ι H kvs ks
  | .scr ds => ∃ o vs, H a = some (.frz o (.lst vs)) ∧ RepL K ι H ds vs
structure Sim (K : PySem.W.Frag) (ι : List Addr) (H : Hp) (S : Sto) : Prop where
  nd : ι.Nodup
  len : ι.length = S.length
  ob : ∀ (n : Nat) (a : Addr) (o : Ob), ι[n]? = some a → S[n]? = some o → RepO K ι H a o
def RepE (K : PySem.W.Frag) (ι : List Addr) (H : Hp) (σ : St) (ρ : Ev) : Prop :=
  σ.length = ρ.length ∧ ∀ (i : Nat) (d : D), ρ[i]? = some (some d) → ∃ v, σ[i]? = some (some v) ∧ RepV K ι H d v
structure Grow (ι : List Addr) (H : Hp) (ι' : List Addr) (H' : Hp) : Prop where
  pre : ι <+: ι'
  keep : ∀ a o, H a = some o → a ∉ ι → H' a = some o
  fresh : ∀ a, a ∈ ι' → a ∉ ι → H a = none
theorem Grow.refl (ι : List Addr) (H : Hp) : Grow ι H ι H := ⟨List.prefix_rfl, fun _ _ e _ => e, fun _ h n => absurd h n⟩
theorem Grow.trans {ι ι1 ι2 : List Addr} {H H1 H2 : Hp} (a : Grow ι H ι1 H1) (b : Grow ι1 H1 ι2 H2) : Grow ι H ι2 H2 where
  pre := a.pre.trans b.pre
  keep := fun c o e n => b.keep c o (a.keep c o e n) fun z => by
    have := a.fresh c z n
    rw [this] at e; cases e
  fresh := fun c h n => by
    by_cases z : c ∈ ι1
    · exact a.fresh c z n
    · have q := b.fresh c h z
      cases e : H c with
      | none => rfl
      | some o => rw [a.keep c o e n] at q; cases q
theorem Grow.rd {ι ι' : List Addr} {H H' : Hp} {a : Addr} {u : HO} (g : Grow ι H ι' H') (n : a ∉ ι) (r : H a = some u) : a ∉ ι' ∧ H' a = some u := by
  refine ⟨fun z => ?_, g.keep _ _ r n⟩
  have q := g.fresh a z n
  rw [q] at r; cases r
theorem TupAt.grow {K : PySem.W.Frag} {ι ι' : List Addr} {H H' : Hp} {a : Addr} {vs : List V} (g : Grow ι H ι' H') (h : TupAt K ι H a vs) : TupAt K ι' H' a vs := by
  rcases h with ⟨n, r⟩ | h
  · exact .inl (g.rd n r)
  · exact .inr h
theorem KlAt.grow {K : PySem.W.Frag} {ι ι' : List Addr} {H H' : Hp} {a : Addr} {vs : List V} (g : Grow ι H ι' H') (h : KlAt K ι H a vs) : KlAt K ι' H' a vs := by
  rcases h with ⟨n, o, r⟩ | h
  · exact .inl ⟨(g.rd n r).1, o, (g.rd n r).2⟩
  · exact .inr h
theorem LstAt.grow {ι ι' : List Addr} {H H' : Hp} {a : Addr} {vs : List V} (g : Grow ι H ι' H') (h : LstAt ι H a vs) : LstAt ι' H' a vs := g.rd h.1 h.2
theorem getElem?_pre {ι ι' : List Addr} (p : ι <+: ι') {n : Nat} {a : Addr} (h : ι[n]? = some a) : ι'[n]? = some a := by
  obtain ⟨t, rfl⟩ := p
  have hn : n < ι.length := (List.getElem?_eq_some_iff.mp h).1
  rw [List.getElem?_append_left hn]; exact h
mutual
theorem RepV.grow {K : PySem.W.Frag} {ι ι' : List Addr} {H H' : Hp} (g : Grow ι H ι' H') : ∀ (d : D) (v : V), RepV K ι H d v → RepV K ι' H' d v
  | .non, _, h => by rw [RepV] at h ⊢; exact h
  | .bl _, _, h => by rw [RepV] at h ⊢; exact h
  | .int _, _, h => by rw [RepV] at h ⊢; exact h
  | .str _, _, h => by rw [RepV] at h ⊢; exact h
  | .ty _, _, h => by rw [RepV] at h ⊢; exact h
  | .fn _, _, h => by rw [RepV] at h ⊢; exact h
  | .loc n, _, h => by
    rw [RepV] at h ⊢
    obtain ⟨a, e, r⟩ := h
    exact ⟨a, getElem?_pre g.pre e, r⟩
  | .tup ds, _, h => by
    rw [RepV] at h ⊢
    obtain ⟨a, vs, e, t, r⟩ := h
    exact ⟨a, vs, e, t.grow g, RepL.grow g ds vs r⟩
  | .fl ds, _, h => by
    rw [RepV] at h ⊢
    obtain ⟨a, vs, e, t, r⟩ := h
    exact ⟨a, vs, e, t.grow g, RepL.grow g ds vs r⟩
  | .kl ds, _, h => by
    rw [RepV] at h ⊢
    obtain ⟨a, vs, e, t, r⟩ := h
    exact ⟨a, vs, e, t.grow g, RepL.grow g ds vs r⟩
  | .fd kvs, _, h => by
    rw [RepV] at h ⊢
    obtain ⟨a, vs, e, n, t, r⟩ := h
    have q := g.rd n t
    exact ⟨a, vs, e, q.1, g.keep _ _ t n, RepK.grow g kvs vs r⟩
  | .exc c fs, _, h => by
    rw [RepV] at h ⊢
    obtain ⟨a, cls, dd, e, n, t, rc, r⟩ := h
    have q := g.rd n t
    refine ⟨a, cls, dd, e, q.1, q.2, rc, ?_⟩
    rcases r with r | ⟨d, vs, e1, e2, e3, e4⟩
    · exact .inl r
    · have q2 := g.rd e2 e3
      exact .inr ⟨d, vs, e1, q2.1, q2.2, RepF.grow g fs vs e4⟩
theorem RepL.grow {K : PySem.W.Frag} {ι ι' : List Addr} {H H' : Hp} (g : Grow ι H ι' H') : ∀ (ds : List D) (vs : List V), RepL K ι H ds vs → RepL K ι' H' ds vs
  | [], _, h => by rw [RepL] at h ⊢; exact h
  | d :: ds, _, h => by
    rw [RepL] at h ⊢
    obtain ⟨v, r, e, a, b⟩ := h
    exact ⟨v, r, e, RepV.grow g d v a, RepL.grow g ds r b⟩
theorem RepK.grow {K : PySem.W.Frag} {ι ι' : List Addr} {H H' : Hp} (g : Grow ι H ι' H') : ∀ (ds : List (Key × D)) (vs : List (Key × V)), RepK K ι H ds vs → RepK K ι' H' ds vs
  | [], _, h => by rw [RepK] at h ⊢; exact h
  | (k, d) :: ds, _, h => by
    rw [RepK] at h ⊢
    obtain ⟨v, r, e, a, b⟩ := h
    exact ⟨v, r, e, RepV.grow g d v a, RepK.grow g ds r b⟩
theorem RepF.grow {K : PySem.W.Frag} {ι ι' : List Addr} {H H' : Hp} (g : Grow ι H ι' H') : ∀ (ds : List (Str × D)) (vs : List (Str × V)), RepF K ι H ds vs → RepF K ι' H' ds vs
  | [], _, h => by rw [RepF] at h ⊢; exact h
  | (k, d) :: ds, _, h => by
    rw [RepF] at h ⊢
    obtain ⟨v, r, e, a, b⟩ := h
    exact ⟨v, r, e, RepV.grow g d v a, RepF.grow g ds r b⟩
end
theorem RepKT.grow {K : PySem.W.Frag} {ι ι' : List Addr} {H H' : Hp} (g : Grow ι H ι' H') : ∀ (ds : List (List Key × D)) (vs : List (List Key × V)), RepKT K ι H ds vs → RepKT K ι' H' ds vs
  | [], _, h => by rw [RepKT] at h ⊢; exact h
  | (k, d) :: ds, _, h => by
    rw [RepKT] at h ⊢
    obtain ⟨v, r, e, a, b⟩ := h
    exact ⟨v, r, e, RepV.grow g d v a, RepKT.grow g ds r b⟩
theorem RepE.grow {K : PySem.W.Frag} {ι ι' : List Addr} {H H' : Hp} {σ : St} {ρ : Ev} (g : Grow ι H ι' H') (h : RepE K ι H σ ρ) : RepE K ι' H' σ ρ :=
  ⟨h.1, fun i d e => let ⟨v, e', r⟩ := h.2 i d e; ⟨v, e', RepV.grow g d v r⟩⟩
theorem RepE.get {K : PySem.W.Frag} {ι : List Addr} {H : Hp} {σ : St} {ρ : Ev} (h : RepE K ι H σ ρ) {i : Nat} {d : D} (e : ρ[i]? = some (some d)) : ∃ v, σ[i]? = some (some v) ∧ RepV K ι H d v := h.2 i d e
theorem RepE.set {K : PySem.W.Frag} {ι : List Addr} {H : Hp} {σ : St} {ρ : Ev} (h : RepE K ι H σ ρ) {d : D} {v : V} (r : RepV K ι H d v) (i : Nat) : RepE K ι H (σ.set i (some v)) (ρ.set i (some d)) := by
  refine ⟨by simp [h.1], fun j d' e => ?_⟩
  rw [List.getElem?_set] at e ⊢
  by_cases hij : i = j
  · rw [if_pos hij] at e ⊢
    by_cases hl : i < ρ.length
    · rw [if_pos hl] at e
      rw [if_pos (by rw [h.1]; exact hl)]
      cases e
      exact ⟨v, rfl, r⟩
    · rw [if_neg hl] at e; cases e
  · rw [if_neg hij] at e ⊢
    exact h.2 j d' e
theorem RepE.drop {K : PySem.W.Frag} {ι : List Addr} {H : Hp} {σ : St} {ρ : Ev} (h : RepE K ι H σ ρ) (x : Option V) (i : Nat) : RepE K ι H (σ.set i x) (ρ.set i none) := by
  refine ⟨by simp [h.1], fun j d' e => ?_⟩
  rw [List.getElem?_set] at e ⊢
  by_cases hij : i = j
  · rw [if_pos hij] at e
    by_cases hl : i < ρ.length
    · rw [if_pos hl] at e; cases e
    · rw [if_neg hl] at e; cases e
  · rw [if_neg hij] at e ⊢
    exact h.2 j d' e
theorem RepL.length {K : PySem.W.Frag} {ι : List Addr} {H : Hp} : ∀ (ds : List D) (vs : List V), RepL K ι H ds vs → ds.length = vs.length
  | [], _, h => by rw [RepL] at h; subst h; rfl
  | d :: ds, _, h => by
    rw [RepL] at h
    obtain ⟨v, r, rfl, _, b⟩ := h
    simp [RepL.length ds r b]
theorem RepL.get {K : PySem.W.Frag} {ι : List Addr} {H : Hp} : ∀ (ds : List D) (vs : List V), RepL K ι H ds vs → ∀ (i : Nat) (d : D), ds[i]? = some d → ∃ v, vs[i]? = some v ∧ RepV K ι H d v
  | [], _, h, i, d, e => by simp at e
  | d :: ds, _, h, i, d', e => by
    rw [RepL] at h
    obtain ⟨v, r, rfl, a, b⟩ := h
    cases i with
    | zero => simp at e; subst e; exact ⟨v, rfl, a⟩
    | succ i => exact RepL.get ds r b i d' (by simpa using e)
theorem RepL.app {K : PySem.W.Frag} {ι : List Addr} {H : Hp} : ∀ (ds : List D) (vs : List V), RepL K ι H ds vs → ∀ (es : List D) (us : List V), RepL K ι H es us → RepL K ι H (ds ++ es) (vs ++ us)
  | [], _, h, es, us, h' => by rw [RepL] at h; subst h; simpa using h'
  | d :: ds, _, h, es, us, h' => by
    rw [RepL] at h
    obtain ⟨v, r, rfl, a, b⟩ := h
    show RepL K ι H (d :: (ds ++ es)) (v :: (r ++ us))
    rw [RepL]
    exact ⟨v, _, rfl, a, RepL.app ds r b es us h'⟩
theorem RepL.one {K : PySem.W.Frag} {ι : List Addr} {H : Hp} {d : D} {v : V} (h : RepV K ι H d v) : RepL K ι H [d] [v] := by
  rw [RepL]; exact ⟨v, [], rfl, h, by rw [RepL]⟩
theorem RepL.nil {K : PySem.W.Frag} {ι : List Addr} {H : Hp} : RepL K ι H [] [] := by rw [RepL]
theorem RepL.cons {K : PySem.W.Frag} {ι : List Addr} {H : Hp} {d : D} {v : V} {ds : List D} {vs : List V} (h : RepV K ι H d v) (t : RepL K ι H ds vs) : RepL K ι H (d :: ds) (v :: vs) := by
  rw [RepL]; exact ⟨v, vs, rfl, h, t⟩
theorem RepL.take {K : PySem.W.Frag} {ι : List Addr} {H : Hp} : ∀ (ds : List D) (vs : List V) (n : Nat), RepL K ι H ds vs → RepL K ι H (ds.take n) (vs.take n)
  | _, _, 0, _ => by simp [RepL]
  | [], _, n + 1, h => by rw [RepL] at h; subst h; simp [RepL]
  | d :: ds, _, n + 1, h => by
    rw [RepL] at h
    obtain ⟨v, r, rfl, a, b⟩ := h
    exact RepL.cons a (RepL.take ds r n b)
theorem RepL.drop {K : PySem.W.Frag} {ι : List Addr} {H : Hp} : ∀ (ds : List D) (vs : List V) (n : Nat), RepL K ι H ds vs → RepL K ι H (ds.drop n) (vs.drop n)
  | _, _, 0, h => h
  | [], _, n + 1, h => by rw [RepL] at h; subst h; simp [RepL]
  | d :: ds, _, n + 1, h => by
    rw [RepL] at h
    obtain ⟨v, r, rfl, a, b⟩ := h
    exact RepL.drop ds r n b
theorem RepL.set {K : PySem.W.Frag} {ι : List Addr} {H : Hp} {d : D} {v : V} (r : RepV K ι H d v) : ∀ (ds : List D) (vs : List V) (n : Nat), RepL K ι H ds vs → RepL K ι H (ds.set n d) (vs.set n v)
  | [], _, n, h => by rw [RepL] at h; subst h; simp [RepL]
  | d' :: ds, _, 0, h => by
    rw [RepL] at h
    obtain ⟨v', r', rfl, a, b⟩ := h
    exact RepL.cons r b
  | d' :: ds, _, n + 1, h => by
    rw [RepL] at h
    obtain ⟨v', r', rfl, a, b⟩ := h
    exact RepL.cons a (RepL.set r ds r' n b)
theorem RepO.grow {K : PySem.W.Frag} {ι : List Addr} {H H' : Hp} {a : Addr} {o : Ob} {ι' : List Addr} (g : Grow ι H ι' H') (e : H' a = H a) (h : RepO K ι H a o) : RepO K ι' H' a o := by
  cases o with
  | lst ds => obtain ⟨vs, q, r⟩ := h; exact ⟨vs, by rw [e]; exact q, RepL.grow g ds vs r⟩
  | ins C fs => obtain ⟨C', dx, vs, nc, q, r⟩ := h; exact ⟨C', dx, vs, nc, by rw [e]; exact q, RepF.grow g fs vs r⟩
  | dct ks => obtain ⟨vs, q, r⟩ := h; exact ⟨vs, by rw [e]; exact q, RepK.grow g ks vs r⟩
  | dtt ks => obtain ⟨vs, q, r⟩ := h; exact ⟨vs, by rw [e]; exact q, RepKT.grow g ks vs r⟩
  | scr ds => obtain ⟨o, vs, q, r⟩ := h; exact ⟨o, vs, by rw [e]; exact q, RepL.grow g ds vs r⟩
theorem RepO.some {K : PySem.W.Frag} {ι : List Addr} {H : Hp} {a : Addr} {o : Ob} (h : RepO K ι H a o) : ∃ u, H a = some u := by
  cases o with
  | lst ds => obtain ⟨vs, q, _⟩ := h; exact ⟨_, q⟩
  | ins C fs => obtain ⟨C', dx, vs, _, q, _⟩ := h; exact ⟨_, q⟩
  | dct ks => obtain ⟨vs, q, _⟩ := h; exact ⟨_, q⟩
  | dtt ks => obtain ⟨vs, q, _⟩ := h; exact ⟨_, q⟩
  | scr ds => obtain ⟨o, vs, q, _⟩ := h; exact ⟨_, q⟩
theorem Sim.addr {K : PySem.W.Frag} {ι : List Addr} {H : Hp} {S : Sto} (s : Sim K ι H S) {n : Nat} {o : Ob} (e : S[n]? = some o) : ∃ a, ι[n]? = some a ∧ RepO K ι H a o := by
  have hn : n < ι.length := by rw [s.len]; exact (List.getElem?_eq_some_iff.mp e).1
  exact ⟨ι[n], List.getElem?_eq_some_iff.mpr ⟨hn, rfl⟩, s.ob n _ o (List.getElem?_eq_some_iff.mpr ⟨hn, rfl⟩) e⟩
theorem Sim.there {K : PySem.W.Frag} {ι : List Addr} {H : Hp} {S : Sto} (s : Sim K ι H S) {a : Addr} (h : a ∈ ι) : ∃ u, H a = some u := by
  obtain ⟨n, hn, rfl⟩ := List.mem_iff_getElem.mp h
  have hs : n < S.length := by rw [← s.len]; exact hn
  exact (s.ob n ι[n] S[n] (List.getElem?_eq_some_iff.mpr ⟨hn, rfl⟩) (List.getElem?_eq_some_iff.mpr ⟨hs, rfl⟩)).some
theorem Sim.free {K : PySem.W.Frag} {ι : List Addr} {H : Hp} {S : Sto} (s : Sim K ι H S) {p : Addr} (h : H p = none) : p ∉ ι := fun z => by
  obtain ⟨u, e⟩ := s.there z
  rw [h] at e; cases e
/-- a new thing outside of the store -/
theorem Grow.upd {ι : List Addr} {H : Hp} {p : Addr} {o : HO} (h : H p = none) : Grow ι H ι (L2.upd H p o) :=
  ⟨List.prefix_rfl, fun a u e _ => by rw [upd_ne (ne_of_none e h)]; exact e, fun _ z n => absurd z n⟩
theorem Sim.upd {K : PySem.W.Frag} {ι : List Addr} {H : Hp} {S : Sto} (s : Sim K ι H S) {p : Addr} {o : HO} (h : H p = none) : Sim K ι (L2.upd H p o) S :=
  ⟨s.nd, s.len, fun n a u e1 e2 => (s.ob n a u e1 e2).grow (Grow.upd h) (by
    have hp := s.free h
    have hne : a ≠ p := fun z => hp (z ▸ List.mem_of_getElem? e1)
    rw [upd_ne hne])⟩
/-- a new place -/
theorem Grow.push {ι : List Addr} {H : Hp} {p : Addr} {o : HO} (h : H p = none) : Grow ι H (ι ++ [p]) (L2.upd H p o) :=
  ⟨List.prefix_append _ _, fun a u e _ => by rw [upd_ne (ne_of_none e h)]; exact e, fun a z n => by
    rcases List.mem_append.mp z with z | z
    · exact absurd z n
    · rw [List.mem_singleton.mp z]; exact h⟩
theorem Sim.push {K : PySem.W.Frag} {ι : List Addr} {H : Hp} {S : Sto} (s : Sim K ι H S) {p : Addr} {o : HO} {b : Ob} (h : H p = none) (r : RepO K (ι ++ [p]) (L2.upd H p o) p b) : Sim K (ι ++ [p]) (L2.upd H p o) (S ++ [b]) := by
  have hp := s.free h
  refine ⟨?_, by simp [s.len], fun n a u e1 e2 => ?_⟩
  · exact List.nodup_append.mpr ⟨s.nd, by simp, fun x hx y hy => by rw [List.mem_singleton.mp hy]; exact fun z => hp (z ▸ hx)⟩
  · by_cases hn : n < ι.length
    · rw [List.getElem?_append_left hn] at e1
      rw [List.getElem?_append_left (by rw [← s.len]; exact hn)] at e2
      refine (s.ob n a u e1 e2).grow (Grow.push h) ?_
      have hne : a ≠ p := fun z => hp (z ▸ List.mem_of_getElem? e1)
      rw [upd_ne hne]
    · rw [List.getElem?_append_right (by omega)] at e1
      rw [List.getElem?_append_right (by rw [← s.len]; omega)] at e2
      rw [← s.len] at e2
      have hl := (List.getElem?_eq_some_iff.mp e1).1
      have : n - ι.length = 0 := by simpa using hl
      rw [this] at e1 e2
      simp at e1 e2
      subst e1; subst e2
      exact r
/-- a place changed -/
theorem Grow.put {ι : List Addr} {H : Hp} {p : Addr} {o : HO} (h : p ∈ ι) : Grow ι H ι (L2.upd H p o) :=
  ⟨List.prefix_rfl, fun a u e n => by
    have hne : a ≠ p := fun z => n (z ▸ h)
    rw [upd_ne hne]; exact e, fun _ z n => absurd z n⟩
theorem Sim.put {K : PySem.W.Frag} {ι : List Addr} {H : Hp} {S : Sto} (s : Sim K ι H S) {p : Addr} {o : HO} {b : Ob} {m : Nat} (h : ι[m]? = some p) (r : RepO K ι (L2.upd H p o) p b) : Sim K ι (L2.upd H p o) (S.set m b) := by
  refine ⟨s.nd, by simp [s.len], fun n a u e1 e2 => ?_⟩
  by_cases hn : n = m
  · subst hn
    rw [h] at e1; cases e1
    have hl : n < S.length := by rw [← s.len]; exact (List.getElem?_eq_some_iff.mp h).1
    rw [List.getElem?_set_self hl] at e2; cases e2
    exact r
  · rw [List.getElem?_set_ne (Ne.symm hn)] at e2
    refine (s.ob n a u e1 e2).grow (Grow.put (List.mem_of_getElem? h)) ?_
    rw [upd_ne]
    rintro rfl
    obtain ⟨h1, q1⟩ := List.getElem?_eq_some_iff.mp e1
    obtain ⟨h2, q2⟩ := List.getElem?_eq_some_iff.mp h
    exact hn ((List.getElem_inj s.nd).mp (q1.trans q2.symm))

/-! ### readings by functions -/
/-- a raised exception: its class, its own dict -/
def RepX (K : PySem.W.Frag) (ι : List Addr) (H : Hp) (e : Ex) (cls : Value) (dd : Option Addr) : Prop :=
  RepC K e.cls cls ∧ ((dd = none ∧ e.fs = []) ∨ ∃ a vs, dd = some a ∧ a ∉ ι ∧ H a = some (.xd vs) ∧ RepF K ι H e.fs vs)
/-- behind a result: what is wanted of a value, W of an exception -/
def Post {α : Type} (K : PySem.W.Frag) (W : WX) (σ : St) (ι : List Addr) (H : Hp) (r : R α) (P : α → Sto → List Addr → Hp → Prop) : Prop := match r with
  | .ok a S' => ∀ ι' H', Grow ι H ι' H' → Sim K ι' H' S' → P a S' ι' H'
  | .er e S' => ∀ ι' H' cls dd, Grow ι H ι' H' → Sim K ι' H' S' → RepX K ι' H' e cls dd → W cls dd σ H'
  | .stuck => False
theorem Post.bind {α β : Type} {K : PySem.W.Frag} {W : WX} {σ : St} {ι : List Addr} {H : Hp} {r : R α} {k : α → Sto → R β} {P : β → Sto → List Addr → Hp → Prop} (h : Post K W σ ι H (r.bind k) P) :
    Post K W σ ι H r fun a S1 ι1 H1 => Post K W σ ι1 H1 (k a S1) P := by
  cases r with
  | stuck => exact h
  | er e S => exact h
  | ok a S =>
    intro ι1 H1 G1 s1
    have h : Post K W σ ι H (k a S) P := h
    show Post K W σ ι1 H1 (k a S) P
    revert h
    cases k a S with
    | stuck => exact fun h => h
    | er e S => exact fun h ι2 H2 cls dd G2 s2 x => h ι2 H2 cls dd (G1.trans G2) s2 x
    | ok b S => exact fun h ι2 H2 G2 s2 => h ι2 H2 (G1.trans G2) s2
theorem Post.mono {α : Type} {K : PySem.W.Frag} {W : WX} {σ : St} {ι : List Addr} {H : Hp} {r : R α} {P P' : α → Sto → List Addr → Hp → Prop} (h : Post K W σ ι H r P)
    (i : ∀ a S' ι' H', Grow ι H ι' H' → Sim K ι' H' S' → P a S' ι' H' → P' a S' ι' H') : Post K W σ ι H r P' := by
  cases r with
  | stuck => exact h
  | er e S => exact h
  | ok a S => exact fun ι' H' G s => i a S ι' H' G s (h ι' H' G s)
theorem Post.here {α : Type} {K : PySem.W.Frag} {W : WX} {σ : St} {ι : List Addr} {H : Hp} {a : α} {S : Sto} {P : α → Sto → List Addr → Hp → Prop} (h : Post K W σ ι H (.ok a S) P) (s : Sim K ι H S) : P a S ι H := h ι H (Grow.refl ι H) s
/-- the world of a piece of code: the store's addresses, the data of the slots, the store -/
def rdE (K : PySem.W.Frag) (W : WX) (f : Ev → Sto → R D) : TE := fun σ H Q => ∃ ι ρ S, RepE K ι H σ ρ ∧ Sim K ι H S ∧ Post K W σ ι H (f ρ S) fun d _ ι' H' => ∀ v, RepV K ι' H' d v → Q v H'
def rdT (K : PySem.W.Frag) (W : WX) (f : Ev → Sto → R Bool) : TT := fun σ H Q => ∃ ι ρ S, RepE K ι H σ ρ ∧ Sim K ι H S ∧ Post K W σ ι H (f ρ S) fun b _ _ H' => Q b H'
def rdA (K : PySem.W.Frag) (W : WX) (f : Ev → Sto → R (List D)) : TA := fun σ H Q => ∃ ι ρ S, RepE K ι H σ ρ ∧ Sim K ι H S ∧ Post K W σ ι H (f ρ S) fun ds _ ι' H' => ∀ vs, RepL K ι' H' ds vs → Q vs H'
/-- behind a statement -/
def PostS (K : PySem.W.Frag) (W : WX) (E : Ends) (ι : List Addr) (H : Hp) (r : SR) : Prop := match r with
  | .nx ρ' S' => ∀ ι' H' σ', Grow ι H ι' H' → Sim K ι' H' S' → RepE K ι' H' σ' ρ' → E.nx σ' H'
  | .rt d S' => ∀ ι' H' v, Grow ι H ι' H' → Sim K ι' H' S' → RepV K ι' H' d v → E.rt v H'
  | .bk ρ' S' => ∀ ι' H' σ', Grow ι H ι' H' → Sim K ι' H' S' → RepE K ι' H' σ' ρ' → E.bk σ' H'
  | .ct ρ' S' => ∀ ι' H' σ', Grow ι H ι' H' → Sim K ι' H' S' → RepE K ι' H' σ' ρ' → E.ct σ' H'
  | .er e ρ' S' => ∀ ι' H' σ' cls dd, Grow ι H ι' H' → Sim K ι' H' S' → RepE K ι' H' σ' ρ' → RepX K ι' H' e cls dd → W cls dd σ' H'
  | .stuck => False
theorem PostS.grow {K : PySem.W.Frag} {W : WX} {E : Ends} {ι ι1 : List Addr} {H H1 : Hp} {r : SR} (h : PostS K W E ι H r) (G : Grow ι H ι1 H1) : PostS K W E ι1 H1 r := by
  cases r with
  | stuck => exact h
  | nx ρ S => exact fun ι' H' σ' G1 => h ι' H' σ' (G.trans G1)
  | bk ρ S => exact fun ι' H' σ' G1 => h ι' H' σ' (G.trans G1)
  | ct ρ S => exact fun ι' H' σ' G1 => h ι' H' σ' (G.trans G1)
  | rt d S => exact fun ι' H' v G1 => h ι' H' v (G.trans G1)
  | er e ρ S => exact fun ι' H' σ' cls dd G1 => h ι' H' σ' cls dd (G.trans G1)
def rdS (K : PySem.W.Frag) (W : WX) (F : Ev → Sto → SR) : TS := fun E σ H => ∃ ι ρ S, RepE K ι H σ ρ ∧ Sim K ι H S ∧ PostS K W E ι H (F ρ S)
abbrev DE (X : Cx) (W : WX) (e : Expr) (f : Ev → Sto → R D) : Prop := PE X e (rdE X.K W f)
abbrev DT (X : Cx) (W : WX) (e : Expr) (f : Ev → Sto → R Bool) : Prop := PT X e (rdT X.K W f)
abbrev DW (X : Cx) (W : WX) (e : Expr) (f : Ev → Sto → R Bool) : Prop := PW X e (rdT X.K W f)
abbrev DA (X : Cx) (W : WX) (es : List Expr) (f : Ev → Sto → R (List D)) : Prop := PA X es (rdA X.K W f)
abbrev DS (X : Cx) (W : WX) (st : Stmt) (F : Ev → Sto → SR) : Prop := PS X st (rdS X.K W F)
abbrev DSs (X : Cx) (W : WX) (st : List Stmt) (F : Ev → Sto → SR) : Prop := PSs X st (rdS X.K W F)
theorem PE.imp {X : Cx} {e : Expr} {t u : TE} (h : PE X e t) (i : ∀ σ H Q, u σ H Q → t σ H Q) : PE X e u := ⟨fun pins s σ H Q I q => h.run pins s σ H Q I (i σ H Q q)⟩
theorem PT.imp {X : Cx} {e : Expr} {t u : TT} (h : PT X e t) (i : ∀ σ H Q, u σ H Q → t σ H Q) : PT X e u := ⟨fun pins s σ H Q I q => h.run pins s σ H Q I (i σ H Q q)⟩
theorem PW.imp {X : Cx} {e : Expr} {t u : TT} (h : PW X e t) (i : ∀ σ H Q, u σ H Q → t σ H Q) : PW X e u := ⟨fun wh pins s σ H Q I q => h.run wh pins s σ H Q I (i σ H Q q)⟩
theorem PA.imp {X : Cx} {e : List Expr} {t u : TA} (h : PA X e t) (i : ∀ σ H Q, u σ H Q → t σ H Q) : PA X e u := ⟨fun p pins s σ H Q I q => h.run p pins s σ H Q I (i σ H Q q)⟩
theorem PS.imp {X : Cx} {e : Stmt} {t u : TS} (h : PS X e t) (i : ∀ D σ H, u D σ H → t D σ H) : PS X e u := ⟨fun pins s σ H D I q => h.run pins s σ H D I (i D σ H q)⟩
theorem PSs.imp {X : Cx} {e : List Stmt} {t u : TS} (h : PSs X e t) (i : ∀ D σ H, u D σ H → t D σ H) : PSs X e u := ⟨fun pins s σ H D I q => h.run pins s σ H D I (i D σ H q)⟩
end DL

/-! Layer part 1: expressions. -/
namespace DL
open PySem PySem.Spec L2
open PyProof.Rows hiding St
section
variable {X : Cx} {W : WX} {pos : Pos}

/-! ### names, constants -/
def eVar (i : Nat) : Ev → Sto → R D := fun ρ S => match ρ[i]? with
  | some (some d) => .ok d S
  | _ => .stuck
def eC (d : D) : Ev → Sto → R D := fun _ S => .ok d S
theorem de_var (i : Nat) {x : Str} {pos : Pos} (hN : X.N[i]? = some x := by rfl) (hv : Vis X.env.scope x := by first | exact Or.inl rfl | exact Or.inr (Or.inl rfl) | exact Or.inr (Or.inr rfl)) (hd : (x == ("__debug__" : Str)) = false := by decide)
    (hcd : (x == ("__classdict__" : Str)) = false := by decide) : DE X W (.Name x pos) (eVar i) := by
  refine PE.imp (pe_var hN hv hd hcd) fun σ H Q ⟨ι, ρ, S, hE, hS, h⟩ => ?_
  unfold eVar at h
  split at h
  · rename_i d e
    obtain ⟨v, e', r⟩ := hE.get e
    exact ⟨v, e', h.here hS v r⟩
  · exact h.elim
theorem de_c {e : Expr} {d : D} {v : V} (h : PE X e (tC v)) (r : ∀ ι H, RepV X.K ι H d v) : DE X W e (eC d) :=
  PE.imp h fun σ H Q ⟨ι, ρ, S, hE, hS, h⟩ => h.here hS v (r ι H)
theorem de_int {i j pos} : DE X W (.Constant (.int i) j pos) (eC (.int i)) := de_c pe_int fun _ _ => by rw [RepV]
theorem de_bl {b j pos} : DE X W (.Constant (.bool b) j pos) (eC (.bl b)) := de_c pe_bl fun _ _ => by rw [RepV]
theorem de_non {j pos} : DE X W (.Constant .none j pos) (eC .non) := de_c pe_non fun _ _ => by rw [RepV]
theorem de_str {x j pos} : DE X W (.Constant (.str x) j pos) (eC (.str x)) := de_c pe_str fun _ _ => by rw [RepV]
/-- a module's constant: KRep says how the datum stands in the written part -/
def KRep (K : PySem.W.Frag) (u : Value) (d : D) : Prop := ∃ v, RelV v u ∧ ∀ ι H, RepV K ι H d v
theorem de_glob {x : Str} {d : D} {u : Value} {pos : Pos} (hg : Gl X x) (hm : X.mg x = some u) (r : KRep X.K u d) (hd : (x == ("__debug__" : Str)) = false := by decide) : DE X W (.Name x pos) (eC d) :=
  let ⟨v, rv, rr⟩ := r
  de_c (pe_glob hg hm rv hd) rr

/-! ### two operands -/
def eOp (o : D → D → Sto → R D) (f g : Ev → Sto → R D) : Ev → Sto → R D := fun ρ S => (f ρ S).bind fun a S1 => (g ρ S1).bind fun b S2 => o a b S2
/-- a rule by values keeps the function o -/
def OpK (K : PySem.W.Frag) (r : R2) (o : D → D → Sto → R D) : Prop := ∀ (W : WX) (σ : St) (ι : List Addr) (H : Hp) (S : Sto) (x y : V) (a b : D) (Q : VK), Sim K ι H S → RepV K ι H a x → RepV K ι H b y →
  Post K W σ ι H (o a b S) (fun d _ ι' H' => ∀ v, RepV K ι' H' d v → Q v H') → r x y H Q
theorem op_seq {r : R2} {o : D → D → Sto → R D} {f g : Ev → Sto → R D} (k : OpK X.K r o) : ∀ σ H Q, rdE X.K W (eOp o f g) σ H Q → tOp r (rdE X.K W f) (rdE X.K W g) σ H Q := fun σ H Q ⟨ι, ρ, S, hE, hS, h⟩ => by
  refine ⟨ι, ρ, S, hE, hS, (Post.bind h).mono fun a S1 ι1 H1 G1 s1 h1 x rx => ?_⟩
  refine ⟨ι1, ρ, S1, hE.grow G1, s1, (Post.bind h1).mono fun b S2 ι2 H2 G2 s2 h2 y ry => ?_⟩
  exact k W σ ι2 H2 S2 x y a b Q s2 (RepV.grow G2 a x rx) ry h2
theorem de_op {a b : Expr} {op : Operator} {r : R2} {o : D → D → Sto → R D} {f g : Ev → Sto → R D} (ho : OpR X (binaryOp op) r) (k : OpK X.K r o) (ha : DE X W a f) (hb : DE X W b g) : DE X W (.BinOp a op b pos) (eOp o f g) :=
  PE.imp (pe_op ho ha hb) (op_seq k)
theorem de_cmp {a b : Expr} {op : CmpOp} {r : R2} {o : D → D → Sto → R D} {f g : Ev → Sto → R D} (ho : OpR X (compareOp op) r) (k : OpK X.K r o) (ha : DE X W a f) (hb : DE X W b g) (hm : behindInMarks op b = false) : DE X W (.Compare a [op] [b] pos) (eOp o f g) :=
  PE.imp (pe_cmpR ho ha hb hm) (op_seq k)
/-- a value's truth where it is a bool -/
def bOf : D → Sto → R Bool := fun d S => match d with
  | .bl b => .ok b S
  | _ => .stuck
def eT (f : Ev → Sto → R D) : Ev → Sto → R Bool := fun ρ S => (f ρ S).bind bOf
theorem bOf_post {K : PySem.W.Frag} {σ : St} {ι : List Addr} {H : Hp} {d : D} {S : Sto} {v : V} {Q : Bool → Hp → Prop} (h : Post K W σ ι H (bOf d S) fun b _ _ H' => Q b H') (s : Sim K ι H S) (r : RepV K ι H d v) : ∃ c, v = .bl c ∧ Q c H := by
  cases d with
  | bl b => rw [RepV] at r; exact ⟨b, r, h.here s⟩
  | _ => exact (show False from h).elim
theorem dt_of_test {e : Expr} {t : TE} {f : Ev → Sto → R D} (h : PT X e (tTest t)) (i : ∀ σ H Q, rdE X.K W f σ H Q → t σ H Q) : DT X W e (eT f) := by
  refine PT.imp h fun σ H Q ⟨ι, ρ, S, hE, hS, q⟩ => i σ H _ ⟨ι, ρ, S, hE, hS, (Post.bind q).mono fun d S1 ι1 H1 G1 s1 h1 v rv => bOf_post h1 s1 rv⟩
theorem dt_cmp {a b : Expr} {op : CmpOp} {r : R2} {o : D → D → Sto → R D} {f g : Ev → Sto → R D} (ho : OpR X (compareOp op) r) (k : OpK X.K r o) (ha : DE X W a f) (hb : DE X W b g) (hm : behindInMarks op b = false) : DT X W (.Compare a [op] [b] pos) (eT (eOp o f g)) :=
  dt_of_test (pt_cmpR ho ha hb hm) (op_seq k)
/-- an expression whose value is a bool, as a test -/
theorem dt_val {e : Expr} {f : Ev → Sto → R D} (h : DE X W e f) (he : ∀ whole, isTrue e X.env whole = (do let v ← whole; standAt e.pos; holding [v] (truthy v)) := by intro _; rfl) : DT X W e (eT f) := by
  refine PT.imp (pt_val h he) fun σ H Q ⟨ι, ρ, S, hE, hS, q⟩ => ⟨ι, ρ, S, hE, hS, (Post.bind q).mono fun d S1 ι1 H1 G1 s1 h1 v rv => bOf_post h1 s1 rv⟩

/-! ### and, or, not, if -/
def eAnd (f g : Ev → Sto → R Bool) : Ev → Sto → R Bool := fun ρ S => (f ρ S).bind fun b S1 => if b = true then g ρ S1 else .ok false S1
def eOr (f g : Ev → Sto → R Bool) : Ev → Sto → R Bool := fun ρ S => (f ρ S).bind fun b S1 => if b = true then .ok true S1 else g ρ S1
def eNot (f : Ev → Sto → R Bool) : Ev → Sto → R Bool := fun ρ S => (f ρ S).bind fun b S1 => .ok (!b) S1
def eIf (c : Ev → Sto → R Bool) (f g : Ev → Sto → R D) : Ev → Sto → R D := fun ρ S => (c ρ S).bind fun b S1 => if b = true then f ρ S1 else g ρ S1
variable {a b c : Expr} {rest : List Expr} {f g : Ev → Sto → R Bool}
theorem dw_and1 (ha : DT X W a f) : DW X W (.BoolOp .And [a] pos) f := pw_and1 ha
theorem dw_or1 (ha : DT X W a f) : DW X W (.BoolOp .Or [a] pos) f := pw_or1 ha
theorem dw_and (ha : DT X W a f) (hb : DW X W (.BoolOp .And (b :: rest) pos) g) : DW X W (.BoolOp .And (a :: b :: rest) pos) (eAnd f g) := by
  refine PW.imp (pw_and ha hb) fun σ H Q ⟨ι, ρ, S, hE, hS, h⟩ => ⟨ι, ρ, S, hE, hS, (Post.bind h).mono fun k S1 ι1 H1 G1 s1 h1 => ?_⟩
  cases k with
  | true => rw [if_pos rfl] at h1 ⊢; exact ⟨ι1, ρ, S1, hE.grow G1, s1, h1⟩
  | false => rw [if_neg (by decide)] at h1 ⊢; exact h1.here s1
theorem dw_or (ha : DT X W a f) (hb : DW X W (.BoolOp .Or (b :: rest) pos) g) : DW X W (.BoolOp .Or (a :: b :: rest) pos) (eOr f g) := by
  refine PW.imp (pw_or ha hb) fun σ H Q ⟨ι, ρ, S, hE, hS, h⟩ => ⟨ι, ρ, S, hE, hS, (Post.bind h).mono fun k S1 ι1 H1 G1 s1 h1 => ?_⟩
  cases k with
  | false => rw [if_neg (by decide)] at h1 ⊢; exact ⟨ι1, ρ, S1, hE.grow G1, s1, h1⟩
  | true => rw [if_pos rfl] at h1 ⊢; exact h1.here s1
theorem dw_t (h : DW X W a f) : DT X W a f := PW.pt h
theorem dt_not (ha : DT X W a f) : DT X W (.UnaryOp .Not a pos) (eNot f) := by
  refine PT.imp (pt_not ha) fun σ H Q ⟨ι, ρ, S, hE, hS, h⟩ => ⟨ι, ρ, S, hE, hS, (Post.bind h).mono fun k S1 ι1 H1 G1 s1 h1 => ?_⟩
  exact h1.here s1
theorem de_if {f g : Ev → Sto → R D} {t : Ev → Sto → R Bool} (hc : DT X W c t) (ha : DE X W a f) (hb : DE X W b g) : DE X W (.IfExp c a b pos) (eIf t f g) := by
  refine PE.imp (pe_ifExp hc ha hb) fun σ H Q ⟨ι, ρ, S, hE, hS, h⟩ => ⟨ι, ρ, S, hE, hS, (Post.bind h).mono fun k S1 ι1 H1 G1 s1 h1 => ?_⟩
  cases k with
  | true => rw [if_pos rfl] at h1 ⊢; exact ⟨ι1, ρ, S1, hE.grow G1, s1, h1⟩
  | false => rw [if_neg (by decide)] at h1 ⊢; exact ⟨ι1, ρ, S1, hE.grow G1, s1, h1⟩
/-- and, or, not as values: all but the last a bool -/
def eAndV (f g : Ev → Sto → R D) : Ev → Sto → R D := fun ρ S => (f ρ S).bind fun d S1 => (bOf d S1).bind fun b S2 => if b = true then g ρ S2 else .ok (.bl false) S2
def eOrV (f g : Ev → Sto → R D) : Ev → Sto → R D := fun ρ S => (f ρ S).bind fun d S1 => (bOf d S1).bind fun b S2 => if b = true then .ok (.bl true) S2 else g ρ S2
def eNotV (f : Ev → Sto → R D) : Ev → Sto → R D := fun ρ S => (f ρ S).bind fun d S1 => (bOf d S1).bind fun b S2 => .ok (.bl (!b)) S2
theorem bOf_bind {K : PySem.W.Frag} {σ : St} {ι : List Addr} {H : Hp} {d : D} {S : Sto} {v : V} {k : Bool → Sto → R D} {P : D → Sto → List Addr → Hp → Prop} (h : Post K W σ ι H ((bOf d S).bind k) P) (s : Sim K ι H S) (r : RepV K ι H d v) :
    ∃ c, v = .bl c ∧ Post K W σ ι H (k c S) P := by
  cases d with
  | bl b => rw [RepV] at r; exact ⟨b, r, h⟩
  | _ => exact (show False from h).elim
theorem de_one {op} {f : Ev → Sto → R D} (h : DE X W a f) : DE X W (.BoolOp op [a] pos) f := pe_one h
theorem de_and {f g : Ev → Sto → R D} (ha : DE X W a f) (hb : DE X W (.BoolOp .And (b :: rest) pos) g) : DE X W (.BoolOp .And (a :: b :: rest) pos) (eAndV f g) := by
  refine PE.imp (pe_and ha hb) fun σ H Q ⟨ι, ρ, S, hE, hS, h⟩ => ⟨ι, ρ, S, hE, hS, (Post.bind h).mono fun d S1 ι1 H1 G1 s1 h1 v rv => ?_⟩
  obtain ⟨k, e, h2⟩ := bOf_bind h1 s1 rv
  refine ⟨k, e, ?_⟩
  cases k with
  | true => rw [if_pos rfl] at h2 ⊢; exact ⟨ι1, ρ, S1, hE.grow G1, s1, h2⟩
  | false => rw [if_neg (by decide)] at h2 ⊢; exact h2.here s1 _ (by rw [RepV])
theorem de_or {f g : Ev → Sto → R D} (ha : DE X W a f) (hb : DE X W (.BoolOp .Or (b :: rest) pos) g) : DE X W (.BoolOp .Or (a :: b :: rest) pos) (eOrV f g) := by
  refine PE.imp (pe_or ha hb) fun σ H Q ⟨ι, ρ, S, hE, hS, h⟩ => ⟨ι, ρ, S, hE, hS, (Post.bind h).mono fun d S1 ι1 H1 G1 s1 h1 v rv => ?_⟩
  obtain ⟨k, e, h2⟩ := bOf_bind h1 s1 rv
  refine ⟨k, e, ?_⟩
  cases k with
  | false => rw [if_neg (by decide)] at h2 ⊢; exact ⟨ι1, ρ, S1, hE.grow G1, s1, h2⟩
  | true => rw [if_pos rfl] at h2 ⊢; exact h2.here s1 _ (by rw [RepV])
theorem de_not {f : Ev → Sto → R D} (ha : DE X W a f) : DE X W (.UnaryOp .Not a pos) (eNotV f) := by
  refine PE.imp (pe_not ha) fun σ H Q ⟨ι, ρ, S, hE, hS, h⟩ => ⟨ι, ρ, S, hE, hS, (Post.bind h).mono fun d S1 ι1 H1 G1 s1 h1 v rv => ?_⟩
  obtain ⟨k, e, h2⟩ := bOf_bind h1 s1 rv
  exact ⟨k, e, h2.here s1 _ (by rw [RepV])⟩
end
end DL

/-! Layer part 2: operators, displays, subscripts, slices. -/
namespace DL
open PySem PySem.Spec L2
open PyProof.Rows hiding St
theorem OpR.or {X : Cx} {f : Value → Value → Sem Value} {r r' : R2} (h : OpR X f r) (h' : OpR X f r') : OpR X f (fun x y H Q => r x y H Q ∨ r' x y H Q) := by
  intro pins s σ H x y v u Q I rx ry q
  rcases q with q | q
  · exact h pins s σ H x y v u Q I rx ry q
  · exact h' pins s σ H x y v u Q I rx ry q
/-- a new tuple, a new list that is not changed any more -/
theorem rep_tup {K : PySem.W.Frag} {ι : List Addr} {H : Hp} {S : Sto} {ds : List D} {vs : List V} {p : Addr} (s : Sim K ι H S) (h : H p = none) (r : RepL K ι H ds vs) : RepV K ι (upd H p (.tup vs)) (.tup ds) (.ref p) := by
  rw [RepV]
  exact ⟨p, vs, rfl, .inl ⟨s.free h, upd_same⟩, RepL.grow (Grow.upd h) ds vs r⟩
theorem rep_fl {K : PySem.W.Frag} {ι : List Addr} {H : Hp} {S : Sto} {ds : List D} {vs : List V} {p : Addr} (s : Sim K ι H S) (h : H p = none) (r : RepL K ι H ds vs) : RepV K ι (upd H p (.lst vs)) (.fl ds) (.ref p) := by
  rw [RepV]
  exact ⟨p, vs, rfl, ⟨s.free h, upd_same⟩, RepL.grow (Grow.upd h) ds vs r⟩
theorem new_tup {K : PySem.W.Frag} {W : WX} {σ : St} {ι : List Addr} {H : Hp} {S : Sto} {ds : List D} {vs : List V} {Q : VK} (h : Post K W σ ι H (.ok (.tup ds) S) fun d _ ι' H' => ∀ v, RepV K ι' H' d v → Q v H') (s : Sim K ι H S) (r : RepL K ι H ds vs) :
    ∀ p, H p = none → Q (.ref p) (upd H p (.tup vs)) := fun p hp => h ι _ (Grow.upd hp) (s.upd hp) _ (rep_tup s hp r)
theorem new_fl {K : PySem.W.Frag} {W : WX} {σ : St} {ι : List Addr} {H : Hp} {S : Sto} {ds : List D} {vs : List V} {Q : VK} (h : Post K W σ ι H (.ok (.fl ds) S) fun d _ ι' H' => ∀ v, RepV K ι' H' d v → Q v H') (s : Sim K ι H S) (r : RepL K ι H ds vs) :
    ∀ p, H p = none → Q (.ref p) (upd H p (.lst vs)) := fun p hp => h ι _ (Grow.upd hp) (s.upd hp) _ (rep_fl s hp r)
theorem new_loc {K : PySem.W.Frag} {W : WX} {σ : St} {ι : List Addr} {H : Hp} {S : Sto} {ds : List D} {vs : List V} {Q : VK} (h : Post K W σ ι H (.ok (.loc S.length) (S ++ [.lst ds])) fun d _ ι' H' => ∀ v, RepV K ι' H' d v → Q v H') (s : Sim K ι H S) (r : RepL K ι H ds vs) :
    ∀ p, H p = none → Q (.ref p) (upd H p (.lst vs)) := fun p hp => by
  refine h (ι ++ [p]) _ (Grow.push hp) (s.push hp ⟨vs, upd_same, RepL.grow (Grow.push hp) ds vs r⟩) _ ?_
  rw [RepV]
  exact ⟨p, by rw [← s.len]; simp, rfl⟩
/-! ### sequences -/
def getL (S : Sto) (n : Nat) : Option (List D) := match S[n]? with
  | some (.lst ds) => some ds
  | _ => none
def getQ (S : Sto) (n : Nat) : Option (List D) := match S[n]? with
  | some (.lst ds) => some ds
  | some (.scr ds) => some ds
  | _ => none
def lstOf (S : Sto) : D → Option (List D)
  | .fl ds => some ds
  | .loc n => getL S n
  | _ => none
def seqOf (S : Sto) : D → Option (List D)
  | .tup ds => some ds
  | .fl ds => some ds
  | .kl ds => some ds
  | .loc n => getQ S n
  | _ => none
theorem getL_some {S : Sto} {n : Nat} {ds : List D} (h : getL S n = some ds) : S[n]? = some (.lst ds) := by
  unfold getL at h
  (try unfold ifp at h); split at h
  · rename_i e; cases h; exact e
  · cases h
theorem getL_of {S : Sto} {n : Nat} {ds : List D} (h : S[n]? = some (.lst ds)) : getL S n = some ds := by unfold getL; rw [h]
theorem getQ_of {S : Sto} {n : Nat} {ds : List D} (h : S[n]? = some (.lst ds)) : getQ S n = some ds := by unfold getQ; rw [h]
theorem lst_at {K : PySem.W.Frag} {ι : List Addr} {H : Hp} {S : Sto} {d : D} {x : V} {ds : List D} (s : Sim K ι H S) (r : RepV K ι H d x) (e : lstOf S d = some ds) : ∃ p vs, x = .ref p ∧ H p = some (.lst vs) ∧ RepL K ι H ds vs := by
  cases d with
  | fl xs => cases e; rw [RepV] at r; obtain ⟨a, vs, rfl, t, q⟩ := r; exact ⟨a, vs, rfl, t.2, q⟩
  | loc n =>
    rw [RepV] at r
    obtain ⟨a, ea, rfl⟩ := r
    obtain ⟨vs, h1, h2⟩ := s.ob _ _ _ ea (getL_some e)
    exact ⟨a, vs, rfl, h1, h2⟩
  | _ => cases e
theorem seq_at {K : PySem.W.Frag} {ι : List Addr} {H : Hp} {S : Sto} {d : D} {x : V} {ds : List D} (s : Sim K ι H S) (r : RepV K ι H d x) (e : seqOf S d = some ds) : ∃ p vs, x = .ref p ∧ (SqL K H p vs ∨ SqT K H p vs) ∧ RepL K ι H ds vs := by
  cases d with
  | tup xs => cases e; rw [RepV] at r; obtain ⟨a, vs, rfl, t, q⟩ := r; exact ⟨a, vs, rfl, .inr t.sq, q⟩
  | fl xs => cases e; rw [RepV] at r; obtain ⟨a, vs, rfl, t, q⟩ := r; exact ⟨a, vs, rfl, .inl t.sq, q⟩
  | kl xs => cases e; rw [RepV] at r; obtain ⟨a, vs, rfl, t, q⟩ := r; exact ⟨a, vs, rfl, .inl t.sq, q⟩
  | loc n =>
    rw [RepV] at r
    obtain ⟨a, ea, rfl⟩ := r
    have e : getQ S n = some ds := e
    unfold getQ at e
    (try unfold ifp at e); split at e
    · rename_i q; cases e
      obtain ⟨vs, h1, h2⟩ := s.ob _ _ _ ea q
      exact ⟨a, vs, rfl, .inl (SqL.of h1), h2⟩
    · rename_i q; cases e
      obtain ⟨o, vs, h1, h2⟩ := s.ob _ _ _ ea q
      exact ⟨a, vs, rfl, .inl (.inl (.inr ⟨o, h1⟩)), h2⟩
    · cases e
  | _ => cases e
theorem tup_at {K : PySem.W.Frag} {ι : List Addr} {H : Hp} {ds : List D} {x : V} (r : RepV K ι H (.tup ds) x) : ∃ p vs, x = .ref p ∧ SqT K H p vs ∧ RepL K ι H ds vs := by
  rw [RepV] at r; obtain ⟨a, vs, rfl, t, q⟩ := r; exact ⟨a, vs, rfl, t.sq, q⟩
theorem int_at {K : PySem.W.Frag} {ι : List Addr} {H : Hp} {i : Int} {x : V} (r : RepV K ι H (.int i) x) : x = .int i := by rw [RepV] at r; exact r
theorem str_at {K : PySem.W.Frag} {ι : List Addr} {H : Hp} {i : Str} {x : V} (r : RepV K ι H (.str i) x) : x = .str i := by rw [RepV] at r; exact r
theorem int_rep {K : PySem.W.Frag} {ι : List Addr} {H : Hp} {i : Int} : RepV K ι H (.int i) (.int i) := by rw [RepV]
theorem bl_rep {K : PySem.W.Frag} {ι : List Addr} {H : Hp} {i : Bool} : RepV K ι H (.bl i) (.bl i) := by rw [RepV]
theorem str_rep {K : PySem.W.Frag} {ι : List Addr} {H : Hp} {i : Str} : RepV K ι H (.str i) (.str i) := by rw [RepV]
theorem non_rep {K : PySem.W.Frag} {ι : List Addr} {H : Hp} : RepV K ι H .non .non := by rw [RepV]
theorem rep_nil {K : PySem.W.Frag} {ι : List Addr} {H : Hp} {ds : List D} (h : RepL K ι H ds []) : ds = [] := by
  cases ds with
  | nil => rfl
  | cons d ds => rw [RepL] at h; obtain ⟨v, r, e, _⟩ := h; cases e

/-! ### arithmetic -/
noncomputable def dAdd (a b : D) (S : Sto) : R D := match a, b with
  | .int i, .int j => .ok (.int (i + j)) S
  | .str x, .str y => ifp (x.length + y.length ≤ sizeLine) (.ok (.str (x ++ y)) S) .stuck
  | .tup xs, .tup ys => ifp (xs.length + ys.length ≤ sizeLine) (.ok (.tup (xs ++ ys)) S) .stuck
  | a, b => match lstOf S a, lstOf S b with
    | some xs, some ys => ifp (xs.length + ys.length ≤ sizeLine) (.ok (.fl (xs ++ ys)) S) .stuck
    | _, _ => .stuck
def dSub (a b : D) (S : Sto) : R D := match a, b with
  | .int i, .int j => .ok (.int (i - j)) S
  | _, _ => .stuck
open Classical in
noncomputable def dMul (a b : D) (S : Sto) : R D := match a, b with
  | .int i, .int j => ifp (CMul i j ∨ CMulW i j) (.ok (.int (i * j)) S) .stuck
  | a, .int k => match lstOf S a with
    | some xs => ifp (-(2 ^ 63) ≤ k ∧ k < 2 ^ 63 ∧ xs.length * k.toNat ≤ sizeLine) (.ok (.fl (List.replicate k.toNat xs).flatten) S) .stuck
    | _ => .stuck
  | _, _ => .stuck
noncomputable def dFdiv (a b : D) (S : Sto) : R D := match a, b with
  | .int i, .int j => ifp (0 < j ∧ j.natAbs.log2 < 9000) (.ok (.int (i / j)) S) .stuck
  | _, _ => .stuck
def dMod (a b : D) (S : Sto) : R D := match a, b with
  | .int i, .int j => if 0 < j then .ok (.int (i % j)) S else .stuck
  | _, _ => .stuck
noncomputable def dPow (a b : D) (S : Sto) : R D := match a, b with
  | .int i, .int j => ifp (0 ≤ j ∧ j ≤ 1000000 ∧ i.natAbs < 2 ^ 64) (.ok (.int (i ^ j.toNat)) S) .stuck
  | _, _ => .stuck
def dCmp (p : Int → Int → Bool) (a b : D) (S : Sto) : R D := match a, b with
  | .int i, .int j => .ok (.bl (p i j)) S
  | _, _ => .stuck
section
variable {X : Cx} {K : PySem.W.Frag}
def rAddD (K : PySem.W.Frag) : R2 := fun x y H Q => (∃ i j, x = .int i ∧ y = .int j ∧ Q (.int (i + j)) H) ∨ (∃ i j, x = .str i ∧ y = .str j ∧ i.length + j.length ≤ sizeLine ∧ Q (.str (i ++ j)) H) ∨ rCatA K x y H Q ∨ rCat x y H Q
theorem or_add : OpR X (binaryOp .Add) (rAddD X.K) := OpR.or op_add (OpR.or op_add_str (OpR.or op_catA op_cat))
theorem RepL.replicate {K : PySem.W.Frag} {ι : List Addr} {H : Hp} {ds : List D} {vs : List V} (h : RepL K ι H ds vs) : ∀ n : Nat, RepL K ι H (List.replicate n ds).flatten (List.replicate n vs).flatten
  | 0 => RepL.nil
  | n + 1 => by
    rw [List.replicate_succ, List.replicate_succ, List.flatten_cons, List.flatten_cons]
    exact RepL.app ds vs h _ _ (RepL.replicate h n)
theorem k_cat {W : WX} {σ : St} {ι : List Addr} {H : Hp} {S : Sto} {a b : D} {x y : V} {Q : VK} (s : Sim K ι H S) (rx : RepV K ι H a x) (ry : RepV K ι H b y)
    (h : Post K W σ ι H (match lstOf S a, lstOf S b with
    | some xs, some ys => ifp (xs.length + ys.length ≤ sizeLine) (.ok (.fl (xs ++ ys)) S) .stuck
    | _, _ => .stuck) fun d _ ι' H' => ∀ v, RepV K ι' H' d v → Q v H') : rCat x y H Q := by
  (try unfold ifp at h); split at h
  · rename_i xs ys e1 e2
    (try unfold ifp at h); split at h
    · rename_i hl
      obtain ⟨p, vs, rfl, hp, rp⟩ := lst_at s rx e1
      obtain ⟨q, us, rfl, hq, rq⟩ := lst_at s ry e2
      refine ⟨p, q, vs, us, rfl, rfl, hp, hq, ?_, new_fl h s (RepL.app _ _ rp _ _ rq)⟩
      rw [← RepL.length _ _ rp, ← RepL.length _ _ rq]; exact hl
    · exact h.elim
  · exact h.elim
theorem k_add : OpK K (rAddD K) dAdd := by
  intro W σ ι H S x y a b Q s rx ry h
  unfold dAdd at h
  (try unfold ifp at h); split at h
  · rename_i i j
    exact .inl ⟨i, j, int_at rx, int_at ry, h.here s _ int_rep⟩
  · rename_i i j
    (try unfold ifp at h); split at h
    · rename_i hl
      exact .inr (.inl ⟨i, j, str_at rx, str_at ry, hl, h.here s _ str_rep⟩)
    · exact h.elim
  · rename_i xs ys
    (try unfold ifp at h); split at h
    · rename_i hl
      obtain ⟨p, vs, rfl, hp, rp⟩ := tup_at rx
      obtain ⟨q, us, rfl, hq, rq⟩ := tup_at ry
      refine .inr (.inr (.inl ⟨p, q, vs, us, rfl, rfl, hp, hq, ?_, fun e => ?_, fun e1 e => ?_, fun _ _ => new_tup h s (RepL.app _ _ rp _ _ rq)⟩))
      · rw [← RepL.length _ _ rp, ← RepL.length _ _ rq]; exact hl
      · subst e
        have := rep_nil rp
        subst this
        exact h.here s _ (by simpa using ry)
      · subst e
        have := rep_nil rq
        subst this
        exact h.here s _ (by simpa using rx)
    · exact h.elim
  · exact .inr (.inr (.inr (k_cat s rx ry h)))
theorem k_sub : OpK K (rI0 fun i j => .int (i - j)) dSub := by
  intro W σ ι H S x y a b Q s rx ry h
  unfold dSub at h
  (try unfold ifp at h); split at h
  · rename_i i j
    exact ⟨i, j, int_at rx, int_at ry, h.here s _ int_rep⟩
  · exact h.elim
def rMulD : R2 := fun x y H Q => rI CMul (fun i j => .int (i * j)) x y H Q ∨ rI CMulW (fun i j => .int (i * j)) x y H Q ∨ rRep x y H Q
theorem or_mul : OpR X (binaryOp .Mult) rMulD := OpR.or op_mul (OpR.or op_mulW op_rep)
theorem k_mul : OpK K rMulD dMul := by
  intro W σ ι H S x y a b Q s rx ry h
  unfold dMul at h
  (try unfold ifp at h); split at h
  · rename_i i j
    (try unfold ifp at h); split at h
    · rename_i hl
      rcases hl with hl | hl
      · exact .inl ⟨i, j, int_at rx, int_at ry, hl, h.here s _ int_rep⟩
      · exact .inr (.inl ⟨i, j, int_at rx, int_at ry, hl, h.here s _ int_rep⟩)
    · exact h.elim
  · rename_i k _
    (try unfold ifp at h); split at h
    · rename_i xs e
      (try unfold ifp at h); split at h
      · rename_i hl
        obtain ⟨p, vs, rfl, hp, rp⟩ := lst_at s rx e
        refine .inr (.inr ⟨p, k, vs, rfl, int_at ry, hp, hl.1, hl.2.1, ?_, new_fl h s (RepL.replicate rp _)⟩)
        rw [← RepL.length _ _ rp]; exact hl.2.2
      · exact h.elim
    · exact h.elim
  · exact h.elim
theorem k_fdiv : OpK K (rI CDivW fun i j => .int (i / j)) dFdiv := by
  intro W σ ι H S x y a b Q s rx ry h
  unfold dFdiv at h
  (try unfold ifp at h); split at h
  · rename_i i j
    (try unfold ifp at h); split at h
    · rename_i hl
      exact ⟨i, j, int_at rx, int_at ry, hl, h.here s _ int_rep⟩
    · exact h.elim
  · exact h.elim
theorem k_mod : OpK K (rI (fun _ j => j ≠ 0) fun i j => .int (i.fmod j)) dMod := by
  intro W σ ι H S x y a b Q s rx ry h
  unfold dMod at h
  (try unfold ifp at h); split at h
  · rename_i i j
    (try unfold ifp at h); split at h
    · rename_i hl
      refine ⟨i, j, int_at rx, int_at ry, by omega, ?_⟩
      show Q (V.int (i.fmod j)) H
      rw [Int.fmod_eq_emod_of_nonneg i (by omega)]
      exact h.here s _ int_rep
    · exact h.elim
  · exact h.elim
theorem k_pow : OpK K (rI CPow fun i j => .int (i ^ j.toNat)) dPow := by
  intro W σ ι H S x y a b Q s rx ry h
  unfold dPow at h
  (try unfold ifp at h); split at h
  · rename_i i j
    (try unfold ifp at h); split at h
    · rename_i hl
      exact ⟨i, j, int_at rx, int_at ry, hl, h.here s _ int_rep⟩
    · exact h.elim
  · exact h.elim
theorem k_cmp {p : Int → Int → Bool} : OpK K (rI0 fun i j => .bl (p i j)) (dCmp p) := by
  intro W σ ι H S x y a b Q s rx ry h
  unfold dCmp at h
  (try unfold ifp at h); split at h
  · rename_i i j
    exact ⟨i, j, int_at rx, int_at ry, h.here s _ bl_rep⟩
  · exact h.elim
def dLt : D → D → Sto → R D := dCmp fun i j => decide (i < j)
def dLe : D → D → Sto → R D := dCmp fun i j => decide (i ≤ j)
def dGt : D → D → Sto → R D := dCmp fun i j => decide (j < i)
def dGe : D → D → Sto → R D := dCmp fun i j => decide (j ≤ i)
end
end DL

/-! Layer part 3: arguments, displays, subscripts, slices, equality, membership. -/
namespace DL
open PySem PySem.Spec L2
open PyProof.Rows hiding St
section
variable {X : Cx} {W : WX} {pos : Pos} {e : Expr} {es : List Expr}
def aNil : Ev → Sto → R (List D) := fun _ S => .ok [] S
def aCons (f : Ev → Sto → R D) (g : Ev → Sto → R (List D)) : Ev → Sto → R (List D) := fun ρ S => (f ρ S).bind fun d S1 => (g ρ S1).bind fun ds S2 => .ok (d :: ds) S2
def sOf (d : D) (S : Sto) : R (List D) := match seqOf S d with
  | some ds => .ok ds S
  | none => .stuck
def aStar (f : Ev → Sto → R D) (g : Ev → Sto → R (List D)) : Ev → Sto → R (List D) := fun ρ S => (f ρ S).bind fun d S1 => (sOf d S1).bind fun xs S2 => (g ρ S2).bind fun ds S3 => .ok (xs ++ ds) S3
theorem da_nil : DA X W [] aNil := PA.imp pa_nil fun σ H Q ⟨ι, ρ, S, hE, hS, h⟩ => h.here hS [] RepL.nil
theorem da_cons {f : Ev → Sto → R D} {g : Ev → Sto → R (List D)} (ha : DE X W e f) (hr : DA X W es g) (hs : starEach (e :: es) X.env = (false, eval e X.env) :: starEach es X.env := by rfl) : DA X W (e :: es) (aCons f g) := by
  refine PA.imp (pa_cons ha hr hs) fun σ H Q ⟨ι, ρ, S, hE, hS, h⟩ => ⟨ι, ρ, S, hE, hS, (Post.bind h).mono fun d S1 ι1 H1 G1 s1 h1 v rv => ?_⟩
  refine ⟨ι1, ρ, S1, hE.grow G1, s1, (Post.bind h1).mono fun ds S2 ι2 H2 G2 s2 h2 vs rs => ?_⟩
  exact h2.here s2 _ (RepL.cons (RepV.grow G2 d v rv) rs)
theorem sOf_bind {α : Type} {K : PySem.W.Frag} {σ : St} {ι : List Addr} {H : Hp} {d : D} {S : Sto} {v : V} {k : List D → Sto → R α} {P : α → Sto → List Addr → Hp → Prop} (h : Post K W σ ι H ((sOf d S).bind k) P) (s : Sim K ι H S) (r : RepV K ι H d v) :
    ∃ ds p vs, v = .ref p ∧ (SqL K H p vs ∨ SqT K H p vs) ∧ RepL K ι H ds vs ∧ Post K W σ ι H (k ds S) P := by
  unfold sOf at h
  cases e : seqOf S d with
  | none => rw [e] at h; exact h.elim
  | some ds =>
    rw [e] at h
    obtain ⟨p, vs, rfl, q, rl⟩ := seq_at s r e
    exact ⟨ds, p, vs, rfl, q, rl, h⟩
theorem da_star {p : Pos} {f : Ev → Sto → R D} {g : Ev → Sto → R (List D)} (ha : DE X W e f) (hr : DA X W es g) (hs : starEach (.Starred e p :: es) X.env = (true, eval e X.env) :: starEach es X.env := by rfl) : DA X W (.Starred e p :: es) (aStar f g) := by
  refine PA.imp (StX.pa_star ha hr hs) fun σ H Q ⟨ι, ρ, S, hE, hS, h⟩ => ⟨ι, ρ, S, hE, hS, (Post.bind h).mono fun d S1 ι1 H1 G1 s1 h1 v rv => ?_⟩
  obtain ⟨ds, p, vs, rfl, q, rl, h2⟩ := sOf_bind h1 s1 rv
  refine ⟨p, vs, rfl, q.symm, ι1, ρ, S1, hE.grow G1, s1, (Post.bind h2).mono fun es S2 ι2 H2 G2 s2 h2 us rs => ?_⟩
  exact h2.here s2 _ (RepL.app _ _ (RepL.grow G2 _ _ rl) _ _ rs)

/-! ### displays -/
noncomputable def eTup (g : Ev → Sto → R (List D)) : Ev → Sto → R D := fun ρ S => (g ρ S).bind fun ds S1 => ifp (ds.length ≤ sizeLine) (.ok (.tup ds) S1) .stuck
noncomputable def eFl (g : Ev → Sto → R (List D)) : Ev → Sto → R D := fun ρ S => (g ρ S).bind fun ds S1 => ifp (ds.length ≤ sizeLine) (.ok (.fl ds) S1) .stuck
noncomputable def eLoc (g : Ev → Sto → R (List D)) : Ev → Sto → R D := fun ρ S => (g ρ S).bind fun ds S1 => ifp (ds.length ≤ sizeLine) (.ok (.loc S1.length) (S1 ++ [.lst ds])) .stuck
theorem de_tup {k} {g : Ev → Sto → R (List D)} (h : DA X W es g) : DE X W (.Tuple es k pos) (eTup g) := by
  refine PE.imp (pe_tup h) fun σ H Q ⟨ι, ρ, S, hE, hS, h⟩ => ⟨ι, ρ, S, hE, hS, (Post.bind h).mono fun ds S1 ι1 H1 G1 s1 h1 vs rs => ?_⟩
  (try unfold ifp at h1); split at h1
  · rename_i hl
    exact ⟨by rw [← RepL.length _ _ rs]; exact hl, new_tup h1 s1 rs⟩
  · exact h1.elim
theorem de_fl {g : Ev → Sto → R (List D)} (h : DA X W es g) : DE X W (.List es pos) (eFl g) := by
  refine PE.imp (pe_lst h) fun σ H Q ⟨ι, ρ, S, hE, hS, h⟩ => ⟨ι, ρ, S, hE, hS, (Post.bind h).mono fun ds S1 ι1 H1 G1 s1 h1 vs rs => ?_⟩
  (try unfold ifp at h1); split at h1
  · rename_i hl
    exact ⟨by rw [← RepL.length _ _ rs]; exact hl, new_fl h1 s1 rs⟩
  · exact h1.elim
theorem de_loc {g : Ev → Sto → R (List D)} (h : DA X W es g) : DE X W (.List es pos) (eLoc g) := by
  refine PE.imp (pe_lst h) fun σ H Q ⟨ι, ρ, S, hE, hS, h⟩ => ⟨ι, ρ, S, hE, hS, (Post.bind h).mono fun ds S1 ι1 H1 G1 s1 h1 vs rs => ?_⟩
  (try unfold ifp at h1); split at h1
  · rename_i hl
    exact ⟨by rw [← RepL.length _ _ rs]; exact hl, new_loc h1 s1 rs⟩
  · exact h1.elim

/-! ### subscripts -/
noncomputable def dIx (a b : D) (S : Sto) : R D := match a, b with
  | .str z, .int i => ifp (z.length ≤ sizeLine) (match atI z.cps.toList i with
    | some c => .ok (.str ⟨#[c]⟩) S
    | none => .stuck) .stuck
  | a, .int i => match seqOf S a with
    | some xs => (match atI xs i with
      | some d => .ok d S
      | none => .stuck)
    | none => .stuck
  | _, _ => .stuck
theorem atI_rep {K : PySem.W.Frag} {ι : List Addr} {H : Hp} {ds : List D} {vs : List V} {i : Int} {d : D} (r : RepL K ι H ds vs) (e : atI ds i = some d) : ∃ v, atI vs i = some v ∧ RepV K ι H d v := by
  unfold atI at e ⊢
  rw [← RepL.length _ _ r]
  cases h : ixN ds.length i with
  | none => rw [h] at e; cases e
  | some j =>
    rw [h] at e
    exact RepL.get _ _ r j d e
theorem k_ix {K : PySem.W.Frag} : OpK K (rIx K) dIx := by
  intro W σ ι H S x y a b Q s rx ry h
  unfold dIx at h
  (try unfold ifp at h); split at h
  · rename_i z i
    (try unfold ifp at h); split at h
    · rename_i hz
      (try unfold ifp at h); split at h
      · rename_i c hc
        exact .inr (.inr ⟨z, i, c, str_at rx, int_at ry, hz, hc, h.here s _ str_rep⟩)
      · exact h.elim
    · exact h.elim
  · rename_i i _
    (try unfold ifp at h); split at h
    · rename_i xs e
      (try unfold ifp at h); split at h
      · rename_i d hd
        obtain ⟨p, vs, rfl, q, rl⟩ := seq_at s rx e
        obtain ⟨v, hv, rv⟩ := atI_rep rl hd
        rcases q with q | q
        · exact .inl ⟨p, vs, i, v, rfl, int_at ry, q, hv, h.here s _ rv⟩
        · exact .inr (.inl ⟨p, vs, i, v, rfl, int_at ry, q, hv, h.here s _ rv⟩)
      · exact h.elim
    · exact h.elim
  · exact h.elim
theorem de_ix {a b : Expr} {f g : Ev → Sto → R D} (ha : DE X W a f) (hb : DE X W b g) (hs : PlainIx b := by exact fun _ _ => rfl) : DE X W (.Subscript a b pos) (eOp dIx f g) :=
  PE.imp (pe_ix ix_seq ha hb hs) (op_seq k_ix)

/-! ### slices -/
def rdO (K : PySem.W.Frag) (W : WX) (f : Ev → Sto → R (Option Int)) : TO := fun σ H Q => ∃ ι ρ S, RepE K ι H σ ρ ∧ Sim K ι H S ∧ Post K W σ ι H (f ρ S) fun b _ _ H' => Q b H'
abbrev DO (X : Cx) (W : WX) (e : Option Expr) (f : Ev → Sto → R (Option Int)) : Prop := PO X e (rdO X.K W f)
theorem PO.imp {X : Cx} {e : Option Expr} {t u : TO} (h : PO X e t) (i : ∀ σ H Q, u σ H Q → t σ H Q) : PO X e u := ⟨fun pins s σ H Q I q => h.run pins s σ H Q I (i σ H Q q)⟩
def oNone : Ev → Sto → R (Option Int) := fun _ S => .ok none S
def iOf (d : D) (S : Sto) : R Int := match d with
  | .int i => .ok i S
  | _ => .stuck
def oSome (f : Ev → Sto → R D) : Ev → Sto → R (Option Int) := fun ρ S => (f ρ S).bind fun d S1 => (iOf d S1).bind fun i S2 => .ok (some i) S2
theorem do_none : DO X W none oNone := PO.imp po_none fun σ H Q ⟨ι, ρ, S, hE, hS, h⟩ => h.here hS
theorem do_some {f : Ev → Sto → R D} (h : DE X W e f) : DO X W (some e) (oSome f) := by
  refine PO.imp (po_some h) fun σ H Q ⟨ι, ρ, S, hE, hS, h⟩ => ⟨ι, ρ, S, hE, hS, (Post.bind h).mono fun d S1 ι1 H1 G1 s1 h1 v rv => ?_⟩
  cases d with
  | int i => exact ⟨i, int_at rv, h1.here s1⟩
  | _ => exact (show False from h1).elim
def cut {α : Type} (xs : List α) (lo hi : Option Int) : List α := (xs.drop (HT.sIx xs.length 0 lo)).take (HT.sIx xs.length xs.length hi - HT.sIx xs.length 0 lo)
noncomputable def dSl (mk : List D → Sto → R D) (a : D) (lo hi : Option Int) (S : Sto) : R D := match a with
  | .str z => ifp (z.length ≤ sizeLine) (.ok (.str (cutS z lo hi)) S) .stuck
  | .tup xs => .ok (.tup (cut xs lo hi)) S
  | a => match lstOf S a with
    | some xs => mk (cut xs lo hi) S
    | none => .stuck
def mkFl (ds : List D) (S : Sto) : R D := .ok (.fl ds) S
def mkLoc (ds : List D) (S : Sto) : R D := .ok (.loc S.length) (S ++ [.lst ds])
/-- a new list comes, frozen or into the store -/
def MkOk (mk : List D → Sto → R D) : Prop := ∀ (K : PySem.W.Frag) (W : WX) (σ : St) (ι : List Addr) (H : Hp) (S : Sto) (ds : List D) (vs : List V) (Q : VK), Post K W σ ι H (mk ds S) (fun d _ ι' H' => ∀ v, RepV K ι' H' d v → Q v H') → Sim K ι H S → RepL K ι H ds vs →
  ∀ p, H p = none → Q (.ref p) (upd H p (.lst vs))
theorem mk_fl : MkOk mkFl := fun _ _ _ _ _ _ _ _ _ h s r => new_fl h s r
theorem mk_loc : MkOk mkLoc := fun _ _ _ _ _ _ _ _ _ h s r => new_loc h s r
noncomputable def eSl (mk : List D → Sto → R D) (f : Ev → Sto → R D) (l u : Ev → Sto → R (Option Int)) : Ev → Sto → R D := fun ρ S => (f ρ S).bind fun d S1 => (l ρ S1).bind fun lo S2 => (u ρ S2).bind fun hi S3 => dSl mk d lo hi S3
theorem cut_rep {K : PySem.W.Frag} {ι : List Addr} {H : Hp} {ds : List D} {vs : List V} (r : RepL K ι H ds vs) (lo hi : Option Int) : RepL K ι H (cut ds lo hi) (cutV vs lo hi) := by
  unfold cut cutV
  rw [← RepL.length _ _ r]
  exact RepL.take _ _ _ (RepL.drop _ _ _ r)
theorem cut_whole {α : Type} (xs : List α) (lo hi : Option Int) (h : HT.sIx xs.length 0 lo = 0 ∧ HT.sIx xs.length xs.length hi = xs.length) : cut xs lo hi = xs := by
  unfold cut
  rw [h.1, h.2]
  simp
theorem de_sl {mk : List D → Sto → R D} {lo hi : Option Expr} {p2 : Pos} {f : Ev → Sto → R D} {l u : Ev → Sto → R (Option Int)} (m : MkOk mk) (he : DE X W e f) (hl : DO X W lo l) (hu : DO X W hi u) : DE X W (.Subscript e (.Slice lo hi none p2) pos) (eSl mk f l u) := by
  refine PE.imp (pe_slice (SlR.or sl_str (SlR.or sl_tupA sl_list)) he hl hu) fun σ H Q ⟨ι, ρ, S, hE, hS, h⟩ => ⟨ι, ρ, S, hE, hS, (Post.bind h).mono fun d S1 ι1 H1 G1 s1 h1 v rv => ?_⟩
  refine ⟨ι1, ρ, S1, hE.grow G1, s1, (Post.bind h1).mono fun lo S2 ι2 H2 G2 s2 h2 => ?_⟩
  refine ⟨ι2, ρ, S2, (hE.grow G1).grow G2, s2, (Post.bind h2).mono fun hi S3 ι3 H3 G3 s3 h3 => ?_⟩
  have rv := RepV.grow G3 d v (RepV.grow G2 d v rv)
  unfold dSl at h3
  (try unfold ifp at h3); split at h3
  · (try unfold ifp at h3); split at h3
    · rename_i hz
      exact .inl ⟨_, str_at rv, hz, h3.here s3 _ str_rep⟩
    · exact h3.elim
  · obtain ⟨p, vs, rfl, q, rl⟩ := tup_at rv
    refine .inr (.inl ⟨p, vs, rfl, q, fun e => ?_, fun _ => new_tup h3 s3 (cut_rep rl _ _)⟩)
    rw [← RepL.length _ _ rl] at e
    rw [cut_whole _ _ _ e] at h3
    exact h3.here s3 _ rv
  · (try unfold ifp at h3); split at h3
    · rename_i xs e
      obtain ⟨p, vs, rfl, q, rl⟩ := lst_at s3 rv e
      exact .inr (.inr ⟨p, vs, rfl, SqL.of q, m _ _ _ _ _ _ _ _ _ h3 s3 (cut_rep rl _ _)⟩)
    · exact h3.elim
end
end DL

/-! Layer part 4: data as the model's own data; equality, membership, repr. -/
namespace DL
open PySem PySem.Spec L2
open PyProof.Rows hiding St
def keyPy : Key → PyData
  | .inl i => .int i
  | .inr x => .str x
mutual
def py : D → Option PyData
  | .non => some .none
  | .bl b => some (.bool b)
  | .int i => some (.int i)
  | .str x => some (.str x)
  | .tup ds => (pyL ds).map .tuple
  | .fl ds => (pyL ds).map .list
  | .kl _ => none
  | .fd kvs => (pyK kvs).map .dict
  | .ty _ => none
  | .fn _ => none
  | .exc _ _ => none
  | .loc _ => none
def pyL : List D → Option (List PyData)
  | [] => some []
  | d :: ds => (py d).bind fun p => (pyL ds).map fun ps => p :: ps
def pyK : List (Key × D) → Option (List (PyData × PyData))
  | [] => some []
  | (k, d) :: ds => (py d).bind fun p => (pyK ds).map fun ps => (keyPy k, p) :: ps
end
def pyS (S : Sto) : D → Option PyData
  | .loc n => (getQ S n).bind fun ds => (pyL ds).map .list
  | d => py d
mutual
theorem py_dp {K : PySem.W.Frag} {ι : List Addr} {H : Hp} : ∀ (d : D) (v : V) (p : PyData), RepV K ι H d v → py d = some p → p.hasDict = false → Dp K H v p
  | .non, v, p, r, e, _ => by rw [RepV] at r; rw [py] at e; cases e; subst r; exact .non
  | .bl b, v, p, r, e, _ => by rw [RepV] at r; rw [py] at e; cases e; subst r; exact .bl b
  | .int i, v, p, r, e, _ => by rw [RepV] at r; rw [py] at e; cases e; subst r; exact .int i
  | .str x, v, p, r, e, _ => by rw [RepV] at r; rw [py] at e; cases e; subst r; exact .str x
  | .tup ds, v, p, r, e, n => by
    rw [RepV] at r
    obtain ⟨a, vs, rfl, t, q⟩ := r
    rw [py] at e
    cases h : pyL ds with
    | none => rw [h] at e; cases e
    | some ps =>
      rw [h] at e; cases e
      exact .tup t.sq (pyL_dp ds vs ps q h (by simpa [PyData.hasDict] using n))
  | .fl ds, v, p, r, e, n => by
    rw [RepV] at r
    obtain ⟨a, vs, rfl, t, q⟩ := r
    rw [py] at e
    cases h : pyL ds with
    | none => rw [h] at e; cases e
    | some ps =>
      rw [h] at e; cases e
      exact .lst t.sq (pyL_dp ds vs ps q h (by simpa [PyData.hasDict] using n))
  | .kl _, v, p, r, e, _ => by rw [py] at e; cases e
  | .fd kvs, v, p, r, e, n => by
    rw [py] at e
    cases h : pyK kvs with
    | none => rw [h] at e; cases e
    | some ps => rw [h] at e; cases e; simp [PyData.hasDict] at n
  | .ty _, v, p, r, e, _ => by rw [py] at e; cases e
  | .fn _, v, p, r, e, _ => by rw [py] at e; cases e
  | .exc _ _, v, p, r, e, _ => by rw [py] at e; cases e
  | .loc _, v, p, r, e, _ => by rw [py] at e; cases e
theorem pyL_dp {K : PySem.W.Frag} {ι : List Addr} {H : Hp} : ∀ (ds : List D) (vs : List V) (ps : List PyData), RepL K ι H ds vs → pyL ds = some ps → PyData.hasDictAll ps = false → DpAll K H vs ps
  | [], vs, ps, r, e, _ => by rw [RepL] at r; rw [pyL] at e; cases e; subst r; exact .nil
  | d :: ds, vs, ps, r, e, n => by
    rw [RepL] at r
    obtain ⟨v, us, rfl, a, b⟩ := r
    rw [pyL] at e
    cases h : py d with
    | none => rw [h] at e; cases e
    | some p =>
      rw [h] at e
      cases h2 : pyL ds with
      | none => rw [h2] at e; cases e
      | some qs =>
        rw [h2] at e; cases e
        simp only [PyData.hasDictAll, Bool.or_eq_false_iff] at n
        exact .cons (py_dp d v p a h n.1) (pyL_dp ds us qs b h2 n.2)
end
theorem pyS_dp {K : PySem.W.Frag} {ι : List Addr} {H : Hp} {S : Sto} {d : D} {v : V} {p : PyData} (s : Sim K ι H S) (r : RepV K ι H d v) (e : pyS S d = some p) (n : p.hasDict = false) : Dp K H v p := by
  cases d with
  | loc m =>
    have e : (getQ S m).bind (fun ds => (pyL ds).map .list) = some p := e
    cases h : getQ S m with
    | none => rw [h] at e; cases e
    | some ds =>
      rw [h] at e
      have e : (pyL ds).map PyData.list = some p := e
      cases h2 : pyL ds with
      | none => rw [h2] at e; cases e
      | some ps =>
        rw [h2] at e; cases e
        rw [RepV] at r
        obtain ⟨a, ea, rfl⟩ := r
        have n : PyData.hasDictAll ps = false := by simpa [PyData.hasDict] using n
        unfold getQ at h
        split at h
        · rename_i q; cases h
          obtain ⟨vs, h1, h3⟩ := s.ob _ _ _ ea q
          exact .lst (SqL.of h1) (pyL_dp _ _ _ h3 h2 n)
        · rename_i q; cases h
          obtain ⟨o, vs, h1, h3⟩ := s.ob _ _ _ ea q
          exact .lst (.inl (.inr ⟨o, h1⟩)) (pyL_dp _ _ _ h3 h2 n)
        · cases h
  | _ => exact py_dp _ v p r e n
/-! ### == and != of data -/
def dEqP (neg : Bool) (a b : D) (S : Sto) : R D := match pyS S a, pyS S b with
  | some p, some q => if SeqAt.shaped p = true ∧ SeqAt.shaped q = true then .ok (.bl (if neg then !PyData.eqv p q else PyData.eqv p q)) S else .stuck
  | _, _ => .stuck
def dEq (neg : Bool) (a b : D) (S : Sto) : R D := match a, b with
  | .str x, .str y => .ok (.bl (if neg then !decide (x = y) else decide (x = y))) S
  | a, b => dEqP neg a b S
theorem noDict_shaped {p : PyData} (h : SeqAt.shaped p = true) : p.hasDict = false := PyData.hasDict_of_canLay p (SeqAt.canLay_of_shaped h)
theorem or_eq {X : Cx} (hu : X.A.units + 64 < cLine) : OpR X (compareOp .Eq) (fun x y H Q => rEq x y H Q ∨ rEqD X.K x y H Q) := OpR.or op_eq (op_eqD hu)
theorem or_ne {X : Cx} (hu : X.A.units + 64 < cLine) : OpR X (compareOp .NotEq) (fun x y H Q => rNe x y H Q ∨ rNeD X.K x y H Q) := OpR.or op_ne (op_neD hu)
theorem dec_str (x y : Str) : decide ((V.str x) = V.str y) = decide (x = y) := by
  by_cases e : x = y
  · subst e; simp
  · rw [decide_eq_false e, decide_eq_false fun z => e (V.str.inj z)]
theorem k_eqD {K : PySem.W.Frag} : OpK K (fun x y H Q => rEq x y H Q ∨ rEqD K x y H Q) (dEq false) := by
  intro W σ ι H S x y a b Q s rx ry h
  unfold dEq at h
  split at h
  · rename_i u v
    rw [str_at rx, str_at ry]
    refine .inl ⟨rfl, ?_⟩
    rw [dec_str]
    exact h.here s _ bl_rep
  · unfold dEqP at h
    split at h
    · rename_i p q e1 e2
      split at h
      · rename_i hl
        exact .inr ⟨p, q, pyS_dp s rx e1 (noDict_shaped hl.1), pyS_dp s ry e2 (noDict_shaped hl.2), hl.1, hl.2, h.here s _ bl_rep⟩
      · exact h.elim
    · exact h.elim
theorem k_neD {K : PySem.W.Frag} : OpK K (fun x y H Q => rNe x y H Q ∨ rNeD K x y H Q) (dEq true) := by
  intro W σ ι H S x y a b Q s rx ry h
  unfold dEq at h
  split at h
  · rename_i u v
    rw [str_at rx, str_at ry]
    refine .inl ⟨rfl, ?_⟩
    rw [dec_str]
    exact h.here s _ bl_rep
  · unfold dEqP at h
    split at h
    · rename_i p q e1 e2
      split at h
      · rename_i hl
        exact .inr ⟨p, q, pyS_dp s rx e1 (noDict_shaped hl.1), pyS_dp s ry e2 (noDict_shaped hl.2), hl.1, hl.2, h.here s _ bl_rep⟩
      · exact h.elim
    · exact h.elim
/-! ### is None -/
def isN : D → Bool
  | .non => true
  | _ => false
def dIsN (neg : Bool) (a b : D) (S : Sto) : R D := match b with
  | .non => .ok (.bl (if neg then !isN a else isN a)) S
  | _ => .stuck
theorem rep_isN {K : PySem.W.Frag} {ι : List Addr} {H : Hp} {d : D} {v : V} (r : RepV K ι H d v) : decide (v = .non) = isN d := by
  cases d with
  | non => rw [RepV] at r; subst r; rfl
  | bl b => rw [RepV] at r; subst r; rfl
  | int b => rw [RepV] at r; subst r; rfl
  | str b => rw [RepV] at r; subst r; rfl
  | ty b => rw [RepV] at r; subst r; rfl
  | fn b => rw [RepV] at r; obtain ⟨a, rfl, _⟩ := r; rfl
  | exc c b => rw [RepV] at r; obtain ⟨a, _, _, rfl, _⟩ := r; rfl
  | loc b => rw [RepV] at r; obtain ⟨a, _, rfl⟩ := r; rfl
  | tup b => rw [RepV] at r; obtain ⟨a, vs, rfl, _⟩ := r; rfl
  | fl b => rw [RepV] at r; obtain ⟨a, vs, rfl, _⟩ := r; rfl
  | kl b => rw [RepV] at r; obtain ⟨a, vs, rfl, _⟩ := r; rfl
  | fd b => rw [RepV] at r; obtain ⟨a, vs, rfl, _⟩ := r; rfl
theorem k_isN {K : PySem.W.Frag} : OpK K (fun x y H Q => y = .non ∧ Q (.bl (decide (x = .non))) H) (dIsN false) := by
  intro W σ ι H S x y a b Q s rx ry h
  cases b with
  | non => rw [RepV] at ry; rw [rep_isN rx]; exact ⟨ry, h.here s _ bl_rep⟩
  | _ => exact (show False from h).elim
theorem k_notN {K : PySem.W.Frag} : OpK K (fun x y H Q => y = .non ∧ Q (.bl (!decide (x = .non))) H) (dIsN true) := by
  intro W σ ι H S x y a b Q s rx ry h
  cases b with
  | non => rw [RepV] at ry; rw [rep_isN rx]; exact ⟨ry, h.here s _ bl_rep⟩
  | _ => exact (show False from h).elim
/-! ### in, not in: lists and tuples of flat things -/
def flatD : D → Bool
  | .non => true
  | .bl _ => true
  | .int _ => true
  | .str _ => true
  | _ => false
end DL

/-! Layer part 5: statements. -/
namespace DL
open PySem PySem.Spec L2
open PyProof.Rows hiding St
def R.toS {α : Type} (r : R α) (ρ : Ev) (k : α → Sto → SR) : SR := match r with
  | .ok a S => k a S
  | .er e S => .er e ρ S
  | .stuck => .stuck
@[simp] theorem R.toS_ok {α : Type} (a : α) (S : Sto) (ρ : Ev) (k : α → Sto → SR) : (R.ok a S).toS ρ k = k a S := rfl
@[simp] theorem R.toS_er {α : Type} (e : Ex) (S : Sto) (ρ : Ev) (k : α → Sto → SR) : (R.er e S : R α).toS ρ k = .er e ρ S := rfl
@[simp] theorem R.toS_stuck {α : Type} (ρ : Ev) (k : α → Sto → SR) : (R.stuck : R α).toS ρ k = .stuck := rfl
def SR.next (r : SR) (k : Ev → Sto → SR) : SR := match r with
  | .nx ρ S => k ρ S
  | .rt d S => .rt d S
  | .bk ρ S => .bk ρ S
  | .ct ρ S => .ct ρ S
  | .er e ρ S => .er e ρ S
  | .stuck => .stuck
@[simp] theorem SR.next_nx (ρ : Ev) (S : Sto) (k : Ev → Sto → SR) : (SR.nx ρ S).next k = k ρ S := rfl
@[simp] theorem SR.next_rt (d : D) (S : Sto) (k : Ev → Sto → SR) : (SR.rt d S).next k = .rt d S := rfl
@[simp] theorem SR.next_er (e : Ex) (ρ : Ev) (S : Sto) (k : Ev → Sto → SR) : (SR.er e ρ S).next k = .er e ρ S := rfl
@[simp] theorem SR.next_bk (ρ : Ev) (S : Sto) (k : Ev → Sto → SR) : (SR.bk ρ S).next k = .bk ρ S := rfl
@[simp] theorem SR.next_ct (ρ : Ev) (S : Sto) (k : Ev → Sto → SR) : (SR.ct ρ S).next k = .ct ρ S := rfl
@[simp] theorem SR.next_stuck (k : Ev → Sto → SR) : (SR.stuck).next k = .stuck := rfl
theorem PostS.bind {α : Type} {K : PySem.W.Frag} {W : WX} {E : Ends} {σ : St} {ρ : Ev} {ι : List Addr} {H : Hp} {r : R α} {k : α → Sto → SR} (h : PostS K W E ι H (r.toS ρ k)) (hE : RepE K ι H σ ρ) :
    Post K W σ ι H r fun a S1 ι1 H1 => PostS K W E ι1 H1 (k a S1) := by
  cases r with
  | stuck => exact h
  | er e S => exact fun ι' H' cls dd G s x => h ι' H' σ cls dd G s (hE.grow G) x
  | ok a S => exact fun ι1 H1 G1 s1 => PostS.grow h G1
def dCmpI (p : Int → Int → Int) (a b : D) (S : Sto) : R D := match a, b with
  | .int i, .int j => .ok (.int (p i j)) S
  | _, _ => .stuck
def dAddI : D → D → Sto → R D := dCmpI fun i j => i + j
def dSubI : D → D → Sto → R D := dCmpI fun i j => i - j
section
variable {X : Cx} {W : WX} {pos : Pos} {e : Expr} {st : Stmt} {rest : List Stmt}
def sNil : Ev → Sto → SR := fun ρ S => .nx ρ S
def sSeq (F G : Ev → Sto → SR) : Ev → Sto → SR := fun ρ S => (F ρ S).next G
theorem dss_nil : DSs X W [] sNil := PSs.imp pss_nil fun E σ H ⟨ι, ρ, S, hE, hS, h⟩ => h ι H σ (Grow.refl _ _) hS hE
theorem dss_cons {F G : Ev → Sto → SR} (h1 : DS X W st F) (h2 : DSs X W rest G) : DSs X W (st :: rest) (sSeq F G) := by
  refine PSs.imp (pss_cons h1 h2) fun E σ H ⟨ι, ρ, S, hE, hS, h⟩ => ⟨ι, ρ, S, hE, hS, ?_⟩
  unfold sSeq at h
  cases hF : F ρ S with
  | nx ρ1 S1 => rw [hF] at h; exact fun ι1 H1 σ1 G1 s1 e1 => ⟨ι1, ρ1, S1, e1, s1, PostS.grow h G1⟩
  | rt d S1 => rw [hF] at h; exact h
  | bk ρ1 S1 => rw [hF] at h; exact h
  | ct ρ1 S1 => rw [hF] at h; exact h
  | er e ρ1 S1 => rw [hF] at h; exact h
  | stuck => rw [hF] at h; exact h
theorem dss_one {F : Ev → Sto → SR} (h1 : DS X W st F) : DSs X W [st] F := pss_one h1
theorem ds_pass : DS X W (.Pass pos) sNil := PS.imp ps_pass fun E σ H ⟨ι, ρ, S, hE, hS, h⟩ => h ι H σ (Grow.refl _ _) hS hE
theorem ds_doc {x j pos pos'} : DS X W (.Expr (.Constant (.str x) j pos) pos') sNil := PS.imp ps_doc fun E σ H ⟨ι, ρ, S, hE, hS, h⟩ => h ι H σ (Grow.refl _ _) hS hE
def sBrk : Ev → Sto → SR := fun ρ S => .bk ρ S
def sCnt : Ev → Sto → SR := fun ρ S => .ct ρ S
theorem ds_break : DS X W (.Break pos) sBrk := PS.imp ps_break fun E σ H ⟨ι, ρ, S, hE, hS, h⟩ => h ι H σ (Grow.refl _ _) hS hE
theorem ds_continue : DS X W (.Continue pos) sCnt := PS.imp ps_continue fun E σ H ⟨ι, ρ, S, hE, hS, h⟩ => h ι H σ (Grow.refl _ _) hS hE
def sExp (f : Ev → Sto → R D) : Ev → Sto → SR := fun ρ S => (f ρ S).toS ρ fun _ S1 => .nx ρ S1
def sRet (f : Ev → Sto → R D) : Ev → Sto → SR := fun ρ S => (f ρ S).toS ρ fun d S1 => .rt d S1
theorem ds_expr {f : Ev → Sto → R D} (he : DE X W e f) (hs : swapsWith e none pos.line X.env = pure false := by rfl) : DS X W (.Expr e pos) (sExp f) := by
  refine PS.imp (ps_expr he hs) fun E σ H ⟨ι, ρ, S, hE, hS, h⟩ => ⟨ι, ρ, S, hE, hS, (PostS.bind h hE).mono fun d S1 ι1 H1 G1 s1 h1 v rv => ?_⟩
  exact h1 ι1 H1 σ (Grow.refl _ _) s1 (hE.grow G1)
theorem ds_ret {f : Ev → Sto → R D} (he : DE X W e f) : DS X W (.Return (some e) pos) (sRet f) := by
  refine PS.imp (ps_ret he) fun E σ H ⟨ι, ρ, S, hE, hS, h⟩ => ⟨ι, ρ, S, hE, hS, (PostS.bind h hE).mono fun d S1 ι1 H1 G1 s1 h1 v rv => ?_⟩
  exact h1 ι1 H1 v (Grow.refl _ _) s1 rv
def sRetN : Ev → Sto → SR := fun _ S => .rt .non S
theorem ds_retN : DS X W (.Return none pos) sRetN := PS.imp ps_retN fun E σ H ⟨ι, ρ, S, hE, hS, h⟩ => h ι H .non (Grow.refl _ _) hS non_rep
def sIf (c : Ev → Sto → R Bool) (F G : Ev → Sto → SR) : Ev → Sto → SR := fun ρ S => (c ρ S).toS ρ fun b S1 => if b = true then F ρ S1 else G ρ S1
theorem ds_if {c : Expr} {a b : List Stmt} {t : Ev → Sto → R Bool} {F G : Ev → Sto → SR} (hc : DT X W c t) (ha : DSs X W a F) (hb : DSs X W b G) : DS X W (.If c a b pos) (sIf t F G) := by
  refine PS.imp (ps_if hc ha hb) fun E σ H ⟨ι, ρ, S, hE, hS, h⟩ => ⟨ι, ρ, S, hE, hS, (PostS.bind h hE).mono fun b S1 ι1 H1 G1 s1 h1 => ?_⟩
  cases b with
  | true => rw [if_pos rfl] at h1 ⊢; exact ⟨ι1, ρ, S1, hE.grow G1, s1, h1⟩
  | false => rw [if_neg (by decide)] at h1 ⊢; exact ⟨ι1, ρ, S1, hE.grow G1, s1, h1⟩
/-! ### targets -/
abbrev Tg := D → Ev → Sto → Option (Ev × Sto)
abbrev Tgs := List D → Ev → Sto → Option (Ev × Sto)
def rdG (K : PySem.W.Frag) (T : Tg) : TG := fun v σ H Q => ∃ ι ρ S d ρ' S', RepE K ι H σ ρ ∧ Sim K ι H S ∧ RepV K ι H d v ∧ T d ρ S = some (ρ', S') ∧ ∀ ι' H' σ', Grow ι H ι' H' → Sim K ι' H' S' → RepE K ι' H' σ' ρ' → Q σ' H'
abbrev DG (X : Cx) (e : Expr) (T : Tg) : Prop := PG X e (rdG X.K T)
theorem PG.imp {X : Cx} {e : Expr} {t u : TG} (h : PG X e t) (i : ∀ v σ H Q, u v σ H Q → t v σ H Q) : PG X e u := ⟨fun pins s σ H v w Q I r q => h.run pins s σ H v w Q I r (i v σ H Q q)⟩
def tN (i : Nat) : Tg := fun d ρ S => some (ρ.set i (some d), S)
theorem dg_name (i : Nat) {x : Str} (hN : X.N.Nodup) (hi : X.N[i]? = some x := by rfl) (hx : Loc X.env.scope x := by first | exact .inl rfl | exact .inr rfl) (hf : X.fn x = true ∨ X.env.scope.names.lookup x = some .local := by first | exact .inl rfl | exact .inr rfl | assumption) : DG X (.Name x pos) (tN i) :=
  PG.imp (pg_name hN hi hx hf) fun v σ H Q ⟨ι, ρ, S, d, ρ', S', hE, hS, r, e, h⟩ => by
    cases e
    exact h ι H _ (Grow.refl _ _) hS (hE.set r i)
def rdGs (K : PySem.W.Frag) (T : Tgs) : TGs := fun vs σ H Q => ∃ ι ρ S ds ρ' S', RepE K ι H σ ρ ∧ Sim K ι H S ∧ RepL K ι H ds vs ∧ T ds ρ S = some (ρ', S') ∧ ∀ ι' H' σ', Grow ι H ι' H' → Sim K ι' H' S' → RepE K ι' H' σ' ρ' → Q σ' H'
abbrev DGs (X : Cx) (e : List Expr) (T : Tgs) : Prop := PGs X e (rdGs X.K T)
theorem PGs.imp {X : Cx} {e : List Expr} {t u : TGs} (h : PGs X e t) (i : ∀ v σ H Q, u v σ H Q → t v σ H Q) : PGs X e u := ⟨fun pins s σ H v w Q I r q => h.run pins s σ H v w Q I r (i v σ H Q q)⟩
def tNil : Tgs := fun ds ρ S => match ds with
  | [] => some (ρ, S)
  | _ => none
def tCons (T : Tg) (U : Tgs) : Tgs := fun ds ρ S => match ds with
  | d :: r => (T d ρ S).bind fun q => U r q.1 q.2
  | [] => none
theorem dgs_nil : DGs X [] tNil := PGs.imp pgs_nil fun v σ H Q ⟨ι, ρ, S, ds, ρ', S', hE, hS, r, e, h⟩ => by
  cases ds with
  | nil => cases e; rw [RepL] at r; exact ⟨r, h ι H σ (Grow.refl _ _) hS hE⟩
  | cons d ds => cases e
theorem dgs_cons {es : List Expr} {T : Tg} {U : Tgs} (h1 : DG X e T) (h2 : DGs X es U) (hs : (assignEach (e :: es) X.env).map (·.2) = assign e X.env :: (assignEach es X.env).map (·.2) := by rfl) : DGs X (e :: es) (tCons T U) :=
  PGs.imp (pgs_cons h1 h2 hs) fun v σ H Q ⟨ι, ρ, S, ds, ρ', S', hE, hS, r, e, h⟩ => by
    cases ds with
    | nil => cases e
    | cons d ds =>
      rw [RepL] at r
      obtain ⟨v, vs, rfl, rv, rl⟩ := r
      have e : (T d ρ S).bind (fun q => U ds q.1 q.2) = some (ρ', S') := e
      cases hT : T d ρ S with
      | none => rw [hT] at e; cases e
      | some q =>
        obtain ⟨ρ1, S1⟩ := q
        rw [hT] at e
        refine ⟨v, vs, rfl, ι, ρ, S, d, ρ1, S1, hE, hS, rv, hT, fun ι1 H1 σ1 G1 s1 e1 => ?_⟩
        exact ⟨ι1, ρ1, S1, ds, ρ', S', e1, s1, RepL.grow G1 _ _ rl, e, fun ι2 H2 σ2 G2 => h ι2 H2 σ2 (G1.trans G2)⟩
def tTup (n : Nat) (U : Tgs) : Tg := fun d ρ S => match d with
  | .tup ds => if ds.length = n then U ds ρ S else none
  | _ => none
theorem dg_tup {es : List Expr} {k : Nat} {U : Tgs} {n : Nat} (hc : X.calm = true) (h : DGs X es U) (hn : (assignEach es X.env).length = n := by rfl) (hst : (assignEach es X.env).findIdx? (·.1) = none := by rfl) : DG X (.Tuple es k pos) (tTup n U) :=
  PG.imp (pg_tup hc h hn hst) fun v σ H Q ⟨ι, ρ, S, d, ρ', S', hE, hS, r, e, h⟩ => by
    cases d with
    | tup ds =>
      have e : (if ds.length = n then U ds ρ S else none) = some (ρ', S') := e
      by_cases hl : ds.length = n
      · rw [if_pos hl] at e
        obtain ⟨p, vs, rfl, q, rl⟩ := tup_at r
        exact ⟨p, vs, rfl, q, by rw [← RepL.length _ _ rl]; exact hl, ι, ρ, S, ds, ρ', S', hE, hS, rl, e, h⟩
      · rw [if_neg hl] at e; cases e
    | _ => cases e
/-- o[i] = v -/
def dSet (o i v : D) (S : Sto) : Option Sto := match o, i with
  | .loc n, .int k => (getL S n).bind fun ds => (ixN ds.length k).map fun j => S.set n (.lst (ds.set j v))
  | _, _ => none
def tSub (f g : Ev → Sto → R D) : Tg := fun v ρ S => match f ρ S with
  | .ok o S1 => (match g ρ S1 with
    | .ok i S2 => (dSet o i v S2).map fun S3 => (ρ, S3)
    | _ => none)
  | _ => none
theorem dSet_some {o i v : D} {S S' : Sto} (h : dSet o i v S = some S') : ∃ n k ds j, o = .loc n ∧ i = .int k ∧ getL S n = some ds ∧ ixN ds.length k = some j ∧ S' = S.set n (.lst (ds.set j v)) := by
  unfold dSet at h
  split at h
  · rename_i n k
    cases hL : getL S n with
    | none => simp [hL] at h
    | some ds =>
      cases hj : ixN ds.length k with
      | none => simp [hL, hj] at h
      | some j =>
        simp [hL, hj] at h
        exact ⟨n, k, ds, j, rfl, rfl, hL, hj, h.symm⟩
  · cases h
theorem dg_sub {o i : Expr} {f g : Ev → Sto → R D} (ho : DE X W o f) (hi : DE X W i g) (ha : ∀ v, assign (.Subscript o i pos) X.env v = (do
      let ov ← holding [v] (eval o X.env)
      let iv ← holding [v, ov] (eval i X.env)
      standAt pos
      holding [v, ov, iv] (setItem ov iv v)
      release [v, ov, iv] []) := by intro _; rfl) : DG X (.Subscript o i pos) (tSub f g) :=
  PG.imp (pg_sub ho hi set_list ha) fun v σ H Q ⟨ι, ρ, S, d, ρ', S', hE, hS, r, e, h⟩ => by
    unfold tSub at e
    cases hf : f ρ S with
    | ok o S1 =>
      simp only [hf] at e
      refine ⟨ι, ρ, S, hE, hS, ?_⟩
      rw [hf]
      intro ι1 H1 G1 s1 x rx
      cases hg : g ρ S1 with
      | ok i S2 =>
        simp only [hg] at e
        refine ⟨ι1, ρ, S1, hE.grow G1, s1, ?_⟩
        rw [hg]
        intro ι2 H2 G2 s2 y ry
        have rx := RepV.grow G2 _ _ rx
        have rv := RepV.grow G2 _ _ (RepV.grow G1 _ _ r)
        have e : (dSet o i d S2).map (fun S3 => (ρ, S3)) = some (ρ', S') := e
        cases hd : dSet o i d S2 with
        | none => rw [hd] at e; cases e
        | some S3 =>
          rw [hd] at e
          cases e
          obtain ⟨n, k, ds, j, rfl, rfl, hL, hj, rfl⟩ := dSet_some hd
          rw [RepV] at rx
          obtain ⟨a, ea, rfl⟩ := rx
          obtain ⟨vs, h1, h3⟩ := s2.ob _ _ _ ea (getL_some hL)
          refine ⟨a, vs, k, j, rfl, int_at ry, h1, by rw [← RepL.length _ _ h3]; exact hj, ?_⟩
          have G3 : Grow ι2 H2 ι2 (upd H2 a (.lst (vs.set j v))) := Grow.put (List.mem_of_getElem? ea)
          exact h ι2 _ σ ((G1.trans G2).trans G3) (s2.put ea ⟨_, upd_same, RepL.set (RepV.grow G3 _ _ rv) _ _ _ (RepL.grow G3 _ _ h3)⟩) (((hE.grow G1).grow G2).grow G3)
      | er e1 S2 => simp only [hg] at e; cases e
      | stuck => simp only [hg] at e; cases e
    | er e1 S1 => simp only [hf] at e; cases e
    | stuck => simp only [hf] at e; cases e
/-! ### assignments -/
def sAsg (f : Ev → Sto → R D) (T : Tg) : Ev → Sto → SR := fun ρ S => (f ρ S).toS ρ fun d S1 => match T d ρ S1 with
  | some (ρ', S') => .nx ρ' S'
  | none => .stuck
theorem asg_read {K : PySem.W.Frag} {f : Ev → Sto → R D} {T : Tg} : ∀ E σ H, rdS K W (sAsg f T) E σ H → tAsg (rdE K W f) (rdG K T) E σ H := fun E σ H ⟨ι, ρ, S, hE, hS, h⟩ => by
  refine ⟨ι, ρ, S, hE, hS, (PostS.bind h hE).mono fun d S1 ι1 H1 G1 s1 h1 v rv => ?_⟩
  cases hT : T d ρ S1 with
  | none => simp only [hT] at h1; exact h1.elim
  | some q =>
    obtain ⟨ρ1, S2⟩ := q
    simp only [hT] at h1
    exact ⟨ι1, ρ, S1, d, ρ1, S2, hE.grow G1, s1, rv, hT, fun ι2 H2 σ2 G2 s2 e2 => h1 ι2 H2 σ2 G2 s2 e2⟩
theorem ds_asg {tg : Expr} {f : Ev → Sto → R D} {T : Tg} (he : DE X W e f) (hg : DG X tg T) (hs : swapsWithSole [tg] e pos.line X.env = pure false := by rfl) (hw : swappedStores [tg] e X.env = pure none := by rfl)
    (h1 : (assignEach [tg] X.env).map (·.2) = [assign tg X.env] := by rfl) : DS X W (.Assign [tg] e pos) (sAsg f T) := PS.imp (ps_asg he hg hs hw h1) asg_read
theorem gName_read {K : PySem.W.Frag} {i : Nat} {v : V} {σ : St} {H : Hp} {Q : St → Hp → Prop} (h : rdG K (tN i) v σ H Q) : gName i v σ H Q := by
  obtain ⟨ι, ρ, S, d, ρ', S', hE, hS, r, e, h⟩ := h
  cases e
  exact h ι H _ (Grow.refl _ _) hS (hE.set r i)
/-- name = e -/
def sSet (i : Nat) (f : Ev → Sto → R D) : Ev → Sto → SR := fun ρ S => (f ρ S).toS ρ fun d S1 => .nx (ρ.set i (some d)) S1
theorem set_read {K : PySem.W.Frag} {f : Ev → Sto → R D} {i : Nat} : ∀ E σ H, rdS K W (sSet i f) E σ H → tAsg (rdE K W f) (gName i) E σ H := fun E σ H ⟨ι, ρ, S, hE, hS, h⟩ => by
  refine ⟨ι, ρ, S, hE, hS, (PostS.bind h hE).mono fun d S1 ι1 H1 G1 s1 h1 v rv => ?_⟩
  exact h1 ι1 H1 _ (Grow.refl _ _) s1 ((hE.grow G1).set rv i)
theorem ds_set (i : Nat) {x : Str} {pos' : Pos} {f : Ev → Sto → R D} (hN : X.N.Nodup) (he : DE X W e f) (hi : X.N[i]? = some x := by rfl) (hx : Loc X.env.scope x := by first | exact .inl rfl | exact .inr rfl)
    (hs : swapsWith e (some (.Name x pos')) pos.line X.env = pure false := by rfl) (hf : X.fn x = true ∨ X.env.scope.names.lookup x = some .local := by first | exact .inl rfl | exact .inr rfl | assumption) :
    DS X W (.Assign [.Name x pos'] e pos) (sSet i f) := PS.imp (ps_set hN hi hx he hs hf) set_read
/-- name op= e -/
def sAug (i : Nat) (o : D → D → Sto → R D) (f : Ev → Sto → R D) : Ev → Sto → SR := fun ρ S => match ρ[i]? with
  | some (some x) => ((f ρ S).bind fun d S1 => o x d S1).toS ρ fun z S2 => .nx (ρ.set i (some z)) S2
  | _ => .stuck
theorem ds_aug (i : Nat) {x : Str} {op : Operator} {r : TIp} {o : D → D → Sto → R D} {pos' : Pos} {f : Ev → Sto → R D} (hN : X.N.Nodup) (he : DE X W e f) (ho : PIp X op r) (k : OpK X.K r o) (hi : X.N[i]? = some x := by rfl) (hx : Loc X.env.scope x := by first | exact .inl rfl | exact .inr rfl)
    (hf : X.fn x = true ∨ X.env.scope.names.lookup x = some .local := by first | exact .inl rfl | exact .inr rfl | assumption) : DS X W (.AugAssign (.Name x pos') op e pos) (sAug i o f) := by
  refine PS.imp (ps_aug hN hi hx he ho hf) fun E σ H ⟨ι, ρ, S, hE, hS, h⟩ => ?_
  unfold sAug at h
  split at h
  · rename_i d hd
    obtain ⟨v, hv, rv⟩ := hE.get hd
    refine ⟨v, hv, ι, ρ, S, hE, hS, ((PostS.bind h hE).bind).mono fun b S1 ι1 H1 G1 s1 h1 y ry => ?_⟩
    refine k W σ ι1 H1 S1 v y d b _ s1 (RepV.grow G1 _ _ rv) ry (h1.mono fun z S2 ι2 H2 G2 s2 h2 u ru => ?_)
    exact h2 ι2 H2 _ (Grow.refl _ _) s2 (((hE.grow G1).grow G2).set ru i)
  · exact h.elim
theorem k_ipadd {K : PySem.W.Frag} : OpK K (ipI fun i j => i + j) dAddI := by
  intro W σ ι H S x y a b Q s rx ry h
  unfold dAddI dCmpI at h
  split at h
  · rename_i i j
    exact ⟨i, j, int_at rx, int_at ry, h.here s _ int_rep⟩
  · exact h.elim
theorem k_ipsub {K : PySem.W.Frag} : OpK K (ipI fun i j => i - j) dSubI := by
  intro W σ ι H S x y a b Q s rx ry h
  unfold dSubI dCmpI at h
  split at h
  · rename_i i j
    exact ⟨i, j, int_at rx, int_at ry, h.here s _ int_rep⟩
  · exact h.elim
/-- a, b = x, y and a, b, c = x, y, z with plain locals -/
def sPar2 (i j : Nat) (g : Ev → Sto → R (List D)) : Ev → Sto → SR := fun ρ S => (g ρ S).toS ρ fun ds S1 => match ds with
  | [a, b] => .nx ((ρ.set i (some a)).set j (some b)) S1
  | _ => .stuck
theorem ds_par2 (i j : Nat) {x y : Str} {a b : Expr} {g : Ev → Sto → R (List D)} {px py pt : Pos} {kt k2 pt2} (hc : X.calm = true) (hN : X.N.Nodup) (ha : DA X W [a, b] g) (hij : i ≠ j := by decide) (hi : X.N[i]? = some x := by rfl) (hj : X.N[j]? = some y := by rfl)
    (hx : X.env.scope.names.lookup x = some .local := by rfl) (hy : X.env.scope.names.lookup y = some .local := by rfl)
    (hw : swappedStores [.Tuple [.Name x px, .Name y py] kt pt] (.Tuple [a, b] k2 pt2) X.env = pure (some [x, y]) := by rfl)
    (hs : swapsWithSole [.Tuple [.Name x px, .Name y py] kt pt] (.Tuple [a, b] k2 pt2) pos.line X.env = pure false := by rfl) :
    DS X W (.Assign [.Tuple [.Name x px, .Name y py] kt pt] (.Tuple [a, b] k2 pt2) pos) (sPar2 i j g) := by
  refine PS.imp (ps_par hc hN hi hj hij hx hy ha hw hs) fun E σ H ⟨ι, ρ, S, hE, hS, h⟩ => ⟨ι, ρ, S, hE, hS, (PostS.bind h hE).mono fun ds S1 ι1 H1 G1 s1 h1 vs rs => ?_⟩
  split at h1
  · rw [RepL] at rs
    obtain ⟨v, r, rfl, rv, rs⟩ := rs
    rw [RepL] at rs
    obtain ⟨u, r, rfl, ru, rs⟩ := rs
    rw [RepL] at rs
    subst rs
    exact ⟨v, u, rfl, h1 ι1 H1 _ (Grow.refl _ _) s1 (((hE.grow G1).set rv i).set ru j)⟩
  · exact h1.elim
end
end DL

/-! Layer part 6: loops. -/
namespace DL
open PySem PySem.Spec L2
open PyProof.Rows hiding St
abbrev Src := List D × (Sto → Prop)
def ItOk (K : PySem.W.Frag) (J : It) (ι : List Addr) (H : Hp) (q : Src) : Prop := ∀ ι1 H1 S1, Grow ι H ι1 H1 → Sim K ι1 H1 S1 → q.2 S1 →
  (∀ i, q.1.length ≤ i → J.stop i H1) ∧ ∀ i d, q.1[i]? = some d → J.go i H1 ∧ ∀ x H2, J.yld i H1 x H2 → Grow ι1 H1 ι1 H2 ∧ Sim K ι1 H2 S1 ∧ RepV K ι1 H2 d x
def rdI (K : PySem.W.Frag) (W : WX) (f : Ev → Sto → R Src) : TI := fun σ H Rr => ∃ ι ρ S, RepE K ι H σ ρ ∧ Sim K ι H S ∧ Post K W σ ι H (f ρ S) fun q _ ι' H' => ∀ J, ItOk K J ι' H' q → Rr J H'
abbrev DI (X : Cx) (W : WX) (tg iter : Expr) (f : Ev → Sto → R Src) : Prop := PI X tg iter (rdI X.K W f)
theorem PI.imp {X : Cx} {tg e : Expr} {t u : TI} (h : PI X tg e t) (i : ∀ σ H Q, u σ H Q → t σ H Q) : PI X tg e u := ⟨fun pins s σ H Q I q => h.run pins s σ H Q I (i σ H Q q)⟩
theorem PI.or {X : Cx} {tg e : Expr} {t u : TI} (h : PI X tg e t) (h' : PI X tg e u) : PI X tg e (fun σ H Q => t σ H Q ∨ u σ H Q) := ⟨fun pins s σ H Q I q => by
  rcases q with q | q
  · exact h.run pins s σ H Q I q
  · exact h'.run pins s σ H Q I q⟩
def yes : Sto → Prop := fun _ => True
def srcOf (d : D) (S : Sto) : R Src := match d with
  | .tup ds => .ok (ds, yes) S
  | .fl ds => .ok (ds, yes) S
  | .kl ds => .ok (ds, yes) S
  | .loc n => (match getQ S n with
    | some ds => .ok (ds, fun S => getQ S n = some ds) S
    | none => .stuck)
  | _ => .stuck
def iSeq (f : Ev → Sto → R D) : Ev → Sto → R Src := fun ρ S => (f ρ S).bind srcOf
theorem itl_ok {K : PySem.W.Frag} {ι : List Addr} {H : Hp} {ds : List D} {a : Addr} {g : Sto → Prop} (h : ∀ ι1 H1 S1, Grow ι H ι1 H1 → Sim K ι1 H1 S1 → g S1 → ∃ vs, SqL K H1 a vs ∧ RepL K ι1 H1 ds vs) : ItOk K (Itl K a) ι H (ds, g) := fun ι1 H1 S1 G s gs => by
  obtain ⟨vs, q, r⟩ := h ι1 H1 S1 G s gs
  refine ⟨fun i hi => ⟨vs, q, by rw [← RepL.length _ _ r]; exact hi⟩, fun i d e => ?_⟩
  obtain ⟨v, hv, rv⟩ := RepL.get _ _ r i d e
  refine ⟨⟨vs, v, q, hv⟩, fun x H2 y => ?_⟩
  obtain ⟨rfl, y⟩ := y
  have := y vs q
  rw [hv] at this; cases this
  exact ⟨Grow.refl _ _, s, rv⟩
theorem itt_ok {K : PySem.W.Frag} {ι : List Addr} {H : Hp} {ds : List D} {a : Addr} {g : Sto → Prop} (h : ∀ ι1 H1 S1, Grow ι H ι1 H1 → Sim K ι1 H1 S1 → g S1 → ∃ vs, SqT K H1 a vs ∧ RepL K ι1 H1 ds vs) : ItOk K (Itt K a) ι H (ds, g) := fun ι1 H1 S1 G s gs => by
  obtain ⟨vs, q, r⟩ := h ι1 H1 S1 G s gs
  refine ⟨fun i hi => ⟨vs, q, by rw [← RepL.length _ _ r]; exact hi⟩, fun i d e => ?_⟩
  obtain ⟨v, hv, rv⟩ := RepL.get _ _ r i d e
  refine ⟨⟨vs, v, q, hv⟩, fun x H2 y => ?_⟩
  obtain ⟨rfl, y⟩ := y
  have := y vs q
  rw [hv] at this; cases this
  exact ⟨Grow.refl _ _, s, rv⟩
theorem loc_at {K : PySem.W.Frag} {ι : List Addr} {H : Hp} {S : Sto} {n : Nat} {a : Addr} {ds : List D} (s : Sim K ι H S) (ea : ι[n]? = some a) (e : getQ S n = some ds) : ∃ vs, SqL K H a vs ∧ RepL K ι H ds vs := by
  unfold getQ at e
  (try unfold ifp at e); split at e
  · rename_i q; cases e
    obtain ⟨vs, h1, h2⟩ := s.ob _ _ _ ea q
    exact ⟨vs, SqL.of h1, h2⟩
  · rename_i q; cases e
    obtain ⟨o, vs, h1, h2⟩ := s.ob _ _ _ ea q
    exact ⟨vs, .inl (.inr ⟨o, h1⟩), h2⟩
  · cases e
/-- what a list or tuple that is walked gives, whatever turns behind it -/
theorem src_stands {K : PySem.W.Frag} {ι : List Addr} {H : Hp} {S : Sto} {d : D} {q : Src} {S' : Sto} {v : V} (e : srcOf d S = .ok q S') (s : Sim K ι H S) (r : RepV K ι H d v) : S' = S ∧ ∃ a, v = .ref a ∧
    ((∀ ι1 H1 S1, Grow ι H ι1 H1 → Sim K ι1 H1 S1 → q.2 S1 → ∃ vs, SqT K H1 a vs ∧ RepL K ι1 H1 q.1 vs) ∨ (∀ ι1 H1 S1, Grow ι H ι1 H1 → Sim K ι1 H1 S1 → q.2 S1 → ∃ vs, SqL K H1 a vs ∧ RepL K ι1 H1 q.1 vs)) ∧ q.2 S := by
  cases d with
  | tup ds =>
    cases e
    rw [RepV] at r
    obtain ⟨a, vs, rfl, t, rl⟩ := r
    exact ⟨rfl, a, rfl, .inl fun ι1 H1 S1 G s1 _ => ⟨vs, (t.grow G).sq, RepL.grow G _ _ rl⟩, True.intro⟩
  | fl ds =>
    cases e
    rw [RepV] at r
    obtain ⟨a, vs, rfl, t, rl⟩ := r
    exact ⟨rfl, a, rfl, .inr fun ι1 H1 S1 G s1 _ => ⟨vs, (t.grow G).sq, RepL.grow G _ _ rl⟩, True.intro⟩
  | kl ds =>
    cases e
    rw [RepV] at r
    obtain ⟨a, vs, rfl, t, rl⟩ := r
    exact ⟨rfl, a, rfl, .inr fun ι1 H1 S1 G s1 _ => ⟨vs, (t.grow G).sq, RepL.grow G _ _ rl⟩, True.intro⟩
  | loc n =>
    have e : (match getQ S n with
      | some ds => R.ok (ds, fun S => getQ S n = some ds) S
      | none => .stuck) = .ok q S' := e
    cases hq : getQ S n with
    | none => rw [hq] at e; cases e
    | some ds =>
      rw [hq] at e
      cases e
      rw [RepV] at r
      obtain ⟨a, ea, rfl⟩ := r
      refine ⟨rfl, a, rfl, .inr fun ι1 H1 S1 G s1 g1 => ?_, hq⟩
      exact loc_at s1 (getElem?_pre G.pre ea) g1
  | _ => cases e
section
variable {X : Cx} {W : WX} {pos : Pos} {e tg : Expr}
theorem di_seq {f : Ev → Sto → R D} (h : DE X W e f) : DI X W tg e (iSeq f) := by
  refine PI.imp (PI.or (pi_tup h) (pi_list h)) fun σ H Rr ⟨ι, ρ, S, hE, hS, q⟩ => ?_
  unfold iSeq at q
  cases hf : f ρ S with
  | stuck => rw [hf] at q; exact q.elim
  | er x S1 =>
    rw [hf] at q
    refine .inl ⟨ι, ρ, S, hE, hS, ?_⟩
    rw [hf]; exact q
  | ok d S1 =>
    rw [hf] at q
    replace q : Post X.K W σ ι H (srcOf d S1) fun q _ ι' H' => ∀ J, ItOk X.K J ι' H' q → Rr J H' := q
    cases hs : srcOf d S1 with
    | stuck => rw [hs] at q; exact q.elim
    | er x S2 => exfalso; unfold srcOf at hs; split at hs <;> first | cases hs | (split at hs <;> cases hs)
    | ok c S2 =>
      rw [hs] at q
      have kind : (∃ ds, d = .tup ds) ∨ (∃ ds, d = .fl ds ∨ d = .kl ds) ∨ ∃ n, d = .loc n := by
        cases d with
        | tup ds => exact .inl ⟨ds, rfl⟩
        | fl ds => exact .inr (.inl ⟨ds, .inl rfl⟩)
        | kl ds => exact .inr (.inl ⟨ds, .inr rfl⟩)
        | loc n => exact .inr (.inr ⟨n, rfl⟩)
        | _ => cases hs
      rcases kind with ⟨ds, rfl⟩ | kind
      · refine .inl ⟨ι, ρ, S, hE, hS, ?_⟩
        rw [hf]
        intro ι1 H1 G1 s1 v rv
        obtain ⟨rfl, a, rfl, st, g0⟩ := src_stands hs s1 rv
        rw [RepV] at rv
        obtain ⟨b, vs, eb, t, rl⟩ := rv
        cases eb
        cases hs
        exact ⟨a, rfl, ⟨vs, t.sq⟩, q ι1 H1 G1 s1 _ (itt_ok fun ι2 H2 S2 G s2 _ => ⟨vs, (t.grow G).sq, RepL.grow G _ _ rl⟩)⟩
      · refine .inr ⟨ι, ρ, S, hE, hS, ?_⟩
        rw [hf]
        intro ι1 H1 G1 s1 v rv
        rcases kind with ⟨ds, rfl | rfl⟩ | ⟨n, rfl⟩
        · rw [RepV] at rv
          obtain ⟨b, vs, rfl, t, rl⟩ := rv
          cases hs
          exact ⟨b, rfl, ⟨vs, t.sq⟩, q ι1 H1 G1 s1 _ (itl_ok fun ι2 H2 S2 G s2 _ => ⟨vs, (t.grow G).sq, RepL.grow G _ _ rl⟩)⟩
        · rw [RepV] at rv
          obtain ⟨b, vs, rfl, t, rl⟩ := rv
          cases hs
          exact ⟨b, rfl, ⟨vs, t.sq⟩, q ι1 H1 G1 s1 _ (itl_ok fun ι2 H2 S2 G s2 _ => ⟨vs, (t.grow G).sq, RepL.grow G _ _ rl⟩)⟩
        · rw [RepV] at rv
          obtain ⟨b, eb, rfl⟩ := rv
          have hs' : (match getQ S1 n with
            | some ds => R.ok (ds, fun S => getQ S n = some ds) S1
            | none => .stuck) = .ok c S2 := hs
          cases hq : getQ S1 n with
          | none => rw [hq] at hs'; cases hs'
          | some ds =>
            rw [hq] at hs'
            cases hs'
            obtain ⟨vs, z, _⟩ := loc_at s1 eb hq
            exact ⟨b, rfl, ⟨vs, z⟩, q ι1 H1 G1 s1 _ (itl_ok fun ι2 H2 S2 G s2 g2 => loc_at s2 (getElem?_pre G.pre eb) g2)⟩
/-! ### ranges -/
def rangeD (lo : Int) (n : Nat) : List D := (List.range n).map fun k => .int (lo + (k : Nat))
theorem rangeD_get {lo : Int} {n i : Nat} {d : D} (h : (rangeD lo n)[i]? = some d) : i < n ∧ d = .int (lo + (i : Nat)) := by
  unfold rangeD at h
  rw [List.getElem?_map] at h
  cases e : (List.range n)[i]? with
  | none => rw [e] at h; cases h
  | some k =>
    rw [e] at h; cases h
    have := List.getElem?_eq_some_iff.mp e
    obtain ⟨h1, h2⟩ := this
    simp at h1 h2
    subst h2
    exact ⟨h1, rfl⟩
theorem rangeD_len (lo : Int) (n : Nat) : (rangeD lo n).length = n := by simp [rangeD]
theorem itr_ok {K : PySem.W.Frag} {ι : List Addr} {H : Hp} {lo : Int} {n : Nat} {g : Sto → Prop} : ItOk K (Itr lo n) ι H (rangeD lo n, g) := fun ι1 H1 S1 G s gs => by
  refine ⟨fun i hi => by rw [rangeD_len] at hi; exact hi, fun i d e => ?_⟩
  obtain ⟨hi, rfl⟩ := rangeD_get e
  refine ⟨hi, fun x H2 y => ?_⟩
  obtain ⟨rfl, rfl⟩ := y
  exact ⟨Grow.refl _ _, s, int_rep⟩
noncomputable def iRange1 (g : Ev → Sto → R (List D)) : Ev → Sto → R Src := fun ρ S => (g ρ S).bind fun ds S1 => match ds with
  | [.int j] => ifp (-(2 ^ 62) ≤ j ∧ j < 2 ^ 62) (.ok (rangeD 0 j.toNat, yes) S1) .stuck
  | _ => .stuck
noncomputable def iRange2 (g : Ev → Sto → R (List D)) : Ev → Sto → R Src := fun ρ S => (g ρ S).bind fun ds S1 => match ds with
  | [.int i, .int j] => ifp (-(2 ^ 62) ≤ i ∧ i < 2 ^ 62 ∧ -(2 ^ 62) ≤ j ∧ j < 2 ^ 62) (.ok (rangeD i (j - i).toNat, yes) S1) .stuck
  | _ => .stuck
theorem RepL.one_inv {K : PySem.W.Frag} {ι : List Addr} {H : Hp} {d : D} {vs : List V} (h : RepL K ι H [d] vs) : ∃ v, vs = [v] ∧ RepV K ι H d v := by
  rw [RepL] at h
  obtain ⟨v, r, rfl, rv, rs⟩ := h
  rw [RepL] at rs
  subst rs
  exact ⟨v, rfl, rv⟩
theorem RepL.two_inv {K : PySem.W.Frag} {ι : List Addr} {H : Hp} {d e : D} {vs : List V} (h : RepL K ι H [d, e] vs) : ∃ v u, vs = [v, u] ∧ RepV K ι H d v ∧ RepV K ι H e u := by
  rw [RepL] at h
  obtain ⟨v, r, rfl, rv, rs⟩ := h
  obtain ⟨u, rfl, ru⟩ := RepL.one_inv rs
  exact ⟨v, u, rfl, rv, ru⟩
theorem di_range1 {a : Expr} {g : Ev → Sto → R (List D)} {p pos : Pos} (hg : Gl X "range") (hm : X.mg "range" = none) (ha : DA X W [a] g) (hs : starEach [a] X.env = [(false, eval a X.env)] := by rfl) : DI X W tg (.Call (.Name "range" p) [a] [] pos) (iRange1 g) := by
  refine PI.imp (pi_range1 hg hm ha hs) fun σ H Rr ⟨ι, ρ, S, hE, hS, q⟩ => ⟨ι, ρ, S, hE, hS, (Post.bind q).mono fun ds S1 ι1 H1 G1 s1 h1 vs rs => ?_⟩
  (try unfold ifp at h1); split at h1
  · obtain ⟨v, rfl, rv⟩ := RepL.one_inv rs
    (try unfold ifp at h1); split at h1
    · rename_i hj
      exact ⟨_, by rw [int_at rv], hj.1, hj.2, h1.here s1 _ itr_ok⟩
    · exact h1.elim
  · exact h1.elim
theorem di_range2 {a b : Expr} {g : Ev → Sto → R (List D)} {p pos : Pos} (hg : Gl X "range") (hm : X.mg "range" = none) (ha : DA X W [a, b] g) (hs : starEach [a, b] X.env = [(false, eval a X.env), (false, eval b X.env)] := by rfl) (hs2 : starEach [b] X.env = [(false, eval b X.env)] := by rfl) : DI X W tg (.Call (.Name "range" p) [a, b] [] pos) (iRange2 g) := by
  refine PI.imp (pi_range2 hg hm ha hs hs2) fun σ H Rr ⟨ι, ρ, S, hE, hS, q⟩ => ⟨ι, ρ, S, hE, hS, (Post.bind q).mono fun ds S1 ι1 H1 G1 s1 h1 vs rs => ?_⟩
  (try unfold ifp at h1); split at h1
  · obtain ⟨v, u, rfl, rv, ru⟩ := RepL.two_inv rs
    (try unfold ifp at h1); split at h1
    · rename_i hj
      exact ⟨_, _, by rw [int_at rv, int_at ru], hj, h1.here s1 _ itr_ok⟩
    · exact h1.elim
  · exact h1.elim
/-! ### for -/
open Classical in
noncomputable def forD (g : Sto → Prop) (T : Tg) (B Z : Ev → Sto → SR) : List D → Ev → Sto → SR
  | [], ρ, S => if g S then Z ρ S else .stuck
  | d :: ds, ρ, S => if g S then (match T d ρ S with
    | none => .stuck
    | some (ρ1, S1) => match B ρ1 S1 with
      | .nx ρ2 S2 => forD g T B Z ds ρ2 S2
      | .ct ρ2 S2 => forD g T B Z ds ρ2 S2
      | .bk ρ2 S2 => .nx ρ2 S2
      | .rt d S2 => .rt d S2
      | .er e ρ2 S2 => .er e ρ2 S2
      | .stuck => .stuck) else .stuck
noncomputable def sFor (f : Ev → Sto → R Src) (T : Tg) (B Z : Ev → Sto → SR) : Ev → Sto → SR := fun ρ S => (f ρ S).toS ρ fun q S1 => forD q.2 T B Z q.1 ρ S1
theorem for_read {K : PySem.W.Frag} {f : Ev → Sto → R Src} {T : Tg} {B Z : Ev → Sto → SR} : ∀ E σ H, rdS K W (sFor f T B Z) E σ H → tForE (rdI K W f) (rdG K T) (rdS K W B) (rdS K W Z) E σ H := fun E σ H ⟨ι, ρ, S, hE, hS, h⟩ => by
  refine ⟨ι, ρ, S, hE, hS, (PostS.bind h hE).mono fun q S1 ι1 H1 G1 s1 h1 J hJ => ?_⟩
  obtain ⟨ds, g⟩ := q
  refine ⟨fun i m σ' H' => m = ds.length - i ∧ i ≤ ds.length ∧ ∃ ι' ρ' S', Grow ι1 H1 ι' H' ∧ RepE K ι' H' σ' ρ' ∧ Sim K ι' H' S' ∧ PostS K W E ι' H' (forD g T B Z (ds.drop i) ρ' S'), ⟨_, rfl, Nat.zero_le _, ι1, ρ, S1, Grow.refl _ _, hE.grow G1, s1, h1⟩, ?_⟩
  rintro i m σ' H' ⟨rfl, hi, ι', ρ', S', G', e', s', h'⟩
  by_cases hlt : i < ds.length
  · rw [List.drop_eq_getElem_cons hlt] at h'
    unfold forD at h'
    (try unfold ifp at h'); split at h'
    · rename_i hg
      obtain ⟨-, item⟩ := hJ ι' H' S' G' s' hg
      obtain ⟨go, yl⟩ := item i ds[i] (List.getElem?_eq_some_iff.mpr ⟨hlt, rfl⟩)
      refine .inr ⟨go, fun σ2 H2 => ∃ ι2 ρ2 S2, Grow ι1 H1 ι2 H2 ∧ RepE K ι2 H2 σ2 ρ2 ∧ Sim K ι2 H2 S2 ∧ PostS K W E ι2 H2 (forD g T B Z (ds.drop (i + 1)) ρ2 S2), fun σ2 H2 hh => ⟨ds.length - (i + 1), by omega, rfl, hlt, hh⟩, fun x H2 y => ?_⟩
      obtain ⟨G2, s2, rx⟩ := yl x H2 y
      cases hT : T ds[i] ρ' S' with
      | none => simp only [hT] at h'; exact h'.elim
      | some q =>
        obtain ⟨ρ1, S2⟩ := q
        simp only [hT] at h'
        refine ⟨ι', ρ', S', ds[i], ρ1, S2, e'.grow G2, s2, rx, hT, fun ι3 H3 σ3 G3 s3 e3 => ⟨ι3, ρ1, S2, e3, s3, ?_⟩⟩
        have G13 := (G'.trans G2).trans G3
        have h3 := PostS.grow h' (G2.trans G3)
        cases hB : B ρ1 S2 with
        | nx ρ2 S3 => simp only [hB] at h3; exact fun ι4 H4 σ4 G4 s4 e4 => ⟨ι4, ρ2, S3, G13.trans G4, e4, s4, PostS.grow h3 G4⟩
        | ct ρ2 S3 => simp only [hB] at h3; exact fun ι4 H4 σ4 G4 s4 e4 => ⟨ι4, ρ2, S3, G13.trans G4, e4, s4, PostS.grow h3 G4⟩
        | bk ρ2 S3 => simp only [hB] at h3; exact h3
        | rt d S3 => simp only [hB] at h3; exact h3
        | er x ρ2 S3 => simp only [hB] at h3; exact h3
        | stuck => simp only [hB] at h3; exact h3
    · exact h'.elim
  · have e : i = ds.length := by omega
    subst e
    rw [List.drop_length] at h'
    unfold forD at h'
    (try unfold ifp at h'); split at h'
    · rename_i hg
      obtain ⟨stop, -⟩ := hJ ι' H' S' G' s' hg
      exact .inl ⟨stop _ (Nat.le_refl _), ι', ρ', S', e', s', h'⟩
    · exact h'.elim
theorem ds_for {iter : Expr} {body orelse : List Stmt} {f : Ev → Sto → R Src} {T : Tg} {B Z : Ev → Sto → SR} (hp : PassesOwn (model X.prog X.w) X.A X.env X.xe) (hc : X.calm = true) (hi : DI X W tg iter f) (hg : DG X tg T) (hb : DSs X W body B) (ho : DSs X W orelse Z)
    (hs : ∀ x, foldedSetIterable iter X.env x = pure x := by intro _; rfl) : DS X W (.For tg iter body orelse pos) (sFor f T B Z) := PS.imp (ps_forE hp hc hi hg hb ho hs) for_read
/-! ### while, by fuel -/
def whileD (c : Ev → Sto → R Bool) (B : Ev → Sto → SR) : Nat → Ev → Sto → SR
  | 0, _, _ => .stuck
  | n + 1, ρ, S => (c ρ S).toS ρ fun b S1 => if b = true then (match B ρ S1 with
      | .nx ρ2 S2 => whileD c B n ρ2 S2
      | .ct ρ2 S2 => whileD c B n ρ2 S2
      | .bk ρ2 S2 => .nx ρ2 S2
      | .rt d S2 => .rt d S2
      | .er e ρ2 S2 => .er e ρ2 S2
      | .stuck => .stuck) else .nx ρ S1
theorem ds_while (n : Nat) {c : Expr} {body : List Stmt} {t : Ev → Sto → R Bool} {B : Ev → Sto → SR} (hp : PassesOwn (model X.prog X.w) X.A X.env X.xe) (hc : DT X W c t) (hb : DSs X W body B) : DS X W (.While c body [] pos) (whileD t B n) := by
  refine PS.imp (ps_while hp hc hb) fun E σ H ⟨ι, ρ, S, hE, hS, h⟩ => ?_
  refine ⟨fun m σ' H' => ∃ ι' ρ' S', RepE X.K ι' H' σ' ρ' ∧ Sim X.K ι' H' S' ∧ PostS X.K W E ι' H' (whileD t B m ρ' S'), ⟨n, ι, ρ, S, hE, hS, h⟩, ?_⟩
  rintro m σ' H' ⟨ι', ρ', S', e', s', h'⟩
  cases m with
  | zero => exact h'.elim
  | succ m =>
    refine ⟨ι', ρ', S', e', s', (PostS.bind h' e').mono fun b S1 ι1 H1 G1 s1 h1 => ?_⟩
    cases b with
    | false => rw [if_neg (by decide)] at h1 ⊢; exact h1 ι1 H1 σ' (Grow.refl _ _) s1 (e'.grow G1)
    | true =>
      rw [if_pos rfl] at h1 ⊢
      refine ⟨fun σ2 H2 => ∃ ι2 ρ2 S2, RepE X.K ι2 H2 σ2 ρ2 ∧ Sim X.K ι2 H2 S2 ∧ PostS X.K W E ι2 H2 (whileD t B m ρ2 S2), fun σ2 H2 hh => ⟨m, Nat.lt_succ_self _, hh⟩, ι1, ρ', S1, e'.grow G1, s1, ?_⟩
      cases hB : B ρ' S1 with
      | nx ρ2 S3 => simp only [hB] at h1; exact fun ι4 H4 σ4 G4 s4 e4 => ⟨ι4, ρ2, S3, e4, s4, PostS.grow h1 G4⟩
      | ct ρ2 S3 => simp only [hB] at h1; exact fun ι4 H4 σ4 G4 s4 e4 => ⟨ι4, ρ2, S3, e4, s4, PostS.grow h1 G4⟩
      | bk ρ2 S3 => simp only [hB] at h1; exact h1
      | rt d S3 => simp only [hB] at h1; exact h1
      | er x ρ2 S3 => simp only [hB] at h1; exact h1
      | stuck => simp only [hB] at h1; exact h1
end
end DL

/-! Layer part 7: places that are dropped; comprehensions. -/
namespace DL
open PySem PySem.Spec L2
open PyProof.Rows hiding St
mutual
def low (n : Nat) : D → Bool
  | .loc m => decide (m < n)
  | .tup ds => lowL n ds
  | .fl ds => lowL n ds
  | .kl ds => lowL n ds
  | .fd kvs => lowK n kvs
  | .exc _ fs => lowF n fs
  | .non => true
  | .bl _ => true
  | .int _ => true
  | .str _ => true
  | .ty _ => true
  | .fn _ => true
def lowL (n : Nat) : List D → Bool
  | [] => true
  | d :: ds => low n d && lowL n ds
def lowK (n : Nat) : List (Key × D) → Bool
  | [] => true
  | (_, d) :: ds => low n d && lowK n ds
def lowF (n : Nat) : List (Str × D) → Bool
  | [] => true
  | (_, d) :: ds => low n d && lowF n ds
end
def lowKT (n : Nat) : List (List Key × D) → Bool
  | [] => true
  | (_, d) :: ds => low n d && lowKT n ds
def lowO (n : Nat) : Ob → Bool
  | .lst ds => lowL n ds
  | .ins _ fs => lowF n fs
  | .dct kvs => lowK n kvs
  | .dtt kvs => lowKT n kvs
  | .scr ds => lowL n ds
section
variable {K : PySem.W.Frag} {ι : List Addr} {H : Hp}
theorem take_out {a : Addr} {n : Nat} (h : a ∉ ι) : a ∉ ι.take n := fun z => h (List.mem_of_mem_take z)
mutual
theorem RepV.low (n : Nat) : ∀ (d : D) (v : V), RepV K ι H d v → DL.low n d = true → RepV K (ι.take n) H d v
  | .non, _, h, _ => by rw [RepV] at h ⊢; exact h
  | .bl _, _, h, _ => by rw [RepV] at h ⊢; exact h
  | .int _, _, h, _ => by rw [RepV] at h ⊢; exact h
  | .str _, _, h, _ => by rw [RepV] at h ⊢; exact h
  | .ty _, _, h, _ => by rw [RepV] at h ⊢; exact h
  | .fn _, _, h, _ => by rw [RepV] at h ⊢; exact h
  | .loc m, _, h, l => by
    rw [RepV] at h ⊢
    obtain ⟨a, e, r⟩ := h
    have l : m < n := by simpa [DL.low] using l
    exact ⟨a, by rw [List.getElem?_take_of_lt l]; exact e, r⟩
  | .tup ds, _, h, l => by
    rw [RepV] at h ⊢
    obtain ⟨a, vs, e, t, r⟩ := h
    refine ⟨a, vs, e, ?_, RepL.low n ds vs r (by simpa [DL.low] using l)⟩
    rcases t with ⟨t1, t2⟩ | t
    · exact .inl ⟨take_out t1, t2⟩
    · exact .inr t
  | .fl ds, _, h, l => by
    rw [RepV] at h ⊢
    obtain ⟨a, vs, e, t, r⟩ := h
    exact ⟨a, vs, e, ⟨take_out t.1, t.2⟩, RepL.low n ds vs r (by simpa [DL.low] using l)⟩
  | .kl ds, _, h, l => by
    rw [RepV] at h ⊢
    obtain ⟨a, vs, e, t, r⟩ := h
    refine ⟨a, vs, e, ?_, RepL.low n ds vs r (by simpa [DL.low] using l)⟩
    rcases t with ⟨t1, t2⟩ | t
    · exact .inl ⟨take_out t1, t2⟩
    · exact .inr t
  | .fd kvs, _, h, l => by
    rw [RepV] at h ⊢
    obtain ⟨a, vs, e, m, t, r⟩ := h
    exact ⟨a, vs, e, take_out m, t, RepK.low n kvs vs r (by simpa [DL.low] using l)⟩
  | .exc c fs, _, h, l => by
    rw [RepV] at h ⊢
    obtain ⟨a, cls, dd, e, m, t, rc, r⟩ := h
    refine ⟨a, cls, dd, e, take_out m, t, rc, ?_⟩
    rcases r with r | ⟨d, vs, e1, e2, e3, e4⟩
    · exact .inl r
    · exact .inr ⟨d, vs, e1, take_out e2, e3, RepF.low n fs vs e4 (by simpa [DL.low] using l)⟩
theorem RepL.low (n : Nat) : ∀ (ds : List D) (vs : List V), RepL K ι H ds vs → DL.lowL n ds = true → RepL K (ι.take n) H ds vs
  | [], _, h, _ => by rw [RepL] at h ⊢; exact h
  | d :: ds, _, h, l => by
    rw [RepL] at h ⊢
    obtain ⟨v, r, e, a, b⟩ := h
    simp only [DL.lowL, Bool.and_eq_true] at l
    exact ⟨v, r, e, RepV.low n d v a l.1, RepL.low n ds r b l.2⟩
theorem RepK.low (n : Nat) : ∀ (ds : List (Key × D)) (vs : List (Key × V)), RepK K ι H ds vs → DL.lowK n ds = true → RepK K (ι.take n) H ds vs
  | [], _, h, _ => by rw [RepK] at h ⊢; exact h
  | (k, d) :: ds, _, h, l => by
    rw [RepK] at h ⊢
    obtain ⟨v, r, e, a, b⟩ := h
    simp only [DL.lowK, Bool.and_eq_true] at l
    exact ⟨v, r, e, RepV.low n d v a l.1, RepK.low n ds r b l.2⟩
theorem RepF.low (n : Nat) : ∀ (ds : List (Str × D)) (vs : List (Str × V)), RepF K ι H ds vs → DL.lowF n ds = true → RepF K (ι.take n) H ds vs
  | [], _, h, _ => by rw [RepF] at h ⊢; exact h
  | (k, d) :: ds, _, h, l => by
    rw [RepF] at h ⊢
    obtain ⟨v, r, e, a, b⟩ := h
    simp only [DL.lowF, Bool.and_eq_true] at l
    exact ⟨v, r, e, RepV.low n d v a l.1, RepF.low n ds r b l.2⟩
end
theorem RepKT.low (n : Nat) : ∀ (ds : List (List Key × D)) (vs : List (List Key × V)), RepKT K ι H ds vs → DL.lowKT n ds = true → RepKT K (ι.take n) H ds vs
  | [], _, h, _ => by rw [RepKT] at h ⊢; exact h
  | (k, d) :: ds, _, h, l => by
    rw [RepKT] at h ⊢
    obtain ⟨v, r, e, a, b⟩ := h
    simp only [DL.lowKT, Bool.and_eq_true] at l
    exact ⟨v, r, e, RepV.low n d v a l.1, RepKT.low n ds r b l.2⟩
theorem RepO.low {a : Addr} {o : Ob} (n : Nat) (h : RepO K ι H a o) (l : DL.lowO n o = true) : RepO K (ι.take n) H a o := by
  cases o with
  | lst ds => obtain ⟨vs, q, r⟩ := h; exact ⟨vs, q, RepL.low n ds vs r l⟩
  | ins C fs => obtain ⟨C', dx, vs, nc, q, r⟩ := h; exact ⟨C', dx, vs, nc, q, RepF.low n fs vs r l⟩
  | dct ks => obtain ⟨vs, q, r⟩ := h; exact ⟨vs, q, RepK.low n ks vs r l⟩
  | dtt ks => obtain ⟨vs, q, r⟩ := h; exact ⟨vs, q, RepKT.low n ks vs r l⟩
  | scr ds => obtain ⟨o, vs, q, r⟩ := h; exact ⟨o, vs, q, RepL.low n ds vs r l⟩
mutual
theorem RepV.isLow : ∀ (d : D) (v : V), RepV K ι H d v → DL.low ι.length d = true
  | .non, _, _ => rfl
  | .bl _, _, _ => rfl
  | .int _, _, _ => rfl
  | .str _, _, _ => rfl
  | .ty _, _, _ => rfl
  | .fn _, _, _ => rfl
  | .loc m, _, h => by
    rw [RepV] at h
    obtain ⟨a, e, _⟩ := h
    simpa [DL.low] using (List.getElem?_eq_some_iff.mp e).1
  | .tup ds, _, h => by
    rw [RepV] at h
    obtain ⟨a, vs, e, t, r⟩ := h
    simpa [DL.low] using RepL.isLow ds vs r
  | .fl ds, _, h => by
    rw [RepV] at h
    obtain ⟨a, vs, e, t, r⟩ := h
    simpa [DL.low] using RepL.isLow ds vs r
  | .kl ds, _, h => by
    rw [RepV] at h
    obtain ⟨a, vs, e, t, r⟩ := h
    simpa [DL.low] using RepL.isLow ds vs r
  | .fd ds, _, h => by
    rw [RepV] at h
    obtain ⟨a, vs, e, m, t, r⟩ := h
    simpa [DL.low] using RepK.isLow ds vs r
  | .exc c ds, _, h => by
    rw [RepV] at h
    obtain ⟨a, cls, dd, e, m, t, rc, r⟩ := h
    rcases r with ⟨_, rfl⟩ | ⟨d, vs, e1, e2, e3, e4⟩
    · rfl
    · simpa [DL.low] using RepF.isLow ds vs e4
theorem RepL.isLow : ∀ (ds : List D) (vs : List V), RepL K ι H ds vs → DL.lowL ι.length ds = true
  | [], _, _ => rfl
  | d :: ds, _, h => by
    rw [RepL] at h
    obtain ⟨v, r, e, a, b⟩ := h
    simp only [DL.lowL, Bool.and_eq_true]
    exact ⟨RepV.isLow d v a, RepL.isLow ds r b⟩
theorem RepK.isLow : ∀ (ds : List (Key × D)) (vs : List (Key × V)), RepK K ι H ds vs → DL.lowK ι.length ds = true
  | [], _, _ => rfl
  | (k, d) :: ds, _, h => by
    rw [RepK] at h
    obtain ⟨v, r, e, a, b⟩ := h
    simp only [DL.lowK, Bool.and_eq_true]
    exact ⟨RepV.isLow d v a, RepK.isLow ds r b⟩
theorem RepF.isLow : ∀ (ds : List (Str × D)) (vs : List (Str × V)), RepF K ι H ds vs → DL.lowF ι.length ds = true
  | [], _, _ => rfl
  | (k, d) :: ds, _, h => by
    rw [RepF] at h
    obtain ⟨v, r, e, a, b⟩ := h
    simp only [DL.lowF, Bool.and_eq_true]
    exact ⟨RepV.isLow d v a, RepF.isLow ds r b⟩
end
theorem RepKT.isLow : ∀ (ds : List (List Key × D)) (vs : List (List Key × V)), RepKT K ι H ds vs → DL.lowKT ι.length ds = true
  | [], _, _ => rfl
  | (k, d) :: ds, _, h => by
    rw [RepKT] at h
    obtain ⟨v, r, e, a, b⟩ := h
    simp only [DL.lowKT, Bool.and_eq_true]
    exact ⟨RepV.isLow d v a, RepKT.isLow ds r b⟩
theorem RepO.isLow {a : Addr} {o : Ob} (h : RepO K ι H a o) : DL.lowO ι.length o = true := by
  cases o with
  | lst ds => obtain ⟨vs, q, r⟩ := h; exact RepL.isLow ds vs r
  | ins C fs => obtain ⟨C', dx, vs, nc, q, r⟩ := h; exact RepF.isLow fs vs r
  | dct ks => obtain ⟨vs, q, r⟩ := h; exact RepK.isLow ks vs r
  | dtt ks => obtain ⟨vs, q, r⟩ := h; exact RepKT.isLow ks vs r
  | scr ds => obtain ⟨o, vs, q, r⟩ := h; exact RepL.isLow ds vs r
end
/-- the elder places hold what they held, or nothing that points to a younger one -/
def Trunc (S S' : Sto) : Prop := S.length ≤ S'.length ∧ ∀ k o, k < S.length → S'[k]? = some o → S[k]? = some o ∨ lowO S.length o = true
theorem Trunc.same (S l : Sto) : Trunc S (S ++ l) := ⟨by simp, fun k o h e => .inl (by rw [List.getElem?_append_left h] at e; exact e)⟩
theorem Sim.trunc {K : PySem.W.Frag} {ι ι' : List Addr} {H H' : Hp} {S S' : Sto} (s : Sim K ι H S) (s' : Sim K ι' H' S') (G : Grow ι H ι' H') (t : Trunc S S') : Sim K ι H' (S'.take S.length) ∧ Grow ι H ι H' := by
  have hp : ι'.take ι.length = ι := by
    obtain ⟨r, e⟩ := G.pre
    rw [← e, List.take_left]
  refine ⟨⟨s.nd, by rw [s.len, List.length_take]; have := t.1; omega, fun n a o e1 e2 => ?_⟩, List.prefix_rfl, G.keep, fun _ z n => absurd z n⟩
  have hn : n < S.length := by rw [← s.len]; exact (List.getElem?_eq_some_iff.mp e1).1
  rw [List.getElem?_take_of_lt hn] at e2
  have e1' := getElem?_pre G.pre e1
  have r' := s'.ob n a o e1' e2
  have l : lowO S.length o = true := by
    rcases t.2 n o hn e2 with h | h
    · have := (s.ob n a o e1 h).isLow
      rw [s.len] at this; exact this
    · exact h
  have := r'.low S.length l
  rw [← s.len, hp] at this
  exact this
theorem RepV.trunc {K : PySem.W.Frag} {ι ι' : List Addr} {H H' : Hp} {S : Sto} {d : D} {v : V} (s : Sim K ι H S) (G : Grow ι H ι' H') (r : RepV K ι' H' d v) (l : DL.low S.length d = true) : RepV K ι H' d v := by
  have hp : ι'.take S.length = ι := by
    obtain ⟨r, e⟩ := G.pre
    rw [← s.len, ← e, List.take_left]
  have := RepV.low S.length d v r l
  rw [hp] at this; exact this
theorem RepL.trunc {K : PySem.W.Frag} {ι ι' : List Addr} {H H' : Hp} {S : Sto} {ds : List D} {vs : List V} (s : Sim K ι H S) (G : Grow ι H ι' H') (r : RepL K ι' H' ds vs) (l : lowL S.length ds = true) : RepL K ι H' ds vs := by
  have hp : ι'.take S.length = ι := by
    obtain ⟨r, e⟩ := G.pre
    rw [← s.len, ← e, List.take_left]
  have := RepL.low S.length ds vs r l
  rw [hp] at this; exact this
theorem RepF.trunc {K : PySem.W.Frag} {ι ι' : List Addr} {H H' : Hp} {S : Sto} {ds : List (Str × D)} {vs : List (Str × V)} (s : Sim K ι H S) (G : Grow ι H ι' H') (r : RepF K ι' H' ds vs) (l : lowF S.length ds = true) : RepF K ι H' ds vs := by
  have hp : ι'.take S.length = ι := by
    obtain ⟨r, e⟩ := G.pre
    rw [← s.len, ← e, List.take_left]
  have := RepF.low S.length ds vs r l
  rw [hp] at this; exact this

/-! ### list comprehensions -/
abbrev W0 : WX := fun _ _ _ _ => False
open Classical in
noncomputable def compD (g : Sto → Prop) (T : Tg) (c : Ev → Sto → R Bool) (f : Ev → Sto → R D) (n : Nat) (ρ : Ev) : List D → Sto → Option Sto
  | [], S => if g S then some S else none
  | d :: ds, S => if g S then (match T d ρ S with
    | none => none
    | some (ρ1, S1) => match c ρ1 S1 with
      | .ok b S2 => if b = true then (match f ρ1 S2 with
          | .ok y S3 => (match getL S3 n with
            | some acc => ifp (acc.length < sizeLine) (compD g T c f n ρ ds (S3.set n (.lst (acc ++ [y])))) none
            | none => none)
          | _ => none) else compD g T c f n ρ ds S2
      | _ => none) else none
def cYes : Ev → Sto → R Bool := fun _ S => .ok true S
/-- how the list stays: in the store, or frozen -/
def finLoc (S : Sto) (S' : Sto) : R D := .ok (.loc S.length) S'
open Classical in
noncomputable def finFl (S : Sto) (S' : Sto) : R D := match getL S' S.length with
  | some acc => if Trunc S S' ∧ S'.length = S.length + 1 ∧ lowL S.length acc = true then .ok (.fl acc) (S'.take S.length) else .stuck
  | none => .stuck
def FinOk (fin : Sto → Sto → R D) : Prop := ∀ (K : PySem.W.Frag) (W : WX) (σ : St) (ι ι' : List Addr) (H H0 H' : Hp) (S S' : Sto) (Da : Addr) (Q : VK), Sim K ι H S → H Da = none → Grow ι H ι H0 → (∀ b, b ≠ Da → H0 b = H b) → Sim K ι' H' S' → Grow (ι ++ [Da]) H0 ι' H' →
  Post K W σ ι H (fin S S') (fun d _ ι' H' => ∀ v, RepV K ι' H' d v → Q v H') → Q (.ref Da) H'
theorem fin_grow {ι ι' : List Addr} {H H0 H' : Hp} {Da : Addr} (n : H Da = none) (hb : ∀ b, b ≠ Da → H0 b = H b) (G : Grow (ι ++ [Da]) H0 ι' H') : Grow ι H ι' H' where
  pre := (List.prefix_append _ _).trans G.pre
  keep := fun a o e na => by
    have hne : a ≠ Da := ne_of_none e n
    refine G.keep a o (by rw [hb a hne]; exact e) fun z => ?_
    rcases List.mem_append.mp z with z | z
    · exact na z
    · exact hne (List.mem_singleton.mp z)
  fresh := fun a z na => by
    by_cases hne : a = Da
    · rw [hne]; exact n
    · have := G.fresh a z fun y => by
        rcases List.mem_append.mp y with y | y
        · exact na y
        · exact hne (List.mem_singleton.mp y)
      rw [hb a hne] at this; exact this
theorem fin_loc : FinOk finLoc := fun K W σ ι ι' H H0 H' S S' Da Q s n G0 hb s' G h => by
  refine h ι' H' (fin_grow n hb G) s' _ ?_
  rw [RepV]
  exact ⟨Da, getElem?_pre G.pre (by rw [← s.len]; simp), rfl⟩
theorem fin_fl : FinOk finFl := fun K W σ ι ι' H H0 H' S S' Da Q s n G0 hb s' G h => by
  unfold finFl at h
  (try unfold ifp at h); split at h
  · rename_i acc ha
    (try unfold ifp at h); split at h
    · rename_i hh
      obtain ⟨t, hl, hlow⟩ := hh
      have G1 := fin_grow n hb G
      obtain ⟨s2, G2⟩ := s.trunc s' G1 t
      have ea : ι'[S.length]? = some Da := getElem?_pre G.pre (by rw [← s.len]; simp)
      obtain ⟨vs, h1, h2⟩ := s'.ob _ _ _ ea (getL_some ha)
      refine h ι H' G2 s2 _ ?_
      rw [RepV]
      refine ⟨Da, vs, rfl, ⟨fun z => ?_, h1⟩, RepL.trunc s G1 h2 hlow⟩
      obtain ⟨u, e⟩ := s.there z
      rw [n] at e; cases e
    · exact h.elim
  · exact h.elim
/-- the target of a comprehension: its own slots, its store, by the very slots -/
structure CT (K : PySem.W.Frag) (vs : List Nat) (g : TG) (T : Tg) : Prop where
  wipeE : ∀ (ι : List Addr) (H : Hp) (σ : St) (ρ : Ev), RepE K ι H σ ρ → RepE K ι H (wipe σ vs) (ρ.mapIdx fun i d => if i ∈ vs then none else d)
  run : ∀ (ι : List Addr) (H : Hp) (S S' : Sto) (σ : St) (ρ ρ' : Ev) (d : D) (v : V) (Q : St → Hp → Prop), RepE K ι H (wipe σ vs) ρ → Sim K ι H S → RepV K ι H d v → T d ρ S = some (ρ', S') → S' = S ∧
    ((∀ σ', wipe σ' vs = wipe σ vs → RepE K ι H σ' ρ' → Q σ' H) → g v (wipe σ vs) H Q)
def wipeD (ρ : Ev) (vs : List Nat) : Ev := ρ.mapIdx fun i d => if i ∈ vs then none else d
noncomputable def eLc (fin : Sto → Sto → R D) (src : Ev → Sto → R Src) (T : Tg) (vs : List Nat) (c : Ev → Sto → R Bool) (f : Ev → Sto → R D) : Ev → Sto → R D := fun ρ S => (src ρ S).bind fun q S1 => match compD q.2 T c f S1.length (wipeD ρ vs) q.1 (S1 ++ [.lst []]) with
  | some S2 => fin S1 S2
  | none => .stuck
section
variable {X : Cx} {W : WX} {pos : Pos}
theorem lc_read {fin : Sto → Sto → R D} {K : PySem.W.Frag} {src : Ev → Sto → R Src} {g : TG} {T : Tg} {vs : List Nat} {c : Ev → Sto → R Bool} {f : Ev → Sto → R D} (hfin : FinOk fin) (ct : CT K vs g T) :
    ∀ σ H Q, rdE K W (eLc fin src T vs c f) σ H Q → tLc (rdI K W src) g (rdT K W0 c) (rdE K W0 f) vs σ H Q := fun σ H Q ⟨ι, ρ, S, hE, hS, h⟩ => by
  refine ⟨ι, ρ, S, hE, hS, (Post.bind h).mono fun q S1 ι1 H1 G1 s1 h1 J hJ Da hDa => ?_⟩
  obtain ⟨ds, gd⟩ := q
  cases hc : compD gd T c f S1.length (wipeD ρ vs) ds (S1 ++ [.lst []]) with
  | none => simp only [hc] at h1; exact h1.elim
  | some S2 =>
    simp only [hc] at h1
    have G0 : Grow ι1 H1 (ι1 ++ [Da]) (upd H1 Da (.lst [])) := Grow.push hDa
    have hE1 := ct.wipeE _ _ _ _ (hE.grow G1)
    refine ⟨fun i m H' => m = ds.length - i ∧ i ≤ ds.length ∧ ∃ ι' S', Grow (ι1 ++ [Da]) (upd H1 Da (.lst [])) ι' H' ∧ Sim K ι' H' S' ∧ compD gd T c f S1.length (wipeD ρ vs) (ds.drop i) S' = some S2,
      ⟨_, rfl, Nat.zero_le _, ι1 ++ [Da], (S1 ++ [Ob.lst []] : Sto), Grow.refl _ _, s1.push (b := Ob.lst []) hDa ⟨[], upd_same, RepL.nil⟩, hc⟩, ?_⟩
    rintro i m H' ⟨rfl, hi, ι', S', G', s', h'⟩
    have Gt : Grow ι1 H1 ι' H' := G0.trans G'
    have hE' : RepE K ι' H' (wipe σ vs) (wipeD ρ vs) := hE1.grow Gt
    have eD : ι'[S1.length]? = some Da := getElem?_pre G'.pre (by rw [← s1.len]; simp)
    by_cases hlt : i < ds.length
    · rw [List.drop_eq_getElem_cons hlt] at h'
      unfold compD at h'
      (try unfold ifp at h'); split at h'
      · rename_i hg
        obtain ⟨-, item⟩ := hJ ι' H' S' Gt s' hg
        obtain ⟨go, yl⟩ := item i ds[i] (List.getElem?_eq_some_iff.mpr ⟨hlt, rfl⟩)
        refine .inr ⟨go, fun H2 => ∃ ι2 S2', Grow (ι1 ++ [Da]) (upd H1 Da (.lst [])) ι2 H2 ∧ Sim K ι2 H2 S2' ∧ compD gd T c f S1.length (wipeD ρ vs) (ds.drop (i + 1)) S2' = some S2, fun H2 hh => ⟨ds.length - (i + 1), by omega, rfl, hlt, hh⟩, fun x H2 y => ?_⟩
        obtain ⟨G2, s2, rx⟩ := yl x H2 y
        cases hT : T ds[i] (wipeD ρ vs) S' with
        | none => simp only [hT] at h'; cases h'
        | some q =>
          obtain ⟨ρ1, S3⟩ := q
          simp only [hT] at h'
          obtain ⟨e3, run⟩ := ct.run ι' H2 S' S3 σ _ ρ1 ds[i] x (fun σ2 H2 => wipe σ2 vs = wipe σ vs ∧ rdT K W0 c σ2 H2 fun b H3 =>
            if b = true then rdE K W0 f σ2 H3 fun y H4 => ∃ acc, H4 Da = some (.lst acc) ∧ acc.length < sizeLine ∧ ∃ ι2 S2', Grow (ι1 ++ [Da]) (upd H1 Da (.lst [])) ι2 (upd H4 Da (.lst (acc ++ [y]))) ∧ Sim K ι2 (upd H4 Da (.lst (acc ++ [y]))) S2' ∧ compD gd T c f S1.length (wipeD ρ vs) (ds.drop (i + 1)) S2' = some S2
            else ∃ ι2 S2', Grow (ι1 ++ [Da]) (upd H1 Da (.lst [])) ι2 H3 ∧ Sim K ι2 H3 S2' ∧ compD gd T c f S1.length (wipeD ρ vs) (ds.drop (i + 1)) S2' = some S2) (hE'.grow G2) s2 rx hT
          subst e3
          refine run fun σ2 hw e2 => ⟨hw, ι', ρ1, S3, e2, s2, ?_⟩
          cases hcc : c ρ1 S3 with
          | stuck => simp only [hcc] at h'; cases h'
          | er x S4 => simp only [hcc] at h'; cases h'
          | ok b S4 =>
            simp only [hcc] at h'
            intro ι3 H3 G3 s3
            cases b with
            | false =>
              rw [if_neg (by decide)] at h' ⊢
              exact ⟨ι3, S4, (G'.trans G2).trans G3, s3, h'⟩
            | true =>
              rw [if_pos rfl] at h' ⊢
              refine ⟨ι3, ρ1, S4, e2.grow G3, s3, ?_⟩
              cases hf : f ρ1 S4 with
              | stuck => simp only [hf] at h'; cases h'
              | er x S5 => simp only [hf] at h'; cases h'
              | ok z S5 =>
                simp only [hf] at h'
                intro ι4 H4 G4 s4 v rv
                cases hL : getL S5 S1.length with
                | none => simp only [hL] at h'; cases h'
                | some acc =>
                  simp only [hL] at h'
                  (try unfold ifp at h'); split at h'
                  · rename_i hz
                    have e4 : ι4[S1.length]? = some Da := getElem?_pre G4.pre (getElem?_pre G3.pre eD)
                    obtain ⟨us, h5, h6⟩ := s4.ob _ _ _ e4 (getL_some hL)
                    have G5 : Grow ι4 H4 ι4 (upd H4 Da (.lst (us ++ [v]))) := Grow.put (List.mem_of_getElem? e4)
                    refine ⟨us, h5, by rw [← RepL.length _ _ h6]; exact hz, ι4, _, (((G'.trans G2).trans G3).trans G4).trans G5, s4.put (b := .lst (acc ++ [z])) e4 ⟨_, upd_same, ?_⟩, h'⟩
                    exact RepL.app _ _ (RepL.grow G5 _ _ h6) _ _ (RepL.one (RepV.grow G5 _ _ rv))
                  · cases h'
      · cases h'
    · have e : i = ds.length := by omega
      subst e
      rw [List.drop_length] at h'
      unfold compD at h'
      (try unfold ifp at h'); split at h'
      · rename_i hg
        cases h'
        obtain ⟨stop, -⟩ := hJ ι' H' S2 Gt s' hg
        exact .inl ⟨stop _ (Nat.le_refl _), hfin K W σ ι1 ι' H1 _ H' S1 S2 Da Q s1 hDa (Grow.upd hDa) (fun b hb => upd_ne hb) s' G' h1⟩
      · cases h'

theorem getElem?_wipe {ρ : Ev} {vs : List Nat} {i : Nat} {d : D} (h : (wipeD ρ vs)[i]? = some (some d)) : i ∉ vs ∧ ρ[i]? = some (some d) := by
  unfold wipeD at h
  rw [List.getElem?_mapIdx] at h
  cases e : ρ[i]? with
  | none => rw [e] at h; cases h
  | some x =>
    rw [e] at h
    simp only [Option.map_some, Option.some.injEq] at h
    by_cases hi : i ∈ vs
    · rw [if_pos hi] at h; cases h
    · rw [if_neg hi] at h; exact ⟨hi, by rw [h]⟩
theorem wipe_get (σ : St) : ∀ (vs : List Nat) (i : Nat), i ∉ vs → (wipe σ vs)[i]? = σ[i]?
  | [], _, _ => rfl
  | v :: vs, i, h => by
    unfold wipe
    rw [List.getElem?_set_ne (fun e => h (by rw [← e]; exact List.mem_cons_self))]
    exact wipe_get σ vs i fun z => h (List.mem_cons_of_mem _ z)
theorem wipe_rep {K : PySem.W.Frag} (vs : List Nat) : ∀ (ι : List Addr) (H : Hp) (σ : St) (ρ : Ev), RepE K ι H σ ρ → RepE K ι H (wipe σ vs) (wipeD ρ vs) := fun ι H σ ρ h => by
  refine ⟨by rw [wipe_length]; simp [wipeD, h.1], fun i d e => ?_⟩
  obtain ⟨hi, e⟩ := getElem?_wipe e
  obtain ⟨v, e', r⟩ := h.2 i d e
  exact ⟨v, by rw [wipe_get σ vs i hi]; exact e', r⟩
theorem ct_name {K : PySem.W.Frag} (i : Nat) : CT K [i] (gName i) (tN i) where
  wipeE := wipe_rep [i]
  run := fun ι H S S' σ ρ ρ' d v Q hE s r e => by
    cases e
    refine ⟨rfl, fun h => ?_⟩
    refine h ((wipe σ [i]).set i (some v)) ?_ (hE.set r i)
    simp [wipe]
theorem ct_pair {K : PySem.W.Frag} (i j : Nat) (hij : i ≠ j) : CT K [i, j] (gTup K 2 (gCons (gName i) (gCons (gName j) gNil))) (tTup 2 (tCons (tN i) (tCons (tN j) tNil))) where
  wipeE := wipe_rep [i, j]
  run := fun ι H S S' σ ρ ρ' d v Q hE s r e => by
    cases d with
    | tup ds =>
      match ds, r, e with
      | [a, b], r, e =>
        have e : some ((ρ.set i (some a)).set j (some b), S) = some (ρ', S') := e
        cases e
        refine ⟨rfl, fun h => ?_⟩
        obtain ⟨p, vs, rfl, q, rl⟩ := tup_at r
        obtain ⟨x, y, rfl, rx, ry⟩ := RepL.two_inv rl
        refine ⟨p, [x, y], rfl, q, rfl, x, [y], rfl, y, [], rfl, rfl, ?_⟩
        refine h _ ?_ ((hE.set rx i).set ry j)
        apply List.ext_getElem?
        intro k
        simp only [wipe, List.getElem?_set]
        by_cases h1 : i = k <;> by_cases h2 : j = k <;> simp [h1, h2]
      | [], r, e => cases e
      | [_], r, e => cases e
      | _ :: _ :: _ :: _, r, e => simp [tTup] at e
    | _ => cases e
theorem de_lc {fin : Sto → Sto → R D} {elt tg iter : Expr} {ifs : List Expr} {scope : Scope} {own : List (Str × Nat)} {src : Ev → Sto → R Src} {g : TG} {T : Tg} {c : Ev → Sto → R Bool} {f : Ev → Sto → R D} (hfin : FinOk fin) (ct : CT X.K (own.map (·.2)) g T) (hc : X.calm = true) (hN : X.N.Nodup) (hi : DI X W tg iter src) (ok : BlkOk X.N X.env.scope scope own)
    (hg : ∀ (s : Shared) (H : Hp) (C : Addr) (cl : List (Str × Addr)) (fp : List Addr), PG (X.blk s H scope (compEnvC scope cl C X.env) fp) tg g) (ht : ∀ (s : Shared) (H : Hp) (C : Addr) (cl : List (Str × Addr)) (fp : List Addr), PTs (X.blk s H scope (compEnvC scope cl C X.env) fp) ifs (rdT X.K W0 c))
    (he : ∀ (s : Shared) (H : Hp) (C : Addr) (cl : List (Str × Addr)) (fp : List Addr), DE (X.blk s H scope (compEnvC scope cl C X.env) fp) W0 elt f) (hs : ∀ x, foldedSetIterable iter X.env x = pure x := by intro _; rfl) :
    DE X W (.ListComp elt [⟨tg, iter, ifs, 0⟩] scope pos) (eLc fin src T (own.map (·.2)) c f) := PE.imp (pe_lc hc hN hi ok hg ht he hs) (lc_read hfin ct)
/-- name = [..] -/
theorem ds_setLc (i : Nat) {y : Str} {py spos : Pos} {fin : Sto → Sto → R D} {elt tg iter : Expr} {ifs : List Expr} {scope : Scope} {own : List (Str × Nat)} {src : Ev → Sto → R Src} {g : TG} {T : Tg} {c : Ev → Sto → R Bool} {f : Ev → Sto → R D} (hfin : FinOk fin) (ct : CT X.K (own.map (·.2)) g T) (hc : X.calm = true) (hN : X.N.Nodup) (hi : DI X W tg iter src) (ok : BlkOk X.N X.env.scope scope own)
    (hg : ∀ (s : Shared) (H : Hp) (C : Addr) (cl : List (Str × Addr)) (fp : List Addr), PG (X.blk s H scope (compEnvC scope cl C X.env) fp) tg g) (ht : ∀ (s : Shared) (H : Hp) (C : Addr) (cl : List (Str × Addr)) (fp : List Addr), PTs (X.blk s H scope (compEnvC scope cl C X.env) fp) ifs (rdT X.K W0 c))
    (he : ∀ (s : Shared) (H : Hp) (C : Addr) (cl : List (Str × Addr)) (fp : List Addr), DE (X.blk s H scope (compEnvC scope cl C X.env) fp) W0 elt f) (hy : X.N[i]? = some y := by rfl) (hyl : X.env.scope.names.lookup y = some .local := by rfl)
    (hsw : swapsWith (.ListComp elt [⟨tg, iter, ifs, 0⟩] scope pos) (some (.Name y py)) spos.line X.env = pure true := by exact sw_true rfl rfl rfl (by decide +kernel)) (hs : ∀ x, foldedSetIterable iter X.env x = pure x := by intro _; rfl) :
    DS X W (.Assign [.Name y py] (.ListComp elt [⟨tg, iter, ifs, 0⟩] scope pos) spos) (sSet i (eLc fin src T (own.map (·.2)) c f)) :=
  PS.imp (ps_setLc hc hN hy hyl hsw hi ok hg ht he hs) fun E σ H q => by
    obtain ⟨ι, ρ, S, hE, hS, h⟩ := q
    refine lc_read (W := W) hfin ct σ H _ ⟨ι, ρ, S, hE, hS, (PostS.bind h hE).mono fun d S1 ι1 H1 G1 s1 h1 v rv => ?_⟩
    exact h1 ι1 H1 _ (Grow.refl _ _) s1 ((hE.grow G1).set rv i)
theorem dts_nil : PTs X [] (rdT X.K W0 cYes) := ⟨fun pins s σ H Q I ⟨ι, ρ, S, hE, hS, h⟩ => pts_nil.run pins s σ H Q I (h.here hS)⟩
theorem dts_one {c : Expr} {t : Ev → Sto → R Bool} (h : DT X W0 c t) : PTs X [c] (rdT X.K W0 t) := pts_one h
end
end DL

/-! Layer part 8: defs and their calls. -/
namespace DL
open PySem PySem.Spec L2
open PyProof.Rows hiding St
abbrev Fn := List D → Sto → R D
def PostX (K : PySem.W.Frag) (E : XK) (ι : List Addr) (H : Hp) (r : R D) (Q : VK) : Prop := match r with
  | .ok d S' => ∀ ι' H' v, Grow ι H ι' H' → Sim K ι' H' S' → RepV K ι' H' d v → Q v H'
  | .er e S' => ∀ ι' H' cls dd, Grow ι H ι' H' → Sim K ι' H' S' → RepX K ι' H' e cls dd → E cls dd H'
  | .stuck => False
def spD (K : PySem.W.Frag) (F : Fn) : Sp := fun vs H Q E => ∃ ι S ds, RepL K ι H ds vs ∧ Sim K ι H S ∧ PostX K E ι H (F ds S) Q
/-- the def at f does what F says, called by position -/
def FnD (gd : Bool) (P : Program) (w : World) (K : PySem.W.Frag) (mg : Str → Option Value) (base : Heap) (k : Nat) (f : Addr) (F : Fn) : Prop :=
  ∀ (A : Around) (outer : List Env) (s : Shared) (H : Hp) (us : List Value) (vs : List V) (Q : VK) (E : XK), Room k A → (gd = true → A.guards = some []) → Env0 P w K mg base A outer s H → Vals vs us → spD K F vs H Q E →
    codeAny (model P w) A (.call (.ref f) ⟨us, []⟩) (CR (L2.CX P w) outer P w H s Q E) s
theorem FnD.mono {gd : Bool} {P : Program} {w : World} {K : PySem.W.Frag} {mg : Str → Option Value} {base : Heap} {j k : Nat} {f : Addr} {F : Fn} (h : FnD gd P w K mg base j f F) (hj : j ≤ k) : FnD gd P w K mg base k f F :=
  fun A outer s H us vs Q E hr => h A outer s H us vs Q E (hr.mono hj)
theorem FnD.up {P : Program} {w : World} {K : PySem.W.Frag} {mg : Str → Option Value} {base : Heap} {k : Nat} {f : Addr} {F : Fn} (h : FnD false P w K mg base k f F) (gd : Bool) : FnD gd P w K mg base k f F :=
  fun A outer s H us vs Q E hr _ => h A outer s H us vs Q E hr fun z => nomatch z
/-! ### the end of a def: young places go -/
open Classical in
noncomputable def close (S : Sto) (d : D) (S' : Sto) : R D :=
  if S'.length = S.length then .ok d S' else if Trunc S S' ∧ low S.length d = true then .ok d (S'.take S.length) else match d with
    | .loc m => (match getL S' m with
      | some ds => if Trunc S S' ∧ lowL S.length ds = true then .ok (.fl ds) (S'.take S.length) else .stuck
      | none => .stuck)
    | _ => .stuck
open Classical in
noncomputable def closeE (S : Sto) (e : Ex) (S' : Sto) : R D := if S'.length = S.length then .er e S' else if Trunc S S' ∧ lowF S.length e.fs = true then .er e (S'.take S.length) else .stuck
/-- nothing is dropped -/
def closeK (_ : Sto) (d : D) (S' : Sto) : R D := .ok d S'
def ClOk (cl : Sto → D → Sto → R D) : Prop := ∀ (K : PySem.W.Frag) (E : XK) (ι ι' : List Addr) (H H' : Hp) (S S' : Sto) (d : D) (v : V) (Q : VK), Sim K ι H S → Sim K ι' H' S' → Grow ι H ι' H' → RepV K ι' H' d v → PostX K E ι H (cl S d S') Q → Q v H'
theorem cl_keep : ClOk closeK := fun K E ι ι' H H' S S' d v Q s s' G r h => h ι' H' v G s' r
theorem cl_drop : ClOk close := fun K E ι ι' H H' S S' d v Q s s' G r h => by
  unfold close at h
  split at h
  · exact h ι' H' v G s' r
  · rename_i hl
    split at h
    · rename_i hh
      obtain ⟨s2, G2⟩ := s.trunc s' G hh.1
      exact h ι H' v G2 s2 (RepV.trunc s G r hh.2)
    · rename_i hlow
      split at h
      · rename_i m
        split at h
        · rename_i ds hd
          split at h
          · rename_i hh
            obtain ⟨s2, G2⟩ := s.trunc s' G hh.1
            refine h ι H' v G2 s2 ?_
            rw [RepV] at r
            obtain ⟨a, ea, rfl⟩ := r
            obtain ⟨vs, h1, h2⟩ := s'.ob _ _ _ ea (getL_some hd)
            have hm : ¬ m < S.length := fun z => hlow ⟨hh.1, by simpa [low] using z⟩
            rw [RepV]
            refine ⟨a, vs, rfl, ⟨fun z => ?_, h1⟩, RepL.trunc s G h2 hh.2⟩
            obtain ⟨n, hn, en⟩ := List.mem_iff_getElem.mp z
            have e1 : ι'[n]? = some a := getElem?_pre G.pre (List.getElem?_eq_some_iff.mpr ⟨hn, en⟩)
            obtain ⟨q1, q2⟩ := List.getElem?_eq_some_iff.mp e1
            obtain ⟨q3, q4⟩ := List.getElem?_eq_some_iff.mp ea
            have : n = m := (List.getElem_inj s'.nd).mp (q2.trans q4.symm)
            rw [← s.len] at hm
            omega
          · exact h.elim
        · exact h.elim
      · exact h.elim
theorem cl_err {K : PySem.W.Frag} {E : XK} {ι ι' : List Addr} {H H' : Hp} {S S' : Sto} {e : Ex} {cls : Value} {dd : Option Addr} {Q : VK} (s : Sim K ι H S) (s' : Sim K ι' H' S') (G : Grow ι H ι' H') (r : RepX K ι' H' e cls dd) (h : PostX K E ι H (closeE S e S') Q) : E cls dd H' := by
  unfold closeE at h
  split at h
  · exact h ι' H' cls dd G s' r
  · split at h
    · rename_i hh
      obtain ⟨s2, G2⟩ := s.trunc s' G hh.1
      refine h ι H' cls dd G2 s2 ⟨r.1, ?_⟩
      rcases r.2 with r2 | ⟨a, vs, e1, e2, e3, e4⟩
      · exact .inl r2
      · refine .inr ⟨a, vs, e1, fun z => e2 ?_, e3, RepF.trunc s G e4 hh.2⟩
        obtain ⟨t, rfl⟩ := G.pre
        exact List.mem_append_left _ z
    · exact h.elim
def startD (n : Nat) (ds : List D) : Ev := ds.map some ++ List.replicate (n - ds.length) none
noncomputable def fnC (cl : Sto → D → Sto → R D) (n : Nat) (m : Nat) (B : Ev → Sto → SR) : Fn := fun ds S => if ds.length = m then (match B (startD n ds) S with
  | .nx _ S' => cl S .non S'
  | .rt d S' => cl S d S'
  | .er e _ S' => closeE S e S'
  | _ => .stuck) else .stuck
theorem start_rep {K : PySem.W.Frag} {ι : List Addr} {H : Hp} {ds : List D} {vs : List V} (N : List Str) (r : RepL K ι H ds vs) : RepE K ι H (start N vs) (startD N.length ds) := by
  have hl := RepL.length _ _ r
  refine ⟨by simp [L2.start, startD, hl], fun i d e => ?_⟩
  unfold startD at e
  by_cases hi : i < ds.length
  · rw [List.getElem?_append_left (by simpa using hi), List.getElem?_map] at e
    cases q : ds[i]? with
    | none => rw [q] at e; cases e
    | some x =>
      rw [q] at e; cases e
      obtain ⟨v, hv, rv⟩ := RepL.get _ _ r i d q
      refine ⟨v, ?_, rv⟩
      unfold L2.start
      rw [List.getElem?_append_left (by simp [← hl]; exact hi), List.getElem?_map, hv]
      rfl
  · rw [List.getElem?_append_right (by simpa using hi), List.getElem?_replicate] at e
    split at e <;> cases e
/-- how the body's reading gives the def's -/
theorem body_read {K : PySem.W.Frag} {cl : Sto → D → Sto → R D} (hcl : ClOk cl) {N : List Str} {m : Nat} {B : Ev → Sto → SR} {vs : List V} {H : Hp} {Q : VK} {E : XK} (h : spD K (fnC cl N.length m B) vs H Q E) :
    vs.length = m ∧ rdS K (fun cls d _ H' => E cls d H') B { nx := fun _ H' => Q .non H', rt := Q } (start N vs) H := by
  obtain ⟨ι, S, ds, rl, s, h⟩ := h
  unfold fnC at h
  split at h
  · rename_i hm
    refine ⟨by rw [← RepL.length _ _ rl]; exact hm, ι, startD N.length ds, S, start_rep N rl, s, ?_⟩
    cases hB : B (startD N.length ds) S with
    | nx ρ S' => simp only [hB] at h; exact fun ι' H' σ' G s' e => hcl K E ι ι' H H' S S' .non .non Q s s' G non_rep h
    | rt d S' => simp only [hB] at h; exact fun ι' H' v G s' r => hcl K E ι ι' H H' S S' d v Q s s' G r h
    | er e ρ S' => simp only [hB] at h; exact fun ι' H' σ' cls dd G s' _ r => cl_err s s' G r h
    | bk ρ S' => simp only [hB] at h; exact h.elim
    | ct ρ S' => simp only [hB] at h; exact h.elim
    | stuck => simp only [hB] at h; exact h.elim
  · exact h.elim
section
variable {gd : Bool} {P : Program} {w : World} {K : PySem.W.Frag} {mg : Str → Option Value} {base : Heap} {k : Nat} {f : Addr} {fd : FuncData} {N ps : List Str}
/-- a def by its body -/
theorem fnD_of {x qual : Str} {st : Stmt} {cl : Sto → D → Sto → R D} {B : Ev → Sto → SR} (F : Fun K x qual st f fd) (sc : FnScope N ps (defScope st)) (hb : Binds K fd ps []) (hcl : ClOk cl)
    (hbody : ∀ (cdv : Value) (A : Around) (outer : List Env) (s : Shared) (H : Hp) (E : XK), Room k (A.deeper (envOfC qual (defScope st) s.heap.objs.size f cdv)) → (gd = true → A.guards = some []) →
      Takes (cxOf (L2.CX P w) P w K mg base N qual (defScope st) f cdv A outer s H E) (fun cls d _ H' => E cls d H') →
      PassesOwn (model P w) (A.deeper (envOfC qual (defScope st) s.heap.objs.size f cdv)) (envOfC qual (defScope st) s.heap.objs.size f cdv) (cxOf (L2.CX P w) P w K mg base N qual (defScope st) f cdv A outer s H E).xe →
      DSs (cxOf (L2.CX P w) P w K mg base N qual (defScope st) f cdv A outer s H E) (fun cls d _ H' => E cls d H') (defBody st) B) : FnD gd P w K mg base (k + 1) f (fnC cl N.length ps.length B) := by
  intro A outer s H us vs Q E hr hgd e0 rv hsp
  obtain ⟨oc, od, kV, doc, pm, an, cdv, ct, osl, efd, lk, hcd⟩ := F.ex
  obtain ⟨hl, rd⟩ := body_read (N := N) hcl hsp
  have hlu : us.length = ps.length := by rw [← rv.length]; exact hl
  have kept : ∀ b o, base.get? b = some o → s.heap.get? b = some o := fun b o e => (e0.bs b o e).1
  have KX : K.In s.heap := e0.mod.kin.keeps kept
  have bd := hb s us KX (by rw [List.append_nil]; exact hlu)
  rw [List.append_nil, efd] at bd
  rw [efd] at lk
  have hkind : ∀ y ∈ ps.zip us, (defScope st).names.lookup y.1 = some .local ∨ ((defScope st).names.lookup y.1 = some .cell ∧
      ((cellsFrom (s.heap.objs.size + 1) (defScope st).names []).lookup y.1).isSome = true) := by
    rintro ⟨n, v⟩ hy
    exact (sc.par n (List.of_mem_zip hy).1).imp id fun q => ⟨q, PySem.W.cellsFrom_some _ _ _ (.inl q)⟩
  refine codeAny_call_function hr.depth (KX _ _ lk) rfl sc.co sc.gen rfl
    (PySem.W.codeRec_of KX hcd) (bd _ _ _ _ (wpAny_newFunctionEnv_cells sc.kind hkind fun env he s1 ic => ?_))
  subst he
  refine ⟨(e0.mod.nolimit.keeps kept).keeps ic.toInCall.keep, codeAny_func ?_⟩
  have I := inv_start (CX := L2.CX P w) (P := P) (w := w) (E := E) sc hr.hd e0 hl rv ic
  have body := hbody cdv A outer s H E (hr.deeper _) hgd (takes_of rfl rfl rfl rfl) (passes_of rfl)
  refine wpAny_mono (body.run [] s1 (start N vs) H _ I rd) (fun fl s' hs => ?_) fun e s' hs => hs
  cases fl with
  | ret u =>
    obtain ⟨v, σ', H', J, r', q⟩ := hs
    exact ⟨v, H', J.os, J.bare, J.base, J.hok, r', q⟩
  | next =>
    obtain ⟨σ', H', J, q⟩ := hs
    exact ⟨V.non, H', J.os, J.bare, J.base, J.hok, rfl, q⟩
  | brk => obtain ⟨_, _, _, q⟩ := hs; exact False.elim q
  | cont => obtain ⟨_, _, _, q⟩ := hs; exact False.elim q
end
/-! ### calls -/
def eCall (F : Fn) (g : Ev → Sto → R (List D)) : Ev → Sto → R D := fun ρ S => (g ρ S).bind fun ds S1 => F ds S1
theorem PostX.of {K : PySem.W.Frag} {W : WX} {σ : St} {ι : List Addr} {H : Hp} {r : R D} {Q : VK} (h : Post K W σ ι H r fun d _ ι' H' => ∀ v, RepV K ι' H' d v → Q v H') : PostX K (WE W σ) ι H r Q := by
  cases r with
  | ok d S => exact fun ι' H' v G s r => h ι' H' G s v r
  | er e S => exact h
  | stuck => exact h
section
variable {X : Cx} {W : WX} {gd : Bool} {k : Nat} {f : Addr} {F : Fn} {x : Str} {p pos : Pos} {e : Expr} {es : List Expr} {g : Ev → Sto → R (List D)}
theorem run_fnD {pins : List (Addr × Obj)} {σ : St} {H : Hp} {s : Shared} {Q : VK} {us : List Value} {vs : List V} (hF : FnD gd X.prog X.w X.K X.mg X.base k f F) (hr : Room k X.A) (hG : gd = true → X.A.guards = some []) (tk : Takes X W)
    (I : Inv X pins σ H s) (r : Vals vs us) (h : spD X.K F vs H Q (WE W σ)) : wpAny (model X.prog X.w) X.A (call (.ref f) us) (EP X pins σ Q) X.xe s := by
  refine wpAny_call (codeAny_mono (hF X.A X.stack s H us vs Q (WE W σ) hr hG I.env0 r h) fun res s' hq => ?_)
  cases res with
  | error er => exact passAt tk σ pins H s er s' I hq
  | ok fl =>
    cases fl with
    | ret u => exact I.after hq
    | next => exact False.elim hq
    | brk => exact False.elim hq
    | cont => exact False.elim hq
theorem de_callD (hF : FnD gd X.prog X.w X.K X.mg X.base k f F) (hr : Room k X.A) (hG : gd = true → X.A.guards = some []) (tk : Takes X W) (hm : X.mg x = some (.ref f)) (hk : PySem.W.keepIn X.K (.ref f) = true) (ha : DA X W (e :: es) g) (hg : Gl X x := by rfl) (hdb : (x == ("__debug__" : Str)) = false := by decide)
    (he : starEach (e :: es) X.env = (false, eval e X.env) :: starEach es X.env := by rfl) (hpl : (backTo pos (starEach es X.env)).any (·.1) = false := by rfl) : DE X W (.Call (.Name x p) (e :: es) [] pos) (eCall F g) := by
  refine ⟨fun pins s σ H Q I ⟨ι, ρ, S, hE, hS, h⟩ => ?_⟩
  refine wpAny_Call_Name_kw (ld_glob I hg hm ?_ hdb)
  have rd : rdA X.K W g σ H fun vs H1 => spD X.K F vs H1 Q (WE W σ) := ⟨ι, ρ, S, hE, hS, (Post.bind h).mono fun ds S1 ι1 H1 G1 s1 h1 vs rs => ⟨ι1, S1, ds, rs, s1, PostX.of h1⟩⟩
  exact PySem.W.callWith_K (h₀ := X.base) I.ok.mod.kin hk (thn (ha.run pos pins s σ H _ I rd) fun us s1 ⟨vs, H1, I1, r1, q1⟩ => ⟨I1.kIn, run_fnD hF hr hG tk I1 r1 q1⟩) he hpl
theorem de_callD0 (hF : FnD gd X.prog X.w X.K X.mg X.base k f F) (hr : Room k X.A) (hG : gd = true → X.A.guards = some []) (tk : Takes X W) (hm : X.mg x = some (.ref f)) (hk : PySem.W.keepIn X.K (.ref f) = true) (hg : Gl X x := by rfl) (hdb : (x == ("__debug__" : Str)) = false := by decide) :
    DE X W (.Call (.Name x p) [] [] pos) (eCall F aNil) := by
  refine ⟨fun pins s σ H Q I ⟨ι, ρ, S, hE, hS, h⟩ => ?_⟩
  refine wpAny_Call_Name_kw (ld_glob I hg hm ?_ hdb)
  exact PySem.W.callWith_K0 I.kIn hk (run_fnD (us := []) (vs := []) hF hr hG tk I .nil ⟨ι, S, [], RepL.nil, hS, PostX.of h⟩)
end
/-- a def with a star parameter alone -/
theorem fnD_star {P : Program} {w : World} {K : PySem.W.Frag} {mg : Str → Option Value} {base : Heap} {k : Nat} {f : Addr} {fd : FuncData} {N : List Str} {pv x qual : Str} {st : Stmt} {cl : Sto → D → Sto → R D} {B : Ev → Sto → SR} (F : Fun K x qual st f fd) (sc : FnScope N [pv] (defScope st))
    (hb : ∀ (kV doc pm : Value) (an : Option Addr) (cdv ct : Value) (rest : List Value), bindArgs (PySem.W.fnOf x qual (defArgs st) (defBody st) (defScope st) .none kV doc pm an cdv ct) ⟨rest, []⟩ = (newTuple rest >>= fun t => pure [(pv, t)])) (hcl : ClOk cl)
    (hbody : ∀ (cdv : Value) (A : Around) (outer : List Env) (s : Shared) (H : Hp) (E : XK), Room k (A.deeper (envOfC qual (defScope st) s.heap.objs.size f cdv)) →
      Takes (cxOf (L2.CX P w) P w K mg base N qual (defScope st) f cdv A outer s H E) (fun cls d _ H' => E cls d H') →
      PassesOwn (model P w) (A.deeper (envOfC qual (defScope st) s.heap.objs.size f cdv)) (envOfC qual (defScope st) s.heap.objs.size f cdv) (cxOf (L2.CX P w) P w K mg base N qual (defScope st) f cdv A outer s H E).xe →
      DSs (cxOf (L2.CX P w) P w K mg base N qual (defScope st) f cdv A outer s H E) (fun cls d _ H' => E cls d H') (defBody st) B) :
    FnD false P w K mg base (k + 1) f (fun ds S => ifp (ds.length ≤ sizeLine) (fnC cl N.length 1 B [.tup ds] S) .stuck) := by
  intro A outer s H us vs Q E hr _ e0 rv hsp
  obtain ⟨oc, od, kV, doc, pm, an, cdv, ct, osl, efd, lk, hcd⟩ := F.ex
  rw [efd] at lk
  refine StX.fn_star (ps := []) (sp := fun vs H Q E => spD K (fnC cl N.length 1 B) vs H Q E) lk hcd sc StX.cxUp (fun us rest hu => ?_) (fun A outer s H vs Q E hr q => ?_) A outer s H us vs Q E hr e0 rv ?_
  · have : us = [] := List.length_eq_zero_iff.mp hu
    subst this
    exact hb kV doc pm an cdv ct rest
  · obtain ⟨hl, rd⟩ := body_read (N := N) hcl q
    exact ⟨_, hbody cdv A outer s H E hr (takes_of rfl rfl rfl rfl) (passes_of rfl), rd⟩
  · obtain ⟨ι, S, ds, rl, s0, h⟩ := hsp
    replace h : PostX K E ι H (ifp (ds.length ≤ sizeLine) (fnC cl N.length 1 B [.tup ds] S) .stuck) Q := h
    unfold ifp at h
    split at h
    · rename_i hz
      refine ⟨[], vs, rfl, rfl, by rw [← RepL.length _ _ rl]; exact hz, fun p hp => ⟨ι, S, [.tup ds], RepL.one (rep_tup s0 hp rl), s0.upd hp, ?_⟩⟩
      cases hr : fnC cl N.length 1 B [.tup ds] S with
      | ok d S' => rw [hr] at h; exact fun ι' H' v G s' r => h ι' H' v ((Grow.upd hp).trans G) s' r
      | er e S' => rw [hr] at h; exact fun ι' H' cls dd G s' r => h ι' H' cls dd ((Grow.upd hp).trans G) s' r
      | stuck => rw [hr] at h; exact h
    · exact h.elim
end DL

/-! Layer part 9: built-in functions and methods. -/
namespace DL
open PySem PySem.Spec L2
open PyProof.Rows hiding St
def CallK (K : PySem.W.Frag) (r : List V → Hp → VK → Prop) (b : Fn) : Prop := ∀ (W : WX) (σ : St) (ι : List Addr) (H : Hp) (S : Sto) (vs : List V) (ds : List D) (Q : VK), Sim K ι H S → RepL K ι H ds vs →
  Post K W σ ι H (b ds S) (fun d _ ι' H' => ∀ v, RepV K ι' H' d v → Q v H') → r vs H Q
theorem CallR.or {X : Cx} {f : Value} {r r' : List V → Hp → VK → Prop} (h : CallR X f r) (h' : CallR X f r') : CallR X f (fun vs H Q => r vs H Q ∨ r' vs H Q) := by
  intro pins s σ H vs us Q I rv q
  rcases q with q | q
  · exact h pins s σ H vs us Q I rv q
  · exact h' pins s σ H vs us Q I rv q
section
variable {X : Cx} {W : WX} {x : Str} {p pos : Pos} {e : Expr} {es : List Expr} {g : Ev → Sto → R (List D)} {id T : String} {r : List V → Hp → VK → Prop} {b : Fn}
theorem cb_read {K : PySem.W.Frag} (k : CallK K r b) : ∀ σ H Q, rdE K W (eCall b g) σ H Q → tCB r (rdA K W g) σ H Q := fun σ H Q ⟨ι, ρ, S, hE, hS, h⟩ =>
  ⟨ι, ρ, S, hE, hS, (Post.bind h).mono fun ds S1 ι1 H1 G1 s1 h1 vs rs => k W σ ι1 H1 S1 vs ds Q s1 rs h1⟩
theorem de_callB (hc : CallR X (.builtin id) r) (k : CallK X.K r b) (hm : X.mg x = none) (hv : bootBuiltins x = some (.builtin id)) (ha : DA X W (e :: es) g) (hg : Gl X x := by rfl) (hn : x ≠ "__name__" := by decide) (hdb : (x == ("__debug__" : Str)) = false := by decide)
    (he : starEach (e :: es) X.env = (false, eval e X.env) :: starEach es X.env := by rfl) (hpl : (backTo pos (starEach es X.env)).any (·.1) = false := by rfl) : DE X W (.Call (.Name x p) (e :: es) [] pos) (eCall b g) :=
  PE.imp (pe_callB hc hg hm hv ha hn hdb he hpl) (cb_read k)
theorem de_callTy (hc : CallR X (.type T) r) (k : CallK X.K r b) (hm : X.mg x = none) (hv : bootBuiltins x = some (.type T)) (ha : DA X W (e :: es) g) (hg : Gl X x := by rfl) (hn : x ≠ "__name__" := by decide) (hdb : (x == ("__debug__" : Str)) = false := by decide)
    (he : starEach (e :: es) X.env = (false, eval e X.env) :: starEach es X.env := by rfl) (hpl : (backTo pos (starEach es X.env)).any (·.1) = false := by rfl) : DE X W (.Call (.Name x p) (e :: es) [] pos) (eCall b g) :=
  PE.imp (pe_callTy hc hg hm hv ha hn hdb he hpl) (cb_read k)
end
section
variable {X : Cx} {K : PySem.W.Frag}
/-! ### len, abs, max, min -/
noncomputable def bLen : Fn := fun ds S => match ds with
  | [.str z] => ifp (z.length ≤ sizeLine) (.ok (.int z.length) S) .stuck
  | [d] => (match seqOf S d with
    | some xs => .ok (.int xs.length) S
    | none => .stuck)
  | _ => .stuck
theorem c_len : CallR X (.builtin "len") (fun xs H Q => (∃ z, xs = [.str z] ∧ z.length ≤ sizeLine ∧ Q (.int z.length) H) ∨ ∃ p ys, xs = [.ref p] ∧ (SqL X.K H p ys ∨ SqT X.K H p ys) ∧ Q (.int ys.length) H) := CallR.or call_len_str call_len_seq
theorem k_len : CallK K (fun xs H Q => (∃ z, xs = [.str z] ∧ z.length ≤ sizeLine ∧ Q (.int z.length) H) ∨ ∃ p ys, xs = [.ref p] ∧ (SqL K H p ys ∨ SqT K H p ys) ∧ Q (.int ys.length) H) bLen := by
  intro W σ ι H S vs ds Q s rl h
  unfold bLen at h
  (try unfold ifp at h); split at h
  · obtain ⟨v, rfl, rv⟩ := RepL.one_inv rl
    (try unfold ifp at h); split at h
    · rename_i hz
      exact .inl ⟨_, by rw [str_at rv], hz, h.here s _ int_rep⟩
    · exact h.elim
  · obtain ⟨v, rfl, rv⟩ := RepL.one_inv rl
    (try unfold ifp at h); split at h
    · rename_i xs hx
      obtain ⟨p, vs, rfl, q, rq⟩ := seq_at s rv hx
      refine .inr ⟨p, vs, rfl, q, ?_⟩
      rw [← RepL.length _ _ rq]
      exact h.here s _ int_rep
    · exact h.elim
  · exact h.elim
def bAbs : Fn := fun ds S => match ds with
  | [.int i] => .ok (.int (if i < 0 then -i else i)) S
  | _ => .stuck
theorem k_abs : CallK K (fun xs H Q => ∃ i, xs = [.int i] ∧ Q (.int (if i < 0 then -i else i)) H) bAbs := by
  intro W σ ι H S vs ds Q s rl h
  unfold bAbs at h
  (try unfold ifp at h); split at h
  · obtain ⟨v, rfl, rv⟩ := RepL.one_inv rl
    exact ⟨_, by rw [int_at rv], h.here s _ int_rep⟩
  · exact h.elim
def intsOf : List D → Option (List Int)
  | [] => some []
  | .int i :: ds => (intsOf ds).map fun is => i :: is
  | _ => none
theorem intsOf_rep {ι : List Addr} {H : Hp} : ∀ (ds : List D) (vs : List V) (is : List Int), RepL K ι H ds vs → intsOf ds = some is → vs = is.map V.int
  | [], vs, is, r, e => by rw [RepL] at r; cases e; subst r; rfl
  | d :: ds, vs, is, r, e => by
    rw [RepL] at r
    obtain ⟨v, us, rfl, a, b⟩ := r
    cases d with
    | int i =>
      have e : (intsOf ds).map (fun is => i :: is) = some is := e
      cases h : intsOf ds with
      | none => rw [h] at e; cases e
      | some js =>
        rw [h] at e; cases e
        rw [int_at a, intsOf_rep ds us js b h]; rfl
    | _ => cases e
theorem intsOf_map (is : List Int) : intsOf (is.map D.int) = some is := by
  induction is with
  | nil => rfl
  | cons i is ih => simp [intsOf, ih]
def boolsOf : List D → Option (List Bool)
  | [] => some []
  | .bl i :: ds => (boolsOf ds).map fun is => i :: is
  | _ => none
theorem boolsOf_rep {ι : List Addr} {H : Hp} : ∀ (ds : List D) (vs : List V) (is : List Bool), RepL K ι H ds vs → boolsOf ds = some is → vs = is.map V.bl
  | [], vs, is, r, e => by rw [RepL] at r; cases e; subst r; rfl
  | d :: ds, vs, is, r, e => by
    rw [RepL] at r
    obtain ⟨v, us, rfl, a, b⟩ := r
    cases d with
    | bl i =>
      have e : (boolsOf ds).map (fun is => i :: is) = some is := e
      cases h : boolsOf ds with
      | none => rw [h] at e; cases e
      | some js =>
        rw [h] at e; cases e
        rw [RepV] at a
        rw [a, boolsOf_rep ds us js b h]; rfl
    | _ => cases e
theorem boolsOf_map (is : List Bool) : boolsOf (is.map D.bl) = some is := by
  induction is with
  | nil => rfl
  | cons i is ih => simp [boolsOf, ih]
def maxL : List Int → Int
  | [] => 0
  | i :: is => is.foldl max i
def minL : List Int → Int
  | [] => 0
  | i :: is => is.foldl min i
def bMax : Fn := fun ds S => match ds with
  | [.int i, .int j] => .ok (.int (max i j)) S
  | [d] => (match (lstOf S d).bind intsOf with
    | some is => if is = [] then .stuck else .ok (.int (maxL is)) S
    | none => .stuck)
  | _ => .stuck
def bMin : Fn := fun ds S => match ds with
  | [.int i, .int j] => .ok (.int (min i j)) S
  | [d] => (match (lstOf S d).bind intsOf with
    | some is => if is = [] then .stuck else .ok (.int (minL is)) S
    | none => .stuck)
  | _ => .stuck
theorem foldl_max_ge (l : List Int) : ∀ i : Int, i ≤ l.foldl max i ∧ ∀ x ∈ l, x ≤ l.foldl max i := by
  induction l with
  | nil => intro i; simp
  | cons a l ih =>
    intro i
    obtain ⟨h1, h2⟩ := ih (max i a)
    refine ⟨by simp only [List.foldl_cons]; omega, fun x hx => ?_⟩
    simp only [List.foldl_cons]
    rcases List.mem_cons.mp hx with rfl | hx
    · omega
    · exact h2 x hx
theorem foldl_max_mem (l : List Int) : ∀ i : Int, l.foldl max i = i ∨ l.foldl max i ∈ l := by
  induction l with
  | nil => intro i; simp
  | cons a l ih =>
    intro i
    simp only [List.foldl_cons]
    rcases ih (max i a) with h | h
    · rw [h]
      by_cases hia : i ≤ a
      · exact .inr (by rw [Int.max_eq_right hia]; exact List.mem_cons_self)
      · exact .inl (by omega)
    · exact .inr (List.mem_cons_of_mem _ h)
theorem foldl_min_le (l : List Int) : ∀ i : Int, l.foldl min i ≤ i ∧ ∀ x ∈ l, l.foldl min i ≤ x := by
  induction l with
  | nil => intro i; simp
  | cons a l ih =>
    intro i
    obtain ⟨h1, h2⟩ := ih (min i a)
    refine ⟨by simp only [List.foldl_cons]; omega, fun x hx => ?_⟩
    simp only [List.foldl_cons]
    rcases List.mem_cons.mp hx with rfl | hx
    · omega
    · exact h2 x hx
theorem foldl_min_mem (l : List Int) : ∀ i : Int, l.foldl min i = i ∨ l.foldl min i ∈ l := by
  induction l with
  | nil => intro i; simp
  | cons a l ih =>
    intro i
    simp only [List.foldl_cons]
    rcases ih (min i a) with h | h
    · rw [h]
      by_cases hia : a ≤ i
      · exact .inr (by rw [Int.min_eq_right hia]; exact List.mem_cons_self)
      · exact .inl (by omega)
    · exact .inr (List.mem_cons_of_mem _ h)
theorem maxL_spec {is : List Int} (h : is ≠ []) : maxL is ∈ is ∧ ∀ x ∈ is, x ≤ maxL is := by
  cases is with
  | nil => exact absurd rfl h
  | cons i l =>
    obtain ⟨h1, h2⟩ := foldl_max_ge l i
    refine ⟨?_, fun x hx => ?_⟩
    · rcases foldl_max_mem l i with e | e
      · show l.foldl max i ∈ i :: l
        rw [e]; exact List.mem_cons_self
      · exact List.mem_cons_of_mem _ e
    · rcases List.mem_cons.mp hx with rfl | hx
      · exact h1
      · exact h2 x hx
theorem minL_spec {is : List Int} (h : is ≠ []) : minL is ∈ is ∧ ∀ x ∈ is, minL is ≤ x := by
  cases is with
  | nil => exact absurd rfl h
  | cons i l =>
    obtain ⟨h1, h2⟩ := foldl_min_le l i
    refine ⟨?_, fun x hx => ?_⟩
    · rcases foldl_min_mem l i with e | e
      · show l.foldl min i ∈ i :: l
        rw [e]; exact List.mem_cons_self
      · exact List.mem_cons_of_mem _ e
    · rcases List.mem_cons.mp hx with rfl | hx
      · exact h1
      · exact h2 x hx
theorem lst_ints {ι : List Addr} {H : Hp} {S : Sto} {d : D} {v : V} {is : List Int} (s : Sim K ι H S) (r : RepV K ι H d v) (e : (lstOf S d).bind intsOf = some is) : ∃ p, v = .ref p ∧ SqL K H p (is.map V.int) := by
  cases h : lstOf S d with
  | none => rw [h] at e; cases e
  | some ds =>
    rw [h] at e
    obtain ⟨p, vs, rfl, q, rl⟩ := lst_at s r h
    rw [intsOf_rep _ _ _ rl e] at q
    exact ⟨p, rfl, SqL.of q⟩
theorem c_max (hc : X.calm = true) : CallR X (.builtin "max") (fun xs H Q => (∃ i j, xs = [.int i, .int j] ∧ Q (.int (if j > i then j else i)) H) ∨ rMax X.K xs H Q) := CallR.or (call_max2 hc) (cr_max hc)
theorem c_min (hc : X.calm = true) : CallR X (.builtin "min") (fun xs H Q => (∃ i j, xs = [.int i, .int j] ∧ Q (.int (if j < i then j else i)) H) ∨ rMin X.K xs H Q) := CallR.or (call_min2 hc) (cr_min hc)
theorem k_max : CallK K (fun xs H Q => (∃ i j, xs = [.int i, .int j] ∧ Q (.int (if j > i then j else i)) H) ∨ rMax K xs H Q) bMax := by
  intro W σ ι H S vs ds Q s rl h
  unfold bMax at h
  (try unfold ifp at h); split at h
  · rename_i i j
    obtain ⟨v, u, rfl, rv, ru⟩ := RepL.two_inv rl
    refine .inl ⟨i, j, by rw [int_at rv, int_at ru], ?_⟩
    have : (if j > i then j else i) = max i j := by split <;> omega
    rw [this]
    exact h.here s _ int_rep
  · obtain ⟨v, rfl, rv⟩ := RepL.one_inv rl
    (try unfold ifp at h); split at h
    · rename_i is hi
      (try unfold ifp at h); split at h
      · exact h.elim
      · rename_i hne
        obtain ⟨p, rfl, q⟩ := lst_ints s rv hi
        obtain ⟨m1, m2⟩ := maxL_spec hne
        refine .inr ⟨p, is, rfl, q, List.length_pos_iff.mpr hne, fun m hm hle => ?_⟩
        have : m = maxL is := by have := hle _ m1; have := m2 _ hm; omega
        rw [this]
        exact h.here s _ int_rep
    · exact h.elim
  · exact h.elim
theorem k_min : CallK K (fun xs H Q => (∃ i j, xs = [.int i, .int j] ∧ Q (.int (if j < i then j else i)) H) ∨ rMin K xs H Q) bMin := by
  intro W σ ι H S vs ds Q s rl h
  unfold bMin at h
  (try unfold ifp at h); split at h
  · rename_i i j
    obtain ⟨v, u, rfl, rv, ru⟩ := RepL.two_inv rl
    refine .inl ⟨i, j, by rw [int_at rv, int_at ru], ?_⟩
    have : (if j < i then j else i) = min i j := by split <;> omega
    rw [this]
    exact h.here s _ int_rep
  · obtain ⟨v, rfl, rv⟩ := RepL.one_inv rl
    (try unfold ifp at h); split at h
    · rename_i is hi
      (try unfold ifp at h); split at h
      · exact h.elim
      · rename_i hne
        obtain ⟨p, rfl, q⟩ := lst_ints s rv hi
        obtain ⟨m1, m2⟩ := minL_spec hne
        refine .inr ⟨p, is, rfl, q, List.length_pos_iff.mpr hne, fun m hm hle => ?_⟩
        have : m = minL is := by have := hle _ m1; have := m2 _ hm; omega
        rw [this]
        exact h.here s _ int_rep
    · exact h.elim
  · exact h.elim
/-! ### sum, all, any, list, tuple -/
def bSum : Fn := fun ds S => match ds with
  | [d] => (match (lstOf S d).bind intsOf with
    | some is => .ok (.int is.sum) S
    | none => .stuck)
  | _ => .stuck
theorem k_sum : CallK K (rSum K) bSum := by
  intro W σ ι H S vs ds Q s rl h
  unfold bSum at h
  (try unfold ifp at h); split at h
  · obtain ⟨v, rfl, rv⟩ := RepL.one_inv rl
    (try unfold ifp at h); split at h
    · rename_i is hi
      obtain ⟨p, rfl, q⟩ := lst_ints s rv hi
      exact ⟨p, is, rfl, q, h.here s _ int_rep⟩
    · exact h.elim
  · exact h.elim
theorem lst_bools {ι : List Addr} {H : Hp} {S : Sto} {d : D} {v : V} {is : List Bool} (s : Sim K ι H S) (r : RepV K ι H d v) (e : (lstOf S d).bind boolsOf = some is) : ∃ p, v = .ref p ∧ SqL K H p (is.map V.bl) := by
  cases h : lstOf S d with
  | none => rw [h] at e; cases e
  | some ds =>
    rw [h] at e
    obtain ⟨p, vs, rfl, q, rl⟩ := lst_at s r h
    rw [boolsOf_rep _ _ _ rl e] at q
    exact ⟨p, rfl, SqL.of q⟩
def bAll : Fn := fun ds S => match ds with
  | [d] => (match (lstOf S d).bind boolsOf with
    | some is => .ok (.bl (is.all id)) S
    | none => .stuck)
  | _ => .stuck
theorem k_all : CallK K (rAll K) bAll := by
  intro W σ ι H S vs ds Q s rl h
  unfold bAll at h
  (try unfold ifp at h); split at h
  · obtain ⟨v, rfl, rv⟩ := RepL.one_inv rl
    (try unfold ifp at h); split at h
    · rename_i is hi
      obtain ⟨p, rfl, q⟩ := lst_bools s rv hi
      exact ⟨p, is, rfl, q, h.here s _ bl_rep⟩
    · exact h.elim
  · exact h.elim
def bList (mk : List D → Sto → R D) : Fn := fun ds S => match ds with
  | [d] => (match seqOf S d with
    | some xs => mk xs S
    | none => .stuck)
  | _ => .stuck
theorem k_list {mk : List D → Sto → R D} (m : MkOk mk) : CallK K (fun xs H Q => ∃ p ys, xs = [.ref p] ∧ (SqL K H p ys ∨ SqT K H p ys) ∧ ∀ l, H l = none → Q (.ref l) (upd H l (.lst ys))) (bList mk) := by
  intro W σ ι H S vs ds Q s rl h
  unfold bList at h
  (try unfold ifp at h); split at h
  · obtain ⟨v, rfl, rv⟩ := RepL.one_inv rl
    (try unfold ifp at h); split at h
    · rename_i xs hx
      obtain ⟨p, vs, rfl, q, rq⟩ := seq_at s rv hx
      exact ⟨p, vs, rfl, q, m _ _ _ _ _ _ _ _ _ h s rq⟩
    · exact h.elim
  · exact h.elim
def bTuple : Fn := fun ds S => match ds with
  | [d] => (match seqOf S d with
    | some xs => .ok (.tup xs) S
    | none => .stuck)
  | _ => .stuck
theorem k_tuple : CallK K (fun xs H Q => ∃ p ys, xs = [.ref p] ∧ ((SqL K H p ys ∧ ∀ l, H l = none → Q (.ref l) (upd H l (.tup ys))) ∨ (SqT K H p ys ∧ Q (.ref p) H))) bTuple := by
  intro W σ ι H S vs ds Q s rl h
  match ds, rl, h with
  | [], rl, h => exact (show False from h).elim
  | _ :: _ :: _, rl, h => exact (show False from h).elim
  | [d], rl, h =>
    obtain ⟨v, rfl, rv⟩ := RepL.one_inv rl
    replace h : Post K W σ ι H (match seqOf S d with
      | some xs => .ok (.tup xs) S
      | none => .stuck) (fun d _ ι' H' => ∀ v, RepV K ι' H' d v → Q v H') := h
    cases d with
    | tup ys =>
      have rv' := rv
      obtain ⟨p, vs, rfl, q, rq⟩ := tup_at rv
      exact ⟨p, vs, rfl, .inr ⟨q, Post.here (a := D.tup ys) h s _ rv'⟩⟩
    | fl ys =>
      rw [RepV] at rv
      obtain ⟨a, us, rfl, t, rl'⟩ := rv
      exact ⟨a, us, rfl, .inl ⟨t.sq, new_tup h s rl'⟩⟩
    | kl ys =>
      rw [RepV] at rv
      obtain ⟨a, us, rfl, t, rl'⟩ := rv
      exact ⟨a, us, rfl, .inl ⟨t.sq, new_tup h s rl'⟩⟩
    | loc n =>
      rw [RepV] at rv
      obtain ⟨a, ea, rfl⟩ := rv
      cases hq : getQ S n with
      | none =>
        have e : seqOf S (.loc n) = none := hq
        rw [e] at h; exact h.elim
      | some ys =>
        have e : seqOf S (.loc n) = some ys := hq
        rw [e] at h
        obtain ⟨us, z, rl'⟩ := loc_at s ea hq
        exact ⟨a, us, rfl, .inl ⟨z, new_tup h s rl'⟩⟩
    | _ => exact (show False from h).elim
/-! ### str of an int, int of an int or a bool -/
noncomputable def bStr : Fn := fun ds S => match ds with
  | [.int i] => ifp (i.natAbs.log2 < 1920) (.ok (.str (toString i)) S) .stuck
  | _ => .stuck
theorem k_str : CallK K (fun xs H Q => ∃ i, xs = [.int i] ∧ i.natAbs.log2 < 1920 ∧ Q (.str (toString i)) H) bStr := by
  intro W σ ι H S vs ds Q s rl h
  unfold bStr at h
  (try unfold ifp at h); split at h
  · obtain ⟨v, rfl, rv⟩ := RepL.one_inv rl
    (try unfold ifp at h); split at h
    · rename_i hl
      exact ⟨_, by rw [int_at rv], hl, h.here s _ str_rep⟩
    · exact h.elim
  · exact h.elim
def bInt : Fn := fun ds S => match ds with
  | [.int i] => .ok (.int i) S
  | [.bl b] => .ok (.int (if b then 1 else 0)) S
  | _ => .stuck
theorem k_int : CallK K (fun xs H Q => (∃ i, xs = [.int i] ∧ Q (.int i) H) ∨ ∃ k, xs = [.bl k] ∧ Q (.int (if k then 1 else 0)) H) bInt := by
  intro W σ ι H S vs ds Q s rl h
  unfold bInt at h
  (try unfold ifp at h); split at h
  · obtain ⟨v, rfl, rv⟩ := RepL.one_inv rl
    exact .inl ⟨_, by rw [int_at rv], h.here s _ int_rep⟩
  · obtain ⟨v, rfl, rv⟩ := RepL.one_inv rl
    rw [RepV] at rv
    exact .inr ⟨_, by rw [rv], h.here s _ int_rep⟩
  · exact h.elim
/-! ### isinstance against built-in classes -/
def tyOf (S : Sto) : D → Option String
  | .non => some "NoneType"
  | .bl _ => some "bool"
  | .int _ => some "int"
  | .str _ => some "str"
  | .tup _ => some "tuple"
  | .fl _ => some "list"
  | .fd _ => some "dict"
  | .kl _ => none
  | .loc n => (match S[n]? with
    | some (.lst _) => some "list"
    | some (.dct _) => some "dict"
    | _ => none)
  | .ty _ => none
  | .fn _ => none
  | .exc _ _ => none
theorem ty_at {ι : List Addr} {H : Hp} {S : Sto} {d : D} {v : V} {t : String} (s : Sim K ι H S) (r : RepV K ι H d v) (e : tyOf S d = some t) : TyX K H v (.type t) := by
  cases d with
  | non => rw [RepV] at r; cases e; subst r; exact .base .non
  | bl b => rw [RepV] at r; cases e; subst r; exact .base (.bl b)
  | int b => rw [RepV] at r; cases e; subst r; exact .base (.int b)
  | str b => rw [RepV] at r; cases e; subst r; exact .base (.str b)
  | tup ds =>
    cases e
    rw [RepV] at r
    obtain ⟨a, vs, rfl, tt, rl⟩ := r
    rcases tt with tt | tt | ⟨o, its, n, h1, h2, _⟩
    · exact .base (.tup tt.2)
    · exact (no_rd tt).elim
    · exact .kTuple h1 h2
  | fl ds =>
    cases e
    rw [RepV] at r
    obtain ⟨a, vs, rfl, tt, rl⟩ := r
    exact .base (.lst tt.2)
  | fd ds =>
    cases e
    rw [RepV] at r
    obtain ⟨a, vs, rfl, tt, h1, rl⟩ := r
    exact .base (.dK h1)
  | loc n =>
    rw [RepV] at r
    obtain ⟨a, ea, rfl⟩ := r
    have e : (match S[n]? with
      | some (.lst _) => some "list"
      | some (.dct _) => some "dict"
      | _ => none) = some t := e
    (try unfold ifp at e); split at e
    · rename_i q
      cases e
      obtain ⟨vs, h1, _⟩ := s.ob _ _ _ ea q
      exact .base (.lst h1)
    · rename_i q
      cases e
      obtain ⟨vs, h1, _⟩ := s.ob _ _ _ ea q
      exact .base (.dK h1)
    · cases e
  | ty b => cases e
  | kl b => cases e
  | fn b => cases e
  | exc c b => cases e
def bIsi : Fn := fun ds S => match ds with
  | [d, .ty c] => (match tyOf S d with
    | some t => (match kitB t c with
      | some b => .ok (.bl b) S
      | none => .stuck)
    | none => .stuck)
  | _ => .stuck
theorem k_isi : CallK K (rIsi K) bIsi := by
  intro W σ ι H S vs ds Q s rl h
  unfold bIsi at h
  (try unfold ifp at h); split at h
  · obtain ⟨v, u, rfl, rv, ru⟩ := RepL.two_inv rl
    rw [RepV] at ru
    (try unfold ifp at h); split at h
    · rename_i t ht
      (try unfold ifp at h); split at h
      · rename_i b hb
        refine ⟨v, u, .type t, .type _, b, rfl, ?_, ty_at s rv ht, kit_ty hb, h.here s _ bl_rep⟩
        subst ru
        exact .ty _
      · exact h.elim
    · exact h.elim
  · exact h.elim
end
/-! ### a minus sign, chains -/
section
variable {X : Cx} {W : WX} {pos : Pos} {a b c : Expr}
def eNeg (f : Ev → Sto → R D) : Ev → Sto → R D := fun ρ S => (f ρ S).bind fun d S1 => (iOf d S1).bind fun i S2 => .ok (.int (-i)) S2
theorem de_neg {f : Ev → Sto → R D} (ha : DE X W a f) : DE X W (.UnaryOp .USub a pos) (eNeg f) := by
  refine PE.imp (pe_un un_neg ha) fun σ H Q ⟨ι, ρ, S, hE, hS, h⟩ => ⟨ι, ρ, S, hE, hS, (Post.bind h).mono fun d S1 ι1 H1 G1 s1 h1 v rv => ?_⟩
  cases d with
  | int i => exact ⟨i, int_at rv, Post.here (a := D.int (-i)) h1 s1 _ int_rep⟩
  | _ => exact (show False from h1).elim
def eChain (o o' : D → D → Sto → R D) (f g h : Ev → Sto → R D) : Ev → Sto → R D := fun ρ S => (f ρ S).bind fun x S1 => (g ρ S1).bind fun y S2 => (o x y S2).bind fun z S3 => (bOf z S3).bind fun k S4 => if k = true then (h ρ S4).bind fun w S5 => o' y w S5 else .ok (.bl false) S4
theorem chain_read {r r' : R2} {o o' : D → D → Sto → R D} {f g h : Ev → Sto → R D} (k : OpK X.K r o) (k' : OpK X.K r' o') : ∀ σ H Q, rdE X.K W (eChain o o' f g h) σ H Q → tChain r r' (rdE X.K W f) (rdE X.K W g) (rdE X.K W h) σ H Q := fun σ H Q ⟨ι, ρ, S, hE, hS, q⟩ => by
  refine ⟨ι, ρ, S, hE, hS, (Post.bind q).mono fun x S1 ι1 H1 G1 s1 h1 vx rx => ?_⟩
  refine ⟨ι1, ρ, S1, hE.grow G1, s1, (Post.bind h1).mono fun y S2 ι2 H2 G2 s2 h2 vy ry => ?_⟩
  refine k W σ ι2 H2 S2 vx vy x y _ s2 (RepV.grow G2 _ _ rx) ry ((Post.bind h2).mono fun z S3 ι3 H3 G3 s3 h3 vz rz => ?_)
  obtain ⟨b, e, h4⟩ := bOf_bind h3 s3 rz
  refine ⟨b, e, ?_⟩
  have hE3 := ((hE.grow G1).grow G2).grow G3
  cases b with
  | false => rw [if_neg (by decide)] at h4 ⊢; exact h4.here s3 _ bl_rep
  | true =>
    rw [if_pos rfl] at h4 ⊢
    refine ⟨ι3, ρ, S3, hE3, s3, (Post.bind h4).mono fun w S4 ι4 H4 G4 s4 h5 vw rw' => ?_⟩
    exact k' W σ ι4 H4 S4 vy vw y w Q s4 (RepV.grow G4 _ _ (RepV.grow G3 _ _ ry)) rw' h5
theorem de_chain {op op' : CmpOp} {r r' : R2} {o o' : D → D → Sto → R D} {f g h : Ev → Sto → R D} (ho : OpR X (compareOp op) r) (k : OpK X.K r o) (ho' : OpR X (compareOp op') r') (k' : OpK X.K r' o') (ha : DE X W a f) (hb : DE X W b g) (hc : DE X W c h)
    (hm : lastMarks [op, op'] [b, c] = false := by with_unfolding_all rfl) : DE X W (.Compare a [op, op'] [b, c] pos) (eChain o o' f g h) := PE.imp (pe_chain ho ho' ha hb hc hm) (chain_read k k')
theorem dt_chain {op op' : CmpOp} {r r' : R2} {o o' : D → D → Sto → R D} {f g h : Ev → Sto → R D} (ho : OpR X (compareOp op) r) (k : OpK X.K r o) (ho' : OpR X (compareOp op') r') (k' : OpK X.K r' o') (ha : DE X W a f) (hb : DE X W b g) (hc : DE X W c h)
    (hm : lastMarks [op, op'] [b, c] = false := by with_unfolding_all rfl) : DT X W (.Compare a [op, op'] [b, c] pos) (eT (eChain o o' f g h)) := dt_of_test (pt_chain ho ho' ha hb hc hm) (chain_read k k')
end
end DL

/-! Layer part 10: methods of lists, repr, names of built-ins. -/
namespace DL
open PySem PySem.Spec L2
open PyProof.Rows hiding St
abbrev Mt := D → List D → Sto → R D
def MtK (K : PySem.W.Frag) (r : V → List V → Hp → VK → Prop) (m : Mt) : Prop := ∀ (W : WX) (σ : St) (ι : List Addr) (H : Hp) (S : Sto) (x : V) (vs : List V) (a : D) (ds : List D) (Q : VK), Sim K ι H S → RepV K ι H a x → RepL K ι H ds vs →
  Post K W σ ι H (m a ds S) (fun d _ ι' H' => ∀ v, RepV K ι' H' d v → Q v H') → r x vs H Q
def isLst (S : Sto) (d : D) : Bool := (lstOf S d).isSome
def eMt (c : Sto → D → Bool) (m : Mt) (f : Ev → Sto → R D) (g : Ev → Sto → R (List D)) : Ev → Sto → R D := fun ρ S => (f ρ S).bind fun a S1 => if c S1 a = true then (g ρ S1).bind fun ds S2 => m a ds S2 else .stuck
def isStr (_ : Sto) (d : D) : Bool := match d with
  | .str _ => true
  | _ => false
def ChkOk (T : String) (c : Sto → D → Bool) : Prop := ∀ (K : PySem.W.Frag) (ι : List Addr) (H : Hp) (S : Sto) (d : D) (x : V), Sim K ι H S → RepV K ι H d x → c S d = true → tyV K T x H
theorem chk_lst : ChkOk "list" isLst := fun K ι H S d x s r h => by
  unfold isLst at h
  cases e : lstOf S d with
  | none => rw [e] at h; cases h
  | some ds =>
    obtain ⟨p, vs, rfl, q, _⟩ := lst_at s r e
    exact .inl ⟨rfl, vs, SqL.of q⟩
theorem chk_str : ChkOk "str" isStr := fun K ι H S d x s r h => by
  cases d with
  | str z => rw [str_at r]; rfl
  | _ => cases h
section
variable {X : Cx} {W : WX} {o e : Expr} {es : List Expr} {apos cpos : Pos} {T id : String} {name : Str} {r : V → List V → Hp → VK → Prop} {c : Sto → D → Bool} {m : Mt} {f : Ev → Sto → R D} {g : Ev → Sto → R (List D)}
theorem de_bm (pa : PlainAttrs T) (slot : Slot T name id) (hty : typeOf (.builtin id) = pure (.type "method_descriptor")) (hm : MtR X id r) (k : MtK X.K r m) (hc : ChkOk T c) (ho : DE X W o f) (ha : DA X W (e :: es) g)
    (hbase : attributeBase o name X.env (eval o X.env) = eval o X.env := by rfl)
    (hfew : ((backTo cpos (starEach (e :: es) X.env)).all (fun x => !x.1) && (backToKw cpos (keywordEach [] X.env)).all (fun x => x.1.isSome)
      && decide ((e :: es).length + ([] : List Keyword).length + (if ([] : List Keyword).isEmpty then 0 else 1) < 30)) = true := by rfl)
    (hline : (apos.endLine == cpos.line) = true := by rfl) (hs : starEach (e :: es) X.env = (false, eval e X.env) :: starEach es X.env := by rfl)
    (hplain : (backTo cpos (starEach es X.env)).any (·.1) = false := by rfl) : DE X W (.Call (.Attribute o name apos) (e :: es) [] cpos) (eMt c m f g) := by
  refine PE.imp (pe_bm pa slot hty hm ho ha hbase hfew hline hs hplain) fun σ H Q ⟨ι, ρ, S, hE, hS, h⟩ => ⟨ι, ρ, S, hE, hS, (Post.bind h).mono fun a S1 ι1 H1 G1 s1 h1 x rx => ?_⟩
  (try unfold ifp at h1); split at h1
  · rename_i hh
    refine ⟨hc _ _ _ _ _ _ s1 rx hh, ι1, ρ, S1, hE.grow G1, s1, (Post.bind h1).mono fun ds S2 ι2 H2 G2 s2 h2 vs rs => ?_⟩
    exact k W σ ι2 H2 S2 x vs a ds Q s2 (RepV.grow G2 _ _ rx) rs h2
  · exact h1.elim
theorem de_bm0 (pa : PlainAttrs T) (slot : Slot T name id) (hty : typeOf (.builtin id) = pure (.type "method_descriptor")) (hm : MtR X id r) (k : MtK X.K r m) (hc : ChkOk T c) (ho : DE X W o f)
    (hbase : attributeBase o name X.env (eval o X.env) = eval o X.env := by rfl) (hline : (apos.endLine == cpos.line) = true := by rfl) : DE X W (.Call (.Attribute o name apos) [] [] cpos) (eMt c m f aNil) := by
  refine PE.imp (pe_bm0 pa slot hty hm ho hbase hline) fun σ H Q ⟨ι, ρ, S, hE, hS, h⟩ => ⟨ι, ρ, S, hE, hS, (Post.bind h).mono fun a S1 ι1 H1 G1 s1 h1 x rx => ?_⟩
  (try unfold ifp at h1); split at h1
  · rename_i hh
    refine ⟨hc _ _ _ _ _ _ s1 rx hh, ?_⟩
    exact k W σ ι1 H1 S1 x [] a [] Q s1 rx RepL.nil h1
  · exact h1.elim
end
section
variable {X : Cx} {K : PySem.W.Frag}
noncomputable def mAppend : Mt := fun o ds S => match o, ds with
  | .loc n, [y] => (match getL S n with
    | some xs => ifp (xs.length < sizeLine) (.ok .non (S.set n (.lst (xs ++ [y])))) .stuck
    | none => .stuck)
  | _, _ => .stuck
/-- a list of the store is changed -/
theorem loc_put {W : WX} {σ : St} {ι : List Addr} {H : Hp} {S : Sto} {n : Nat} {a : Addr} {xs : List D} {ys : List D} {us : List V} {d : D} {Q : VK} {v : V} (h : Post K W σ ι H (.ok d (S.set n (.lst ys))) fun d _ ι' H' => ∀ v, RepV K ι' H' d v → Q v H') (s : Sim K ι H S) (ea : ι[n]? = some a)
    (rl : RepL K ι H ys us) (rv : RepV K ι H d v) : Q v (upd H a (.lst us)) :=
  have G := Grow.put (H := H) (o := .lst us) (List.mem_of_getElem? ea)
  h ι _ G (s.put (b := .lst ys) ea ⟨us, upd_same, RepL.grow G _ _ rl⟩) v (RepV.grow G _ _ rv)
theorem k_append : MtK K rAppend mAppend := by
  intro W σ ι H S x vs a ds Q s rx rl h
  unfold mAppend at h
  (try unfold ifp at h); split at h
  · (try unfold ifp at h); split at h
    · rename_i xs hL
      (try unfold ifp at h); split at h
      · rename_i hz
        obtain ⟨y, rfl, ry⟩ := RepL.one_inv rl
        rw [RepV] at rx
        obtain ⟨p, ea, rfl⟩ := rx
        obtain ⟨us, h1, h2⟩ := s.ob _ _ _ ea (getL_some hL)
        exact ⟨p, us, y, rfl, rfl, h1, by rw [← RepL.length _ _ h2]; exact hz, loc_put (xs := xs) h s ea (RepL.app _ _ h2 _ _ (RepL.one ry)) non_rep⟩
      · exact h.elim
    · exact h.elim
  · exact h.elim
noncomputable def mExtend : Mt := fun o ds S => match o, ds with
  | .loc n, [y] => (match getL S n, lstOf S y with
    | some xs, some ys => ifp (xs.length + ys.length ≤ sizeLine) (.ok .non (S.set n (.lst (xs ++ ys)))) .stuck
    | _, _ => .stuck)
  | _, _ => .stuck
theorem k_extend : MtK K rExtend mExtend := by
  intro W σ ι H S x vs a ds Q s rx rl h
  unfold mExtend at h
  (try unfold ifp at h); split at h
  · (try unfold ifp at h); split at h
    · rename_i xs ys hL hy
      (try unfold ifp at h); split at h
      · rename_i hz
        obtain ⟨y, rfl, ry⟩ := RepL.one_inv rl
        rw [RepV] at rx
        obtain ⟨p, ea, rfl⟩ := rx
        obtain ⟨us, h1, h2⟩ := s.ob _ _ _ ea (getL_some hL)
        obtain ⟨q, ws, rfl, h3, h4⟩ := lst_at s ry hy
        exact ⟨p, q, us, ws, rfl, rfl, h1, h3, by rw [← RepL.length _ _ h2, ← RepL.length _ _ h4]; exact hz, loc_put (xs := xs) h s ea (RepL.app _ _ h2 _ _ h4) non_rep⟩
      · exact h.elim
    · exact h.elim
  · exact h.elim
def mPop : Mt := fun o ds S => match o, ds with
  | .loc n, [] => (match getL S n with
    | some xs => (match xs[xs.length - 1]? with
      | some y => .ok y (S.set n (.lst xs.dropLast))
      | none => .stuck)
    | none => .stuck)
  | _, _ => .stuck
theorem RepL.dropLast {ι : List Addr} {H : Hp} {ds : List D} {vs : List V} (h : RepL K ι H ds vs) : RepL K ι H ds.dropLast vs.dropLast := by
  rw [List.dropLast_eq_take, List.dropLast_eq_take, ← RepL.length _ _ h]
  exact RepL.take _ _ _ h
theorem k_pop : MtK K rPop mPop := by
  intro W σ ι H S x vs a ds Q s rx rl h
  unfold mPop at h
  (try unfold ifp at h); split at h
  · (try unfold ifp at h); split at h
    · rename_i xs hL
      (try unfold ifp at h); split at h
      · rename_i y hy
        have := rl
        rw [RepL] at this
        subst this
        rw [RepV] at rx
        obtain ⟨p, ea, rfl⟩ := rx
        obtain ⟨us, h1, h2⟩ := s.ob _ _ _ ea (getL_some hL)
        obtain ⟨v, hv, rv⟩ := RepL.get _ _ h2 _ _ hy
        rw [RepL.length _ _ h2] at hv
        exact ⟨p, us, v, rfl, rfl, h1, hv, loc_put (xs := xs) h s ea h2.dropLast rv⟩
      · exact h.elim
    · exact h.elim
  · exact h.elim
noncomputable def mPopAt : Mt := fun o ds S => match o, ds with
  | .loc n, [.int i] => (match getL S n with
    | some xs => ifp (-(2 ^ 63) ≤ i ∧ i < 2 ^ 63) (match seqIndex? i xs.length with
        | some k => (match xs[k]? with
          | some y => .ok y (S.set n (.lst (xs.eraseIdx k)))
          | none => .stuck)
        | none => .stuck) .stuck
    | none => .stuck)
  | _, _ => .stuck
theorem RepL.erase {ι : List Addr} {H : Hp} : ∀ (ds : List D) (vs : List V) (k : Nat), RepL K ι H ds vs → RepL K ι H (ds.eraseIdx k) (vs.eraseIdx k)
  | [], _, k, h => by rw [RepL] at h; subst h; simp [RepL]
  | d :: ds, _, 0, h => by
    rw [RepL] at h
    obtain ⟨v, r, rfl, a, b⟩ := h
    exact b
  | d :: ds, _, k + 1, h => by
    rw [RepL] at h
    obtain ⟨v, r, rfl, a, b⟩ := h
    exact RepL.cons a (RepL.erase ds r k b)
theorem k_popAt : MtK K rPopAt mPopAt := by
  intro W σ ι H S x vs a ds Q s rx rl h
  unfold mPopAt at h
  (try unfold ifp at h); split at h
  · rename_i n i
    (try unfold ifp at h); split at h
    · rename_i xs hL
      (try unfold ifp at h); split at h
      · rename_i hi
        (try unfold ifp at h); split at h
        · rename_i k hk
          (try unfold ifp at h); split at h
          · rename_i y hy
            obtain ⟨u, rfl, ru⟩ := RepL.one_inv rl
            rw [RepV] at rx
            obtain ⟨p, ea, rfl⟩ := rx
            obtain ⟨us, h1, h2⟩ := s.ob _ _ _ ea (getL_some hL)
            obtain ⟨v, hv, rv⟩ := RepL.get _ _ h2 _ _ hy
            refine ⟨p, us, i, k, v, rfl, by rw [int_at ru], h1, hi.1, hi.2, by rw [← RepL.length _ _ h2]; exact hk, hv, loc_put (xs := xs) h s ea (RepL.erase _ _ _ h2) rv⟩
          · exact h.elim
        · exact h.elim
      · exact h.elim
    · exact h.elim
  · exact h.elim
theorem mtm_or {id : String} {r r' : V → List V → Hp → VK → Prop} (h : MtR X id r) (h' : MtR X id r') : MtR X id (fun x vs H Q => r x vs H Q ∨ r' x vs H Q) := by
  intro pins s σ H x xs v us Q I rx rv q
  rcases q with q | q
  · exact h pins s σ H x xs v us Q I rx rv q
  · exact h' pins s σ H x xs v us Q I rx rv q
noncomputable def mInsert : Mt := fun o ds S => match o, ds with
  | .loc n, [.int i, y] => (match getL S n with
    | some xs => ifp (xs.length < sizeLine ∧ 0 ≤ i ∧ i < 2 ^ 63) (.ok .non (S.set n (.lst (xs.take i.toNat ++ [y] ++ xs.drop i.toNat)))) .stuck
    | none => .stuck)
  | _, _ => .stuck
theorem k_insert : MtK K (fun x vs H Q => ∃ (l : Addr) (xs : List V) (i : Int) (y : V), x = .ref l ∧ vs = [.int i, y] ∧ H l = some (.lst xs) ∧ xs.length < sizeLine ∧ 0 ≤ i ∧ i < 2 ^ 63 ∧ Q .non (upd H l (.lst (xs.take i.toNat ++ [y] ++ xs.drop i.toNat)))) mInsert := by
  intro W σ ι H S x vs a ds Q s rx rl h
  unfold mInsert at h
  (try unfold ifp at h); split at h
  · rename_i n i y0
    (try unfold ifp at h); split at h
    · rename_i xs hL
      (try unfold ifp at h); split at h
      · rename_i hz
        obtain ⟨u, y, rfl, ru, ry⟩ := RepL.two_inv rl
        rw [RepV] at rx
        obtain ⟨p, ea, rfl⟩ := rx
        obtain ⟨us, h1, h2⟩ := s.ob _ _ _ ea (getL_some hL)
        refine ⟨p, us, i, y, rfl, by rw [int_at ru], h1, by rw [← RepL.length _ _ h2]; exact hz.1, hz.2.1, hz.2.2, loc_put (xs := xs) h s ea ?_ non_rep⟩
        exact RepL.app _ _ (RepL.app _ _ (RepL.take _ _ _ h2) _ _ (RepL.one ry)) _ _ (RepL.drop _ _ _ h2)
      · exact h.elim
    · exact h.elim
  · exact h.elim
end
/-! ### repr -/
section
variable {X : Cx} {pins : List (Addr × Obj)} {σ : St} {ι : List Addr} {H : Hp} {s : Shared}
theorem no_sys (I : Inv X pins σ H s) (hb : ∃ o, X.base.get? sysModules = some o) {a : Addr} {u : HO} (e : H a = some u) : sysModules ≠ a := by
  rintro rfl
  obtain ⟨o, h⟩ := hb
  have := (I.bs _ _ h).2
  rw [this] at e; cases e
theorem pairs_reads {P : Program} {w : World} {h : Heap} : ∀ (kvs : List (Key × V)) (vs : List (Key × Value)) (es : List DictEntry), KV kvs vs → Pairs (mixKind P w) es vs → ∃ ks, ks = es.map (·.key) ∧ ReadsAll h ks (kvs.map fun q => keyPy q.1) [] ∧ Vals (kvs.map (·.2)) (es.map (·.val))
  | [], _, _, .nil, .nil => ⟨_, rfl, .nil, .nil⟩
  | (k, x) :: kvs, _, _, .cons r rs, .cons (e := e) h1 h2 h3 => by
    obtain ⟨ks, rfl, h4, h5⟩ := pairs_reads (h := h) kvs _ _ rs h3
    obtain ⟨r1, r2⟩ := r
    refine ⟨_, rfl, ?_, .cons (show L2.RelV x e.val by rw [h2]; exact r2) h5⟩
    rw [← r1] at h1
    rcases keyIs_shape h1 with ⟨i, t, e1, e2⟩ | ⟨z, t, e1, e2⟩
    · cases e1
      show ReadsAll h (e.key :: _) (PyData.int i :: _) ([] ++ [])
      rw [e2]
      exact .cons (Reads.int i t) h4
    · cases e1
      show ReadsAll h (e.key :: _) (PyData.str z :: _) ([] ++ [])
      rw [e2]
      exact .cons (Reads.str z t) h4
theorem reads_nil {h : Heap} : ReadsAll h [] [] [] := .nil
theorem repK_fst {K : PySem.W.Frag} : ∀ (kvs : List (Key × D)) (ks : List (Key × V)), RepK K ι H kvs ks → ks.map (fun q => keyPy q.1) = kvs.map (fun q => keyPy q.1) ∧ RepL K ι H (kvs.map (·.2)) (ks.map (·.2))
  | [], _, h => by rw [RepK] at h; subst h; exact ⟨rfl, RepL.nil⟩
  | (k, d) :: kvs, _, h => by
    rw [RepK] at h
    obtain ⟨v, r, rfl, a, b⟩ := h
    obtain ⟨h1, h2⟩ := repK_fst kvs r b
    exact ⟨by simp [h1], RepL.cons a h2⟩
theorem pyK_split : ∀ (kvs : List (Key × D)) (ps : List (PyData × PyData)), pyK kvs = some ps → ps.map (·.1) = kvs.map (fun q => keyPy q.1) ∧ pyL (kvs.map (·.2)) = some (ps.map (·.2))
  | [], ps, h => by rw [pyK] at h; cases h; exact ⟨rfl, rfl⟩
  | (k, d) :: kvs, ps, h => by
    rw [pyK] at h
    cases h1 : py d with
    | none => rw [h1] at h; cases h
    | some p =>
      rw [h1] at h
      cases h2 : pyK kvs with
      | none => rw [h2] at h; cases h
      | some qs =>
        rw [h2] at h; cases h
        obtain ⟨a, b⟩ := pyK_split kvs qs h2
        refine ⟨by simp [a], ?_⟩
        show pyL (d :: kvs.map (·.2)) = _
        rw [pyL, h1, b]; rfl
mutual
theorem py_reads (I : Inv X pins σ H s) (hb : ∃ o, X.base.get? sysModules = some o) : ∀ (d : D) (v : V) (u : Value) (p : PyData), RepV X.K ι H d v → RelV v u → py d = some p → ∃ as, Reads s.heap u p as ∧ sysModules ∉ as
  | .non, v, u, p, r, q, e => by rw [RepV] at r; rw [py] at e; cases e; subst r; cases q; exact ⟨_, .none, by simp⟩
  | .bl b, v, u, p, r, q, e => by rw [RepV] at r; rw [py] at e; cases e; subst r; cases q; exact ⟨_, .bool b, by simp⟩
  | .int i, v, u, p, r, q, e => by rw [RepV] at r; rw [py] at e; cases e; subst r; obtain ⟨t, rfl⟩ := q; exact ⟨_, .int i t, by simp⟩
  | .str x, v, u, p, r, q, e => by rw [RepV] at r; rw [py] at e; cases e; subst r; obtain ⟨t, rfl⟩ := q; exact ⟨_, .str x t, by simp⟩
  | .tup ds, v, u, p, r, q, e => by
    rw [RepV] at r
    obtain ⟨a, vs, rfl, t, rl⟩ := r
    cases q
    rw [py] at e
    cases h : pyL ds with
    | none => rw [h] at e; cases e
    | some ps =>
      rw [h] at e; cases e
      obtain ⟨its, rv, ⟨o, ho, hc, n, hd⟩, _⟩ := I.tuple t.sq
      obtain ⟨as, h1, h2⟩ := pyL_reads I hb ds vs its ps rl rv h
      exact ⟨as, .tuple ho hc hd h1, h2⟩
  | .fl ds, v, u, p, r, q, e => by
    rw [RepV] at r
    obtain ⟨a, vs, rfl, t, rl⟩ := r
    cases q
    rw [py] at e
    cases h : pyL ds with
    | none => rw [h] at e; cases e
    | some ps =>
      rw [h] at e; cases e
      obtain ⟨its, rv, ⟨o, n, ho, hc, _, hd⟩, _⟩ := I.list t.sq
      obtain ⟨as, h1, h2⟩ := pyL_reads I hb ds vs its ps rl rv h
      exact ⟨a :: as, .list ho hc hd h1, by simp [h2, no_sys I hb t.2]⟩
  | .fd kvs, v, u, p, r, q, e => by
    rw [RepV] at r
    obtain ⟨a, ks, rfl, na, ha, rk⟩ := r
    cases q
    rw [py] at e
    cases h : pyK kvs with
    | none => rw [h] at e; cases e
    | some ps =>
      rw [h] at e; cases e
      obtain ⟨_, _, vs, kv, o, es, ep, ho, hx, hd, _, hp, _⟩ := I.hok a _ ha
      obtain ⟨e1, rl⟩ := repK_fst kvs ks rk
      obtain ⟨e2, e3⟩ := pyK_split kvs ps h
      obtain ⟨_, rfl, h4, h5⟩ := pairs_reads (h := s.heap) ks vs es.toList kv hp
      obtain ⟨as, h6, h7⟩ := pyLK_reads I hb kvs _ _ (ps.map (·.2)) rl h5 e3
      refine ⟨a :: [] ++ as, .dict ho hx.1 hd (by rw [e2, ← e1]; exact h4) h6, ?_⟩
      simp [h7, no_sys I hb ha]
  | .ty _, v, u, p, r, q, e => by rw [py] at e; cases e
  | .kl _, v, u, p, r, q, e => by rw [py] at e; cases e
  | .fn _, v, u, p, r, q, e => by rw [py] at e; cases e
  | .exc _ _, v, u, p, r, q, e => by rw [py] at e; cases e
  | .loc _, v, u, p, r, q, e => by rw [py] at e; cases e
theorem pyL_reads (I : Inv X pins σ H s) (hb : ∃ o, X.base.get? sysModules = some o) : ∀ (ds : List D) (vs : List V) (us : List Value) (ps : List PyData), RepL X.K ι H ds vs → Vals vs us → pyL ds = some ps → ∃ as, ReadsAll s.heap us ps as ∧ sysModules ∉ as
  | [], vs, us, ps, r, q, e => by rw [RepL] at r; rw [pyL] at e; cases e; subst r; cases q; exact ⟨_, .nil, by simp⟩
  | d :: ds, vs, us, ps, r, q, e => by
    rw [RepL] at r
    obtain ⟨v, ws, rfl, a, b⟩ := r
    rw [pyL] at e
    cases h : py d with
    | none => rw [h] at e; cases e
    | some p =>
      rw [h] at e
      cases h2 : pyL ds with
      | none => rw [h2] at e; cases e
      | some qs =>
        rw [h2] at e; cases e
        cases q with
        | cons q1 q2 =>
          obtain ⟨as, r1, n1⟩ := py_reads I hb d v _ p a q1 h
          obtain ⟨bs, r2, n2⟩ := pyL_reads I hb ds ws _ qs b q2 h2
          exact ⟨as ++ bs, .cons r1 r2, by simp [n1, n2]⟩
theorem pyLK_reads (I : Inv X pins σ H s) (hb : ∃ o, X.base.get? sysModules = some o) : ∀ (ds : List (Key × D)) (vs : List V) (us : List Value) (ps : List PyData), RepL X.K ι H (ds.map (·.2)) vs → Vals vs us → pyL (ds.map (·.2)) = some ps → ∃ as, ReadsAll s.heap us ps as ∧ sysModules ∉ as
  | [], vs, us, ps, r, q, e => by
    have r : RepL X.K ι H [] vs := r
    have e : pyL [] = some ps := e
    rw [RepL] at r; rw [pyL] at e; cases e; subst r; cases q; exact ⟨_, .nil, by simp⟩
  | (k, d) :: ds, vs, us, ps, r, q, e => by
    have r : RepL X.K ι H (d :: ds.map (·.2)) vs := r
    have e : pyL (d :: ds.map (·.2)) = some ps := e
    rw [RepL] at r
    obtain ⟨v, ws, rfl, a, b⟩ := r
    rw [pyL] at e
    cases h : py d with
    | none => rw [h] at e; cases e
    | some p =>
      rw [h] at e
      cases h2 : pyL (ds.map (·.2)) with
      | none => rw [h2] at e; cases e
      | some qs =>
        rw [h2] at e; cases e
        cases q with
        | cons q1 q2 =>
          obtain ⟨as, r1, n1⟩ := py_reads I hb d v _ p a q1 h
          obtain ⟨bs, r2, n2⟩ := pyLK_reads I hb ds ws _ qs b q2 h2
          exact ⟨as ++ bs, .cons r1 r2, by simp [n1, n2]⟩
end
theorem pyS_reads {S : Sto} (I : Inv X pins σ H s) (hb : ∃ o, X.base.get? sysModules = some o) (sm : Sim X.K ι H S) {d : D} {v : V} {u : Value} {p : PyData} (r : RepV X.K ι H d v) (q : RelV v u) (e : pyS S d = some p) : ∃ as, Reads s.heap u p as ∧ sysModules ∉ as := by
  cases d with
  | loc m =>
    have e : (getQ S m).bind (fun ds => (pyL ds).map .list) = some p := e
    cases h : getQ S m with
    | none => rw [h] at e; cases e
    | some ds =>
      rw [h] at e
      have e : (pyL ds).map PyData.list = some p := e
      cases h2 : pyL ds with
      | none => rw [h2] at e; cases e
      | some ps =>
        rw [h2] at e; cases e
        rw [RepV] at r
        obtain ⟨a, ea, rfl⟩ := r
        cases q
        obtain ⟨vs, h3, h4⟩ := loc_at sm ea h
        obtain ⟨w, hw⟩ := sm.there (List.mem_of_getElem? ea)
        obtain ⟨its, rv, ⟨o, n, ho, hc, _, hd⟩, _⟩ := I.list h3
        obtain ⟨as, h5, h6⟩ := pyL_reads I hb ds vs its ps h4 rv h2
        exact ⟨a :: as, .list ho hc hd h5, by simp [h6, no_sys I hb hw]⟩
  | _ => exact py_reads I hb _ v u p r q e
end
def showOk (p : PyData) : Prop := p.showable = true ∧ p.shown.length ≤ sizeLine ∧ p.depth ≤ 60
open Classical in
noncomputable def bRepr : Fn := fun ds S => match ds with
  | [d] => (match pyS S d with
    | some p => if showOk p then .ok (.str p.shown) S else .stuck
    | none => .stuck)
  | _ => .stuck
def rRepr (K : PySem.W.Frag) : List V → Hp → VK → Prop := fun xs H Q => ∃ ι S d x p, xs = [x] ∧ Sim K ι H S ∧ RepV K ι H d x ∧ pyS S d = some p ∧ showOk p ∧ Q (.str p.shown) H
theorem c_repr {X : Cx} {k : Nat} (hr : Room k X.A) (hg : X.A.guards = some []) (hb : ∃ o, X.base.get? sysModules = some o) : CallR X (.builtin "repr") (rRepr X.K) := by
  intro pins s σ H xs us Q I rv h
  obtain ⟨ι, S, d, x, p, rfl, sm, r, e, ⟨h1, h2, h3⟩, q⟩ := h
  cases rv with
  | cons r1 r2 =>
    cases r2
    rename_i u
    obtain ⟨as, rd, na⟩ := pyS_reads I hb sm r r1 e
    show wpAny _ _ (call (.builtin "repr") [u]) _ _ _
    have hu := hr.units
    have fin : ∀ (h' : Heap) (t : Tok) (tk : Nat), (∀ b o, s.heap.get? b = some o → h'.get? b = some o) → EP X pins σ Q (.str p.shown t) { s with heap := h', toks := tk } := fun h' t tk hk => ⟨.str p.shown, H, I.kept hk, ⟨_, rfl⟩, q⟩
    cases rd with
    | none => exact P.repr_of_none (fin _ _ _ fun _ _ e => e)
    | bool b => exact P.repr_of_bool (fin _ _ _ fun _ _ e => e)
    | int i t => exact P.repr_of_int (by simpa [PyData.showable] using h1) (fin _ _ _ fun _ _ e => e)
    | str z t => exact P.repr_of_str (fin _ _ _ fun _ _ e => e) h2
    | list a1 a2 a3 a4 => exact repr_of_reads' (.list a1 a2 a3 a4) h1 (fun _ => na) hg (by omega) (fun _ _ e => e) (fun h' t tk hk => fin h' t tk hk) h2
    | tuple a1 a2 a3 a4 => exact repr_of_reads' (.tuple a1 a2 a3 a4) h1 (fun _ => na) hg (by omega) (fun _ _ e => e) (fun h' t tk hk => fin h' t tk hk) h2
    | dict a1 a2 a3 a4 a5 => exact repr_of_reads' (.dict a1 a2 a3 a4 a5) h1 (fun _ => na) hg (by omega) (fun _ _ e => e) (fun h' t tk hk => fin h' t tk hk) h2
theorem k_repr {K : PySem.W.Frag} : CallK K (rRepr K) bRepr := by
  intro W σ ι H S vs ds Q s rl h
  unfold bRepr at h
  (try unfold ifp at h); split at h
  · obtain ⟨v, rfl, rv⟩ := RepL.one_inv rl
    (try unfold ifp at h); split at h
    · rename_i p hp
      (try unfold ifp at h); split at h
      · rename_i hs
        exact ⟨ι, S, _, v, p, rfl, s, rv, hp, hs, h.here s _ str_rep⟩
      · exact h.elim
    · exact h.elim
  · exact h.elim
/-- the name of a built-in class as a value -/
theorem de_bty {X : Cx} {W : WX} {x : Str} {T : String} {pos : Pos} (hm : X.mg x = none) (hv : bootBuiltins x = some (.type T)) (hg : Gl X x := by rfl) (hn : x ≠ "__name__" := by decide) (hd : (x == ("__debug__" : Str)) = false := by decide) : DE X W (.Name x pos) (eC (.ty T)) :=
  de_c (pe_bltn (v := .ty T) hg hm hv rfl hn hd) fun _ _ => by rw [RepV]
end DL

/-! Layer part 11: the law's own end. -/
namespace DL
open PySem PySem.Spec L2
open PyProof.Rows hiding St
/-- what a law's function must give -/
def LawOk (F : Fn) : Prop := ∀ ns : List Int, ns.length ≤ 63 → (∀ z ∈ ns, Builtin.Int.intBits z ≤ 1048576) → ∃ S', F [.kl (ns.map D.int)] [] = .ok (.bl true) S'
theorem repL_ints {K : PySem.W.Frag} {ι : List Addr} {H : Hp} (ns : List Int) : RepL K ι H (ns.map D.int) (ns.map V.int) := by
  induction ns with
  | nil => exact RepL.nil
  | cons n ns ih => exact RepL.cons int_rep ih
theorem law_run {P : Program} {w : World} {K : PySem.W.Frag} {mg mb : Str → Option Value} {k : Nat} {fa a : Addr} {F : Fn} {s₁ : Shared} {vs : List Value} {ns : List Int}
    (KX : K.In s₁.heap) (hns : s₁.heap.Ns mainGlobals mg) (hb : s₁.heap.Ns builtinsNs mb) (hbb : ∀ x : Str, x ≠ "__name__" → mb x = bootBuiltins x) (hlim : s₁.heap.NoLimit) (hsy : s₁.heap.NoSeer) (hg : s₁.gens = #[])
    (ha : s₁.heap.get? a = some { cls := .type "list", data := .seq vs.toArray }) (hi : IntsAre vs ns) (hl : ns.length ≤ 63) (hbit : ∀ z ∈ ns, Builtin.Int.intBits z ≤ 1048576) (hr : Room k callerA)
    (hF : ∀ base : Heap, K.In base → base.Ns mainGlobals mg → (∃ o, base.get? sysModules = some o) → FnD true P w K mg base k fa F) (hlaw : LawOk F) :
    codeAny (model P w) callerA (.call (.ref fa) ⟨[.ref a], []⟩) (fun r s' => r = .ok (.ret (.bool true)) ∧ OldK s₁.heap s'.heap ∧ s'.os = s₁.os ∧ AllBare s'.gens) s₁ := by
  have rvs := vals_ints hi
  have hz : ns.length ≤ sizeLine := Nat.le_trans hl (by decide)
  have hlv := hi.length
  have go : ∀ H : Hp, (∀ b u, H b = some u → b = a ∧ K.lookup a = none ∧ ∃ o, u = .frz o (.lst (ns.map V.int))) → KlAt K [] H a (ns.map V.int) → HOk P w H s₁.heap →
      codeAny (model P w) callerA (.call (.ref fa) ⟨[.ref a], []⟩) (fun r s' => r = .ok (.ret (.bool true)) ∧ OldK s₁.heap s'.heap ∧ s'.os = s₁.os ∧ AllBare s'.gens) s₁ := by
    intro H only kl hok
    have free : ∀ {b : Addr} {o : Obj}, s₁.heap.get? b = some o → (b = a → K.lookup a ≠ none ∨ ∃ es ep, o.data = .dict es ep) → H b = none := by
      intro b o e1 e2
      cases q : H b with
      | none => rfl
      | some u =>
        obtain ⟨rfl, n1, _⟩ := only b u q
        rcases e2 rfl with z | ⟨es, ep, z⟩
        · exact absurd n1 z
        · rw [ha] at e1; cases e1; cases z
    have nsb : ∀ {b : Addr} {m : Str → Option Value}, s₁.heap.Ns b m → (hidT s₁.heap H).Ns b m := by
      rintro b m ⟨o, es, ep, e1, e2, r⟩
      exact ⟨o, es, ep, hidT_get e1 (free e1 fun _ => .inr ⟨es, ep, e2⟩), e2, r⟩
    have kin : K.In (hidT s₁.heap H) := fun b o e => hidT_get (KX b o e) (free (KX b o e) fun z => .inl (by rw [← z, e]; simp))
    have hsys : ∃ o, (hidT s₁.heap H).get? sysModules = some o := by
      obtain ⟨mm, ⟨o, es, ep, e1, e2, r⟩, _⟩ := hsy.mods
      exact ⟨o, hidT_get e1 (free e1 fun _ => .inr ⟨es, ep, e2⟩)⟩
    have md : Mod K mg (hidT s₁.heap H) := ⟨kin, nsb hns, ⟨mb, nsb hb, hbb⟩, let ⟨mc, h1, h2⟩ := hlim; ⟨mc, nsb h1, h2⟩⟩
    have e0 : Env0 P w K mg (hidT s₁.heap H) callerA [] s₁ H :=
      { frames := rfl, mod := md, bs := fun b o e => of_hidT e, bsz := Nat.le_of_eq (hidT_size _ _), funs := trivial
        frf := fun b z => absurd (show b ∈ ([] : List Addr) from z) (by simp), hok := hok, bare := .of_eq hg }
    obtain ⟨S', hS⟩ := hlaw ns hl hbit
    have sp : spD K F [V.ref a] H (fun v _ => v = .bl true) fun _ _ _ => False := by
      refine ⟨[], [], [.kl (ns.map D.int)], RepL.one (by rw [RepV]; exact ⟨a, _, rfl, kl, repL_ints ns⟩), ⟨List.nodup_nil, rfl, fun n a o e => by simp at e⟩, ?_⟩
      rw [hS]
      intro ι' H' v _ _ r
      rw [RepV] at r; exact r
    refine codeAny_mono (hF _ kin (nsb hns) hsys callerA [] s₁ H [.ref a] [.ref a] _ _ hr (fun _ => rfl) e0 (.cons rfl .nil) sp) fun r s' h => ?_
    cases r with
    | error e =>
      obtain ⟨_, _, _, _, _, _, _, _, _, _, _, _, z⟩ := h
      exact z.elim
    | ok fl =>
      cases fl with
      | next => exact False.elim h
      | brk => exact False.elim h
      | cont => exact False.elim h
      | ret u =>
        obtain ⟨v, H', os, bare, un, hok', r', q⟩ := h
        have q : v = .bl true := q
        subst q
        cases (show u = Value.bool true from r')
        refine ⟨rfl, OldK.of_keep fun b o e => ?_, os, bare⟩
        cases hb' : H b with
        | none => exact un.keep b o e hb' (fun z => absurd (show b ∈ ([] : List Addr) from z) (by simp)) (by simp)
        | some u =>
          obtain ⟨rfl, _, ob, rfl⟩ := only b u hb'
          have z1 := (hok b _ hb').1
          have z2 := (hok' b _ (un.frzs b ob _ hb')).1
          rw [e] at z1; cases z1
          exact z2
  cases hk : K.lookup a with
  | some o =>
    have e := KX a o hk
    rw [ha] at e; cases e
    refine go (fun _ => none) (fun b u z => by cases z) (.inr (.inr ⟨_, vs.toArray, _, hk, rfl, rfl, rfl, by rw [List.size_toArray, hlv]; exact hz, by simpa using rvs⟩)) fun b u z => by cases z
  | none =>
    refine go (upd (fun _ => none) a (.frz { cls := .type "list", data := .seq vs.toArray } (.lst (ns.map V.int)))) (fun b u z => ?_) (.inl ⟨by simp, _, upd_same⟩) fun b u z => ?_
    · by_cases hb' : b = a
      · subst hb'
        rw [upd_same] at z; cases z
        exact ⟨rfl, hk, _, rfl⟩
      · rw [upd_ne hb'] at z; cases z
    · by_cases hb' : b = a
      · subst hb'
        rw [upd_same] at z; cases z
        exact ⟨ha, by rw [List.length_map]; exact hz, vs, _, rvs, ha⟩
      · rw [upd_ne hb'] at z; cases z
theorem law_walk {l : PySem.W.OpenLaw} {k : Nat} {q : Program} {loose : List Str} {XP : (Str → Option Value) → Heap → Prop} {YP : World → Heap → Prop} {d : DefRec} {K : Params → PySem.W.Frag}
    (hn : l.most = some 63) (hdf : d.params.defaults = []) (hr : Room k callerA) (hi : importsNone q = true)
    (hY : ∀ (w : World) (h : Heap), YP w h → (K w.params).In h)
    (hF : ∀ (w : World) (mg : Str → Option Value) (fa : Addr) (h : Heap), (K w.params).In h → h.Ns mainGlobals mg → mg d.name = some (.ref fa) →
      ∃ F : Fn, LawOk F ∧ ∀ base : Heap, (K w.params).In base → base.Ns mainGlobals mg → (∃ o, base.get? sysModules = some o) → FnD true l.prog w (K w.params) mg base k fa F) :
    PySem.W.WalkO q loose XP YP l.row.toRowW d [] (fun f vs => PySem.call f vs) := by
  refine Att.attach_callB hn hdf fun w s₀ s₁ mg mb fa o pm cd doc a vs ns G Y ho hd hcd hmg hobj hints hlen hbits hg => ?_
  obtain ⟨F, hl, hF'⟩ := hF w mg fa _ (hY w _ Y) G.T.g hmg
  exact law_run (hY w _ Y) G.T.g G.T.b G.T.builtins G.T.nolimit (G.T.seer hi) hg hobj hints hlen hbits hr hF' hl
end DL

/-! Layer part 12: small things. -/
namespace DL
open PySem PySem.Spec L2
open PyProof.Rows hiding St
section
variable {K : PySem.W.Frag}
theorem k_lt : OpK K (rI0 fun i j => .bl (decide (i < j))) dLt := k_cmp
theorem k_le : OpK K (rI0 fun i j => .bl (decide (i ≤ j))) dLe := k_cmp
theorem k_gt : OpK K (rI0 fun i j => .bl (decide (j < i))) dGt := k_cmp
theorem k_ge : OpK K (rI0 fun i j => .bl (decide (j ≤ i))) dGe := k_cmp
end
def sPar3 (i j l : Nat) (g : Ev → Sto → R (List D)) : Ev → Sto → SR := fun ρ S => (g ρ S).toS ρ fun ds S1 => match ds with
  | [a, b, c] => .nx (((ρ.set i (some a)).set j (some b)).set l (some c)) S1
  | _ => .stuck
section
variable {X : Cx} {W : WX}
theorem RepL.three_inv {K : PySem.W.Frag} {ι : List Addr} {H : Hp} {d e f : D} {vs : List V} (h : RepL K ι H [d, e, f] vs) : ∃ v u w, vs = [v, u, w] ∧ RepV K ι H d v ∧ RepV K ι H e u ∧ RepV K ι H f w := by
  rw [RepL] at h
  obtain ⟨v, r, rfl, rv, rs⟩ := h
  obtain ⟨u, w, rfl, ru, rw'⟩ := RepL.two_inv rs
  exact ⟨v, u, w, rfl, rv, ru, rw'⟩
theorem ds_par3 (i j l : Nat) {x y z : Str} {a b c : Expr} {g : Ev → Sto → R (List D)} {px py pz pt pos : Pos} {kt k2 pt2} (hc : X.calm = true) (hN : X.N.Nodup) (ha : DA X W [a, b, c] g) (hij : i ≠ j := by decide) (hil : i ≠ l := by decide) (hjl : j ≠ l := by decide)
    (hi : X.N[i]? = some x := by rfl) (hj : X.N[j]? = some y := by rfl) (hl : X.N[l]? = some z := by rfl)
    (hx : X.env.scope.names.lookup x = some .local := by rfl) (hy : X.env.scope.names.lookup y = some .local := by rfl) (hz : X.env.scope.names.lookup z = some .local := by rfl)
    (hw : swappedStores [.Tuple [.Name x px, .Name y py, .Name z pz] kt pt] (.Tuple [a, b, c] k2 pt2) X.env = pure (some [x, y, z]) := by rfl)
    (hs : swapsWithSole [.Tuple [.Name x px, .Name y py, .Name z pz] kt pt] (.Tuple [a, b, c] k2 pt2) pos.line X.env = pure false := by rfl) :
    DS X W (.Assign [.Tuple [.Name x px, .Name y py, .Name z pz] kt pt] (.Tuple [a, b, c] k2 pt2) pos) (sPar3 i j l g) := by
  refine PS.imp (ps_par3 hc hN hi hj hl hij hil hjl hx hy hz ha hw hs) fun E σ H ⟨ι, ρ, S, hE, hS, h⟩ => ⟨ι, ρ, S, hE, hS, (PostS.bind h hE).mono fun ds S1 ι1 H1 G1 s1 h1 vs rs => ?_⟩
  split at h1
  · obtain ⟨u, v, w, rfl, ru, rv, rw'⟩ := RepL.three_inv rs
    exact ⟨u, v, w, rfl, h1 ι1 H1 _ (Grow.refl _ _) s1 ((((hE.grow G1).set ru i).set rv j).set rw' l)⟩
  · exact h1.elim
end
end DL

/-! Lemmas for reckoning with the functions. -/
namespace DL
open PySem PySem.Spec L2
open PyProof.Rows hiding St
theorem dAdd_int (i j : Int) (S : Sto) : dAdd (.int i) (.int j) S = .ok (.int (i + j)) S := rfl
theorem dLt_int (i j : Int) (S : Sto) : dLt (.int i) (.int j) S = .ok (.bl (decide (i < j))) S := rfl
theorem dLe_int (i j : Int) (S : Sto) : dLe (.int i) (.int j) S = .ok (.bl (decide (i ≤ j))) S := rfl
theorem dGt_int (i j : Int) (S : Sto) : dGt (.int i) (.int j) S = .ok (.bl (decide (j < i))) S := rfl
theorem dGe_int (i j : Int) (S : Sto) : dGe (.int i) (.int j) S = .ok (.bl (decide (j ≤ i))) S := rfl
theorem dAddI_int (i j : Int) (S : Sto) : dAddI (.int i) (.int j) S = .ok (.int (i + j)) S := rfl
theorem dSubI_int (i j : Int) (S : Sto) : dSubI (.int i) (.int j) S = .ok (.int (i - j)) S := rfl
theorem dSub_int (i j : Int) (S : Sto) : dSub (.int i) (.int j) S = .ok (.int (i - j)) S := rfl
theorem dMod_int (i j : Int) (S : Sto) : dMod (.int i) (.int j) S = if 0 < j then .ok (.int (i % j)) S else .stuck := rfl
theorem dFdiv_int (i j : Int) (S : Sto) : dFdiv (.int i) (.int j) S = ifp (0 < j ∧ j.natAbs.log2 < 9000) (.ok (.int (i / j)) S) .stuck := rfl
theorem dPow_ok {i j : Int} (h : 0 ≤ j ∧ j ≤ 1000000 ∧ i.natAbs < 2 ^ 64) (S : Sto) : dPow (.int i) (.int j) S = .ok (.int (i ^ j.toNat)) S := ifp_pos h
theorem dIsN_non (n : Bool) (a : D) (S : Sto) : dIsN n a .non S = .ok (.bl (if n then !isN a else isN a)) S := rfl
theorem ll0 : (0 ≤ sizeLine) = True := eq_true (by decide)
theorem ll1 : (1 ≤ sizeLine) = True := eq_true (by decide)
theorem ll2 : (2 ≤ sizeLine) = True := eq_true (by decide)
theorem ll3 : (3 ≤ sizeLine) = True := eq_true (by decide)
theorem ll4 : (4 ≤ sizeLine) = True := eq_true (by decide)
theorem ll5 : (5 ≤ sizeLine) = True := eq_true (by decide)
theorem ll6 : (6 ≤ sizeLine) = True := eq_true (by decide)
theorem ll7 : (7 ≤ sizeLine) = True := eq_true (by decide)
theorem ll8 : (8 ≤ sizeLine) = True := eq_true (by decide)
theorem ll9 : (9 ≤ sizeLine) = True := eq_true (by decide)
theorem ll10 : (10 ≤ sizeLine) = True := eq_true (by decide)
theorem ll11 : (11 ≤ sizeLine) = True := eq_true (by decide)
theorem ll12 : (12 ≤ sizeLine) = True := eq_true (by decide)
theorem ll13 : (13 ≤ sizeLine) = True := eq_true (by decide)
theorem ll14 : (14 ≤ sizeLine) = True := eq_true (by decide)
theorem ll15 : (15 ≤ sizeLine) = True := eq_true (by decide)
theorem ll16 : (16 ≤ sizeLine) = True := eq_true (by decide)
theorem ll17 : (17 ≤ sizeLine) = True := eq_true (by decide)
theorem ll18 : (18 ≤ sizeLine) = True := eq_true (by decide)
theorem ll19 : (19 ≤ sizeLine) = True := eq_true (by decide)
theorem ll20 : (20 ≤ sizeLine) = True := eq_true (by decide)
theorem ll21 : (21 ≤ sizeLine) = True := eq_true (by decide)
theorem ll22 : (22 ≤ sizeLine) = True := eq_true (by decide)
theorem ll23 : (23 ≤ sizeLine) = True := eq_true (by decide)
theorem ll24 : (24 ≤ sizeLine) = True := eq_true (by decide)
theorem ll25 : (25 ≤ sizeLine) = True := eq_true (by decide)
theorem ll26 : (26 ≤ sizeLine) = True := eq_true (by decide)
theorem ll27 : (27 ≤ sizeLine) = True := eq_true (by decide)
theorem ll28 : (28 ≤ sizeLine) = True := eq_true (by decide)
theorem ll29 : (29 ≤ sizeLine) = True := eq_true (by decide)
theorem ll30 : (30 ≤ sizeLine) = True := eq_true (by decide)
theorem ll31 : (31 ≤ sizeLine) = True := eq_true (by decide)
theorem ll32 : (32 ≤ sizeLine) = True := eq_true (by decide)
theorem ll33 : (33 ≤ sizeLine) = True := eq_true (by decide)
theorem ll34 : (34 ≤ sizeLine) = True := eq_true (by decide)
theorem ll35 : (35 ≤ sizeLine) = True := eq_true (by decide)
theorem ll36 : (36 ≤ sizeLine) = True := eq_true (by decide)
theorem ll37 : (37 ≤ sizeLine) = True := eq_true (by decide)
theorem ll38 : (38 ≤ sizeLine) = True := eq_true (by decide)
theorem ll39 : (39 ≤ sizeLine) = True := eq_true (by decide)
theorem ll40 : (40 ≤ sizeLine) = True := eq_true (by decide)
theorem pyL_ints (l : List Int) : pyL (l.map D.int) = some (l.map PyData.int) := by
  induction l with
  | nil => rfl
  | cons i l ih => simp [pyL, py, ih]
theorem canLayAll_ints (l : List Int) : PyData.canLayAll0 (l.map PyData.int) = true := by
  induction l with
  | nil => rfl
  | cons i l ih => simp [PyData.canLayAll0, PyData.canLay0, ih]
theorem depthAll_ints (l : List Int) : PyData.depthAll (l.map PyData.int) = 0 := by
  induction l with
  | nil => rfl
  | cons i l ih => simp [PyData.depthAll, PyData.depth, ih]
theorem shaped_ints (l : List Int) : SeqAt.shaped (.list (l.map PyData.int)) = true := by
  simp [SeqAt.shaped, PyData.canLay0, canLayAll_ints, PyData.depth, depthAll_ints]
theorem shaped_intsT (l : List Int) : SeqAt.shaped (.tuple (l.map PyData.int)) = true := by
  simp [SeqAt.shaped, PyData.canLay0, canLayAll_ints, PyData.depth, depthAll_ints]
theorem shaped_int (i : Int) : SeqAt.shaped (.int i) = true := by
  simp [SeqAt.shaped, PyData.canLay0, PyData.depth]
theorem shaped_nilL : SeqAt.shaped (.list []) = true := by decide
theorem shaped_nilT : SeqAt.shaped (.tuple []) = true := by decide
theorem dEq_int (n : Bool) (i j : Int) (S : Sto) : dEq n (.int i) (.int j) S = .ok (.bl (if n then !(i == j) else i == j)) S := by
  simp [dEq, dEqP, pyS, py, shaped_int, PyData.eqv]
theorem dEqP_py {n : Bool} {a b : D} {S : Sto} {p q : PyData} (h1 : pyS S a = some p) (h2 : pyS S b = some q) (s1 : SeqAt.shaped p = true) (s2 : SeqAt.shaped q = true) : dEqP n a b S = .ok (.bl (if n then !PyData.eqv p q else PyData.eqv p q)) S := by
  unfold dEqP
  rw [h1, h2]
  show (if SeqAt.shaped p = true ∧ SeqAt.shaped q = true then _ else _) = _
  rw [if_pos ⟨s1, s2⟩]
theorem dEq_str (n : Bool) (x y : Str) (S : Sto) : dEq n (.str x) (.str y) S = .ok (.bl (if n then !decide (x = y) else decide (x = y))) S := rfl
theorem pyS_loc {S : Sto} {n : Nat} {l : List Int} (h : getQ S n = some (l.map D.int)) : pyS S (.loc n) = some (.list (l.map PyData.int)) := by
  show (getQ S n).bind (fun ds => (pyL ds).map PyData.list) = _
  rw [h]
  show (pyL (l.map D.int)).map PyData.list = _
  rw [pyL_ints]; rfl
/-- a list of ints of the store against [] -/
theorem dNe_loc_nil {S : Sto} {n : Nat} {l : List Int} (h : getQ S n = some (l.map D.int)) : dEq true (.loc n) (.fl []) S = .ok (.bl (!l.isEmpty)) S := by
  show dEqP true (.loc n) (.fl []) S = _
  rw [dEqP_py (pyS_loc h) (q := .list []) rfl (shaped_ints l) shaped_nilL]
  cases l <;> simp [PyData.eqv, PyData.eqvAll]
theorem rangeD_nat (n : Nat) : rangeD 0 n = (List.range n).map fun k => D.int (k : Nat) := by
  unfold rangeD
  congr 1
  funext k
  simp
/-! ### loops -/
theorem forD_nil {g : Sto → Prop} {T : Tg} {B Z : Ev → Sto → SR} {ρ : Ev} {S : Sto} (h : g S) : forD g T B Z [] ρ S = Z ρ S := by
  unfold forD; rw [if_pos h]
theorem forD_cons {g : Sto → Prop} {T : Tg} {B Z : Ev → Sto → SR} {d : D} {ds : List D} {ρ ρ1 ρ2 : Ev} {S S1 S2 : Sto} (h : g S) (hT : T d ρ S = some (ρ1, S1)) (hB : B ρ1 S1 = .nx ρ2 S2) : forD g T B Z (d :: ds) ρ S = forD g T B Z ds ρ2 S2 := by
  rw [forD, if_pos h, hT]; simp only [hB]
theorem whileD_end {c : Ev → Sto → R Bool} {B : Ev → Sto → SR} {n : Nat} {ρ : Ev} {S S1 : Sto} (hc : c ρ S = .ok false S1) : whileD c B (n + 1) ρ S = .nx ρ S1 := by
  rw [whileD, hc]; rfl
theorem whileD_next {c : Ev → Sto → R Bool} {B : Ev → Sto → SR} {n : Nat} {ρ ρ2 : Ev} {S S1 S2 : Sto} (hc : c ρ S = .ok true S1) (hB : B ρ S1 = .nx ρ2 S2) : whileD c B (n + 1) ρ S = whileD c B n ρ2 S2 := by
  rw [whileD, hc]; simp only [R.toS_ok, if_true, hB]
theorem whileD_ret {c : Ev → Sto → R Bool} {B : Ev → Sto → SR} {n : Nat} {ρ : Ev} {S S1 S2 : Sto} {d : D} (hc : c ρ S = .ok true S1) (hB : B ρ S1 = .rt d S2) : whileD c B (n + 1) ρ S = .rt d S2 := by
  rw [whileD, hc]; simp only [R.toS_ok, if_true, hB]
/-- a loop that goes through: P before each turn -/
theorem forD_all {T : Tg} {B Z : Ev → Sto → SR} (P : Nat → Ev → Sto → Prop) : ∀ (ds : List D) (i : Nat) (ρ : Ev) (S : Sto), P i ρ S →
    (∀ (j : Nat) (d : D) (ρ : Ev) (S : Sto), ds[j]? = some d → P (i + j) ρ S → ∃ ρ1 S1 ρ2 S2, T d ρ S = some (ρ1, S1) ∧ (B ρ1 S1 = .nx ρ2 S2 ∨ B ρ1 S1 = .ct ρ2 S2) ∧ P (i + j + 1) ρ2 S2) →
    ∃ ρ' S', P (i + ds.length) ρ' S' ∧ forD yes T B Z ds ρ S = Z ρ' S'
  | [], i, ρ, S, h, _ => ⟨ρ, S, h, forD_nil trivial⟩
  | d :: ds, i, ρ, S, h, step => by
    obtain ⟨ρ1, S1, ρ2, S2, hT, hB, h2⟩ := step 0 d ρ S rfl h
    obtain ⟨ρ', S', h3, e⟩ := forD_all P ds (i + 1) ρ2 S2 h2 fun j d' ρ S hj hp => by
      have e1 : i + (j + 1) = i + 1 + j := by omega
      have := step (j + 1) d' ρ S (by simpa using hj) (by rw [e1]; exact hp)
      rw [e1] at this
      exact this
    refine ⟨ρ', S', ?_, ?_⟩
    · have : i + (d :: ds).length = i + 1 + ds.length := by simp; omega
      rw [this]; exact h3
    · rw [forD, if_pos (show yes S from trivial), hT]
      rcases hB with hB | hB <;> (simp only [hB]; exact e)

/-! ### repr -/
mutual
def rok : D → Bool
  | .non => true
  | .bl _ => true
  | .int i => decide (i.natAbs.log2 < 1920)
  | .str x => x.cps.toList.all fun c => decide (c < 16 ^ 8)
  | .tup ds => rokL ds
  | .fl ds => rokL ds
  | .fd kvs => rokK kvs
  | .kl _ => false
  | .ty _ => false
  | .fn _ => false
  | .exc _ _ => false
  | .loc _ => false
def rokL : List D → Bool
  | [] => true
  | d :: ds => rok d && rokL ds
def rokK : List (Key × D) → Bool
  | [] => true
  | (k, d) :: ds => (match k with
    | .inl i => decide (i.natAbs.log2 < 1920)
    | .inr x => x.cps.toList.all fun c => decide (c < 16 ^ 8)) && rok d && rokK ds
end
mutual
def bulkD : D → Nat
  | .str x => x.cps.size
  | .tup ds => bulkL ds
  | .fl ds => bulkL ds
  | .fd kvs => bulkK kvs
  | .non => 0
  | .bl _ => 0
  | .int _ => 0
  | .kl _ => 0
  | .ty _ => 0
  | .fn _ => 0
  | .exc _ _ => 0
  | .loc _ => 0
def bulkL : List D → Nat
  | [] => 0
  | d :: ds => bulkD d + 1 + bulkL ds
def bulkK : List (Key × D) → Nat
  | [] => 0
  | (k, d) :: ds => (match k with
    | .inl _ => 0
    | .inr x => x.cps.size) + bulkD d + 2 + bulkK ds
end
mutual
def depD : D → Nat
  | .tup ds => depL ds + 1
  | .fl ds => depL ds + 1
  | .fd kvs => depK kvs + 1
  | .str _ => 0
  | .non => 0
  | .bl _ => 0
  | .int _ => 0
  | .kl _ => 0
  | .ty _ => 0
  | .fn _ => 0
  | .exc _ _ => 0
  | .loc _ => 0
def depL : List D → Nat
  | [] => 0
  | d :: ds => max (depD d) (depL ds)
def depK : List (Key × D) → Nat
  | [] => 0
  | (_, d) :: ds => max (depD d) (depK ds)
end

theorem shown_int_small {i : Int} (h : i.natAbs.log2 < 1920) : (PyData.shown (.int i)).length ≤ 1921 := by
  have e := int_text_length_le (k := 1920) (by decide) h
  show (Str.ofString (toString i)).length ≤ 1921
  rw [PySem.ofString_length]; exact e
/-- data that repr can show -/
structure PyOk (d : D) (p : PyData) : Prop where
  eq : py d = some p
  sh : p.showable = true
  lv : p.leavesShort 1921 = true
  bk : p.bulk = bulkD d
  dp : p.depth = depD d
mutual
theorem rok_py : ∀ d : D, rok d = true → ∃ p, PyOk d p
  | .non, _ => ⟨.none, rfl, rfl, rfl, rfl, rfl⟩
  | .bl b, _ => ⟨.bool b, rfl, rfl, rfl, rfl, rfl⟩
  | .int i, h => by
    have h : i.natAbs.log2 < 1920 := by simpa [rok] using h
    exact ⟨.int i, rfl, by simpa [PyData.showable] using h, by simpa [PyData.leavesShort] using shown_int_small h, rfl, rfl⟩
  | .str x, h => ⟨.str x, rfl, rfl, by simpa [rok, PyData.leavesShort] using h, rfl, rfl⟩
  | .tup ds, h => by
    obtain ⟨ps, e, a, b, c, f⟩ := rokL_py ds (by simpa [rok] using h)
    exact ⟨.tuple ps, by rw [py, e]; rfl, by simpa [PyData.showable] using a, by simpa [PyData.leavesShort] using b, by simp [PyData.bulk, bulkD, c], by simp [PyData.depth, depD, f]⟩
  | .fl ds, h => by
    obtain ⟨ps, e, a, b, c, f⟩ := rokL_py ds (by simpa [rok] using h)
    exact ⟨.list ps, by rw [py, e]; rfl, by simpa [PyData.showable] using a, by simpa [PyData.leavesShort] using b, by simp [PyData.bulk, bulkD, c], by simp [PyData.depth, depD, f]⟩
  | .fd ds, h => by
    obtain ⟨ps, e, a, b, c, f⟩ := rokK_py ds (by simpa [rok] using h)
    exact ⟨.dict ps, by rw [py, e]; rfl, by simpa [PyData.showable] using a, by simpa [PyData.leavesShort] using b, by simp [PyData.bulk, bulkD, c], by simp [PyData.depth, depD, f]⟩
  | .kl _, h => by simp [rok] at h
  | .ty _, h => by simp [rok] at h
  | .fn _, h => by simp [rok] at h
  | .exc _ _, h => by simp [rok] at h
  | .loc _, h => by simp [rok] at h
theorem rokL_py : ∀ ds : List D, rokL ds = true → ∃ ps, pyL ds = some ps ∧ PyData.showableAll ps = true ∧ PyData.leavesShortAll 1921 ps = true ∧ PyData.bulkAll ps = bulkL ds ∧ PyData.depthAll ps = depL ds
  | [], _ => ⟨[], rfl, rfl, rfl, rfl, rfl⟩
  | d :: ds, h => by
    rw [rokL, Bool.and_eq_true] at h
    obtain ⟨p, e, a, b, c, f⟩ := rok_py d h.1
    obtain ⟨ps, e', a', b', c', f'⟩ := rokL_py ds h.2
    exact ⟨p :: ps, by rw [pyL, e, e']; rfl, by simp [PyData.showableAll, a, a'], by simp [PyData.leavesShortAll, b, b'], by simp [PyData.bulkAll, bulkL, c, c'], by simp [PyData.depthAll, depL, f, f']⟩
theorem rokK_py : ∀ ds : List (Key × D), rokK ds = true → ∃ ps, pyK ds = some ps ∧ PyData.showableKv ps = true ∧ PyData.leavesShortKv 1921 ps = true ∧ PyData.bulkKv ps = bulkK ds ∧ PyData.depthKv ps = depK ds
  | [], _ => ⟨[], rfl, rfl, rfl, rfl, rfl⟩
  | (.inl i, d) :: ds, h => by
    simp only [rokK, Bool.and_eq_true, decide_eq_true_eq] at h
    obtain ⟨p, e, a, b, c, f⟩ := rok_py d h.1.2
    obtain ⟨ps, e', a', b', c', f'⟩ := rokK_py ds h.2
    have hi := h.1.1
    have hs := shown_int_small hi
    exact ⟨(.int i, p) :: ps, by rw [pyK, e, e']; rfl, by simp [PyData.showableKv, PyData.showable, hi, a, a'], by simp [PyData.leavesShortKv, PyData.leavesShort, hs, b, b'], by simp [PyData.bulkKv, PyData.bulk, bulkK, c, c'], by simp [PyData.depthKv, PyData.depth, depK, f, f']⟩
  | (.inr x, d) :: ds, h => by
    simp only [rokK, Bool.and_eq_true] at h
    obtain ⟨p, e, a, b, c, f⟩ := rok_py d h.1.2
    obtain ⟨ps, e', a', b', c', f'⟩ := rokK_py ds h.2
    have hx := h.1.1
    exact ⟨(.str x, p) :: ps, by rw [pyK, e, e']; rfl, by simp [PyData.showableKv, PyData.showable, a, a'], by simp only [PyData.leavesShortKv, PyData.leavesShort, hx, b, b', Bool.and_self], by simp [PyData.bulkKv, PyData.bulk, bulkK, c, c'], by simp [PyData.depthKv, PyData.depth, depK, f, f']⟩
end
def shD (d : D) : Str := match py d with
  | some p => p.shown
  | none => Str.empty
/-- repr of plain data -/
theorem repr_d {d : D} (h : rok d = true) (hb : bulkD d ≤ 8000) (hd : depD d ≤ 60) (S : Sto) : bRepr [d] S = .ok (.str (shD d)) S := by
  obtain ⟨p, o⟩ := rok_py d h
  have e : pyS S d = some p := by
    cases d with
    | loc n => simp [rok] at h
    | _ => exact o.eq
  have hs : showOk p := by
    refine ⟨o.sh, ?_, by rw [o.dp]; exact hd⟩
    have h1 := PyData.shown_le_bulk 1921 (by decide) p o.lv
    rw [o.bk] at h1
    have h2 : (1921 + 2) * bulkD d ≤ 1923 * 8000 := Nat.mul_le_mul_left _ hb
    rw [sizeLine_eq]
    omega
  have e2 : shD d = p.shown := by unfold shD; rw [o.eq]
  unfold bRepr
  simp only [e]
  rw [if_pos hs, e2]
theorem rok_int {i : Int} (b : Nat) (h : i.natAbs < 2 ^ b) (h0 : 0 < b) (h9 : b ≤ 1920) : rok (.int i) = true := by
  simp only [rok, decide_eq_true_eq]
  exact Nat.lt_of_lt_of_le (PySem.Flt.log2_lt_of h0 h) h9
end DL

/-! The laws' stream of numbers: what every law begins with. -/
namespace DL
open PySem PySem.Spec L2
open PyProof.Rows hiding St
noncomputable def E1__law_stream (ρ : Ev) (S : Sto) : R D :=
  (eCall bAbs (aCons (eVar 2) aNil)) ρ S
noncomputable def E2__law_stream (ρ : Ev) (S : Sto) : R D :=
  (eVar 2) ρ S
noncomputable def Q1__law_stream (ρ : Ev) (S : Sto) : R Bool :=
  (eT (eOp dGe (eVar 2) (eOp dPow (eC (.int 10)) (eC (.int 18))))) ρ S
noncomputable def B__law_stream : Ev → Sto → SR :=
  (sSeq (sSet 1 (eLc finFl (iSeq (eVar 0)) (tN 2) [2] cYes E1__law_stream))
    (sRet (eLoc (aCons (eLc finLoc (iSeq (eVar 1)) (tN 2) [2] Q1__law_stream E2__law_stream) (aCons (eOp dAdd (eVar 1) (eFl (aCons (eOp dAdd (eCall bLen (aCons (eVar 1) aNil)) (eC (.int 17))) aNil))) (aCons (eC (.int 0)) aNil))))))
noncomputable def F__law_stream : Fn := fnC closeK 3 1 B__law_stream

noncomputable def C1__law_draw (ρ : Ev) (S : Sto) : R Bool :=
  (eT (eOp (dEq true) (eOp dIx (eVar 0) (eC (.int 0))) (eFl aNil))) ρ S
noncomputable def L1__law_draw (ρ : Ev) (S : Sto) : SR :=
  (sSeq (sSet 2 (eOp dIx (eOp dIx (eVar 0) (eC (.int 0))) (eC (.int 0))))
    (sSeq (sIf (eT (eOp dGt (eVar 2) (eC (.int 0)))) (sSeq (sAsg (eOp dFdiv (eVar 2) (eVar 1)) (tSub (eOp dIx (eVar 0) (eC (.int 0))) (eC (.int 0))))
    (sRet (eOp dMod (eVar 2) (eVar 1)))) sNil)
    (sExp (eMt isLst mPopAt (eOp dIx (eVar 0) (eC (.int 0))) (aCons (eC (.int 0)) aNil))))) ρ S
noncomputable def B__law_draw : Ev → Sto → SR :=
  (sSeq (whileD C1__law_draw L1__law_draw 4000)
    (sSeq (sSet 3 (eOp dAdd (eOp dIx (eVar 0) (eC (.int 2))) (eC (.int 1))))
    (sSeq (sAsg (eVar 3) (tSub (eVar 0) (eC (.int 2))))
    (sSeq (sSet 4 (eOp dMod (eOp dIx (eOp dIx (eVar 0) (eC (.int 1))) (eOp dMod (eVar 3) (eCall bLen (aCons (eOp dIx (eVar 0) (eC (.int 1))) aNil)))) (eC (.int 2147483587))))
    (sSeq (sSet 5 (eOp dMod (eOp dAdd (eOp dAdd (eOp dMul (eVar 4) (eOp dAdd (eC (.int 16807)) (eOp dMul (eC (.int 48271)) (eVar 3)))) (eOp dMul (eOp dMul (eC (.int 69621)) (eVar 3)) (eVar 3))) (eC (.int 5))) (eC (.int 2147483647))))
    (sRet (eOp dMod (eOp dFdiv (eOp dMod (eOp dMul (eVar 5) (eVar 5)) (eC (.int 2147483629))) (eC (.int 16))) (eVar 1))))))))
noncomputable def F__law_draw : Fn := fnC close 6 2 B__law_draw

noncomputable def B__law_pick : Ev → Sto → SR :=
  (sRet (eOp dIx (eVar 1) (eCall F__law_draw (aCons (eVar 0) (aCons (eCall bLen (aCons (eVar 1) aNil)) aNil)))))
noncomputable def F__law_pick : Fn := fnC close 2 2 B__law_pick

def strO (big cells : List Int) (t : Int) (rest : Sto) : Sto := .lst (big.map .int) :: .lst [.loc 0, .fl (cells.map .int), .int t] :: rest
structure StrOk (big cells : List Int) (t : Int) (n : Nat) : Prop where
  bigs : ∀ c ∈ big, 0 ≤ c
  cls : ∀ c ∈ cells, 0 ≤ c
  ne : cells ≠ []
  few : big.length ≤ 63
  t0 : 0 ≤ t
  tn : t ≤ n
/-- the stream stands in S, at most n mixed draws were made -/
def Strm (S : Sto) (n : Nat) (rest : Sto) : Prop := ∃ big cells t, S = strO big cells t rest ∧ StrOk big cells t n
theorem Strm.mono {S : Sto} {n m : Nat} {rest : Sto} (h : Strm S n rest) (hm : n ≤ m) : Strm S m rest := by
  obtain ⟨b, c, t, e, o⟩ := h
  exact ⟨b, c, t, e, o.bigs, o.cls, o.ne, o.few, o.t0, by have := o.tn; omega⟩
theorem getQ_cons0 (o : Ob) (S : Sto) : getQ (o :: S) 0 = getQ [o] 0 := rfl
theorem getQ_lst0 (ds : List D) (S : Sto) : getQ (.lst ds :: S) 0 = some ds := rfl
theorem getQ_lst1 (o : Ob) (ds : List D) (S : Sto) : getQ (o :: .lst ds :: S) 1 = some ds := rfl
theorem getL_lst0 (ds : List D) (S : Sto) : getL (.lst ds :: S) 0 = some ds := rfl
theorem getL_lst1 (o : Ob) (ds : List D) (S : Sto) : getL (o :: .lst ds :: S) 1 = some ds := rfl
theorem dIx_loc {S : Sto} {n : Nat} {xs : List D} {i : Int} {d : D} (h : getQ S n = some xs) (e : atI xs i = some d) : dIx (.loc n) (.int i) S = .ok d S := by
  show (match seqOf S (.loc n) with
    | some xs => (match atI xs i with
      | some d => R.ok d S
      | none => .stuck)
    | none => .stuck) = _
  rw [show seqOf S (.loc n) = some xs from h]
  show (match atI xs i with
      | some d => R.ok d S
      | none => .stuck) = _
  rw [e]
theorem dIx_fl {S : Sto} {xs : List D} {i : Int} {d : D} (e : atI xs i = some d) : dIx (.fl xs) (.int i) S = .ok d S := by
  show (match atI xs i with
      | some d => R.ok d S
      | none => .stuck) = _
  rw [e]
theorem dIx_tup {S : Sto} {xs : List D} {i : Int} {d : D} (e : atI xs i = some d) : dIx (.tup xs) (.int i) S = .ok d S := by
  show (match atI xs i with
      | some d => R.ok d S
      | none => .stuck) = _
  rw [e]
theorem atI_nn {α : Type} {xs : List α} {i : Int} (h0 : 0 ≤ i) (h1 : i < xs.length) : atI xs i = xs[i.toNat]? := by
  unfold atI ixN
  rw [if_pos h0, if_pos h1]; rfl
theorem atI_map {xs : List Int} {i : Int} (h0 : 0 ≤ i) (h1 : i < xs.length) : ∃ z, z ∈ xs ∧ atI (xs.map D.int) i = some (.int z) := by
  have hi : i.toNat < xs.length := by omega
  refine ⟨xs[i.toNat], List.getElem_mem hi, ?_⟩
  rw [atI_nn h0 (by simpa using h1), List.getElem?_map, List.getElem?_eq_getElem hi]; rfl
theorem str_ix0 (big cells : List Int) (t : Int) (rest : Sto) : dIx (.loc 1) (.int 0) (strO big cells t rest) = .ok (.loc 0) (strO big cells t rest) := dIx_loc (getQ_lst1 _ _ _) rfl
theorem str_ix1 (big cells : List Int) (t : Int) (rest : Sto) : dIx (.loc 1) (.int 1) (strO big cells t rest) = .ok (.fl (cells.map .int)) (strO big cells t rest) := dIx_loc (getQ_lst1 _ _ _) rfl
theorem str_ix2 (big cells : List Int) (t : Int) (rest : Sto) : dIx (.loc 1) (.int 2) (strO big cells t rest) = .ok (.int t) (strO big cells t rest) := dIx_loc (getQ_lst1 _ _ _) rfl
theorem str_ne (big cells : List Int) (t : Int) (rest : Sto) : dEq true (.loc 0) (.fl []) (strO big cells t rest) = .ok (.bl (!big.isEmpty)) (strO big cells t rest) := dNe_loc_nil (getQ_lst0 _ _)
theorem str_get (b : Int) (big cells : List Int) (t : Int) (rest : Sto) : dIx (.loc 0) (.int 0) (strO (b :: big) cells t rest) = .ok (.int b) (strO (b :: big) cells t rest) := dIx_loc (getQ_lst0 _ _) (by simp [atI, ixN])
theorem str_set (b c : Int) (big cells : List Int) (t : Int) (rest : Sto) : dSet (.loc 0) (.int 0) (.int c) (strO (b :: big) cells t rest) = some (strO (c :: big) cells t rest) := by
  simp [dSet, strO, getL_lst0, ixN]
theorem str_pop (b : Int) (big cells : List Int) (t : Int) (rest : Sto) : mPopAt (.loc 0) [.int 0] (strO (b :: big) cells t rest) = .ok (.int b) (strO big cells t rest) := by
  have : seqIndex? 0 (big.length + 1) = some 0 := by simp [seqIndex?]
  have h2 : (-(2 ^ 63) : Int) ≤ 0 ∧ (0 : Int) < 2 ^ 63 := by decide
  simp [mPopAt, strO, getL_lst0, this, ifp_t]
theorem str_lst (big cells : List Int) (t : Int) (rest : Sto) : isLst (strO big cells t rest) (.loc 0) = true := rfl
theorem str_turn (big cells : List Int) (t u : Int) (rest : Sto) : dSet (.loc 1) (.int 2) (.int u) (strO big cells t rest) = some (strO big cells u rest) := by
  simp [dSet, strO, getL_lst1, ixN]
theorem close_same {S S' : Sto} {d : D} (h : S'.length = S.length) : close S d S' = .ok d S' := by
  unfold close; rw [if_pos h]
theorem str_len (big cells : List Int) (t : Int) (rest : Sto) : (strO big cells t rest).length = rest.length + 2 := rfl

theorem draw_loop {m : Int} (hm : 0 < m) (hm2 : m.natAbs.log2 < 9000) (cells : List Int) (t : Int) (rest : Sto) (x3 x4 x5 : Option D) : ∀ (big : List Int) (k : Nat) (x2 : Option D), (∀ c ∈ big, 0 ≤ c) → big.length < k →
    (∃ r big', whileD C1__law_draw L1__law_draw k [some (.loc 1), some (.int m), x2, x3, x4, x5] (strO big cells t rest) = .rt (.int r) (strO big' cells t rest) ∧ 0 ≤ r ∧ r < m ∧ (∀ c ∈ big', 0 ≤ c) ∧ big'.length ≤ big.length) ∨
    (∃ x2', whileD C1__law_draw L1__law_draw k [some (.loc 1), some (.int m), x2, x3, x4, x5] (strO big cells t rest) = .nx [some (.loc 1), some (.int m), x2', x3, x4, x5] (strO [] cells t rest)) := by
  intro big
  induction big with
  | nil =>
    intro k x2 _ hk
    obtain ⟨k, rfl⟩ : ∃ j, k = j + 1 := ⟨k - 1, by omega⟩
    refine .inr ⟨x2, ?_⟩
    rw [whileD]
    simp only [eVar, eC, eOp, eT, eAnd, eOr, eNot, eIf, eAndV, eOrV, eNotV, eCall, aNil, aCons, aStar, sOf, eTup, eFl, eLoc, eSl, oNone, oSome, iOf, eNeg, eChain, eMt, bOf, List.lookup, R.bind_ok, R.bind_er, R.bind_stuck, R.toS_ok, R.toS_er, R.toS_stuck, SR.next_nx, SR.next_rt, SR.next_er, SR.next_bk, SR.next_ct, SR.next_stuck, sNil, sSeq, sBrk, sCnt, sExp, sRet, sRetN, sIf, sSet, sAsg, sAug, sPar2, sPar3, tN, DL.tTup, DL.tNil, DL.tCons, DL.tSub, iSeq, srcOf, iRange1, iRange2, sFor, startD, List.map_cons, List.map_nil, List.length_cons, List.length_nil, List.replicate, List.cons_append, List.nil_append, List.getElem?_cons_zero, List.getElem?_cons_succ, List.set_cons_zero, List.set_cons_succ, dSub_int, dFdiv_int, dMod_int, dLt_int, dLe_int, dGt_int, dGe_int, dAddI_int, dSubI_int, dIsN_non, isN, dAdd_int, ll0, ll1, ll2, ll3, ll4, ll5, ll6, ll7, ll8, ll9, ll10, ll11, ll12, ll13, ll14, ll15, ll16, ll17, ll18, ll19, ll20, ll21, ll22, ll23, ll24, ll25, ll26, ll27, ll28, ll29, ll30, ll31, ll32, ll33, ll34, ll35, ll36, ll37, ll38, ll39, ll40, Nat.reduceSub, Nat.reduceAdd, Nat.reduceEqDiff, if_true, if_false, ifp_t, ifp_f, reduceIte, Bool.true_eq_false, Bool.false_eq_true, Option.map_some, Option.map_none, Option.bind_some, Option.bind_none, C1__law_draw, L1__law_draw, str_ix0, str_ne, List.isEmpty_nil, Bool.not_true, Nat.zero_le]
  | cons b big ih =>
    intro k x2 hb hk
    obtain ⟨k, rfl⟩ : ∃ j, k = j + 1 := ⟨k - 1, by omega⟩
    have hb0 : 0 ≤ b := hb b List.mem_cons_self
    have hk' : big.length < k := by simp at hk; omega
    by_cases hpos : 0 < b
    · refine .inl ⟨b % m, (b / m) :: big, ?_, Int.emod_nonneg _ (by omega), Int.emod_lt_of_pos _ hm, fun c hc => ?_, by simp⟩
      · rw [whileD]
        simp only [eVar, eC, eOp, eT, eAnd, eOr, eNot, eIf, eAndV, eOrV, eNotV, eCall, aNil, aCons, aStar, sOf, eTup, eFl, eLoc, eSl, oNone, oSome, iOf, eNeg, eChain, eMt, bOf, List.lookup, R.bind_ok, R.bind_er, R.bind_stuck, R.toS_ok, R.toS_er, R.toS_stuck, SR.next_nx, SR.next_rt, SR.next_er, SR.next_bk, SR.next_ct, SR.next_stuck, sNil, sSeq, sBrk, sCnt, sExp, sRet, sRetN, sIf, sSet, sAsg, sAug, sPar2, sPar3, tN, DL.tTup, DL.tNil, DL.tCons, DL.tSub, iSeq, srcOf, iRange1, iRange2, sFor, startD, List.map_cons, List.map_nil, List.length_cons, List.length_nil, List.replicate, List.cons_append, List.nil_append, List.getElem?_cons_zero, List.getElem?_cons_succ, List.set_cons_zero, List.set_cons_succ, dSub_int, dFdiv_int, dMod_int, dLt_int, dLe_int, dGt_int, dGe_int, dAddI_int, dSubI_int, dIsN_non, isN, dAdd_int, ll0, ll1, ll2, ll3, ll4, ll5, ll6, ll7, ll8, ll9, ll10, ll11, ll12, ll13, ll14, ll15, ll16, ll17, ll18, ll19, ll20, ll21, ll22, ll23, ll24, ll25, ll26, ll27, ll28, ll29, ll30, ll31, ll32, ll33, ll34, ll35, ll36, ll37, ll38, ll39, ll40, Nat.reduceSub, Nat.reduceAdd, Nat.reduceEqDiff, if_true, if_false, ifp_t, ifp_f, reduceIte, Bool.true_eq_false, Bool.false_eq_true, Option.map_some, Option.map_none, Option.bind_some, Option.bind_none, C1__law_draw, L1__law_draw, str_ix0, str_ne, str_get, str_set, List.isEmpty_cons, Bool.not_false, hpos, decide_true, hm, hm2, and_self, Nat.zero_le]
      · rcases List.mem_cons.mp hc with rfl | hc
        · exact Int.ediv_nonneg hb0 (by omega)
        · exact hb c (List.mem_cons_of_mem _ hc)
    · have e : b = 0 := by omega
      subst e
      rw [whileD]
      simp only [eVar, eC, eOp, eT, eAnd, eOr, eNot, eIf, eAndV, eOrV, eNotV, eCall, aNil, aCons, aStar, sOf, eTup, eFl, eLoc, eSl, oNone, oSome, iOf, eNeg, eChain, eMt, bOf, List.lookup, R.bind_ok, R.bind_er, R.bind_stuck, R.toS_ok, R.toS_er, R.toS_stuck, SR.next_nx, SR.next_rt, SR.next_er, SR.next_bk, SR.next_ct, SR.next_stuck, sNil, sSeq, sBrk, sCnt, sExp, sRet, sRetN, sIf, sSet, sAsg, sAug, sPar2, sPar3, tN, DL.tTup, DL.tNil, DL.tCons, DL.tSub, iSeq, srcOf, iRange1, iRange2, sFor, startD, List.map_cons, List.map_nil, List.length_cons, List.length_nil, List.replicate, List.cons_append, List.nil_append, List.getElem?_cons_zero, List.getElem?_cons_succ, List.set_cons_zero, List.set_cons_succ, dSub_int, dFdiv_int, dMod_int, dLt_int, dLe_int, dGt_int, dGe_int, dAddI_int, dSubI_int, dIsN_non, isN, dAdd_int, ll0, ll1, ll2, ll3, ll4, ll5, ll6, ll7, ll8, ll9, ll10, ll11, ll12, ll13, ll14, ll15, ll16, ll17, ll18, ll19, ll20, ll21, ll22, ll23, ll24, ll25, ll26, ll27, ll28, ll29, ll30, ll31, ll32, ll33, ll34, ll35, ll36, ll37, ll38, ll39, ll40, Nat.reduceSub, Nat.reduceAdd, Nat.reduceEqDiff, if_true, if_false, ifp_t, ifp_f, reduceIte, Bool.true_eq_false, Bool.false_eq_true, Option.map_some, Option.map_none, Option.bind_some, Option.bind_none, C1__law_draw, L1__law_draw, str_ix0, str_ne, str_get, str_pop, str_lst, List.isEmpty_cons, Bool.not_false, Int.lt_irrefl, decide_false, Nat.zero_le]
      have := ih k (some (.int 0)) (fun c hc => hb c (List.mem_cons_of_mem _ hc)) hk'
      rcases this with ⟨r, big', h1, h2, h3, h4, h5⟩ | h
      · exact .inl ⟨r, big', h1, h2, h3, h4, Nat.le_succ_of_le h5⟩
      · exact .inr h

theorem mul_small {i j : Int} (h : -(2 ^ 64) < i ∧ i < 2 ^ 64) (S : Sto) : dMul (.int i) (.int j) S = .ok (.int (i * j)) S := by
  exact ifp_pos (.inl (.inl h))
theorem mul_smallR {i j : Int} (h : -(2 ^ 64) < j ∧ j < 2 ^ 64) (S : Sto) : dMul (.int i) (.int j) S = .ok (.int (i * j)) S := by
  exact ifp_pos (.inl (.inr h))
theorem dMul_fl {xs : List D} {k : Int} (h0 : 0 ≤ k) (h1 : k < 2 ^ 63) (h : xs.length * k.toNat ≤ sizeLine) (S : Sto) : dMul (.fl xs) (.int k) S = .ok (.fl (List.replicate k.toNat xs).flatten) S := by
  unfold dMul
  simp only [lstOf]
  rw [ifp_pos ⟨by omega, h1, h⟩]
theorem log2_small {x : Nat} (b : Nat) (h : x < 2 ^ b) (h0 : 0 < b) (h9 : b ≤ 9000) : x.log2 < 9000 := Nat.lt_of_lt_of_le (PySem.Flt.log2_lt_of h0 h) h9
theorem bLen_fl (xs : List D) (S : Sto) : bLen [.fl xs] S = .ok (.int xs.length) S := rfl
theorem bLen_tup (xs : List D) (S : Sto) : bLen [.tup xs] S = .ok (.int xs.length) S := rfl
theorem fnC_rt {n m : Nat} {B : Ev → Sto → SR} {ds : List D} {S S' : Sto} {d : D} (hm : ds.length = m) (h : B (startD n ds) S = .rt d S') (hc : S'.length = S.length) : fnC close n m B ds S = .ok d S' := by
  unfold fnC
  rw [if_pos hm, h]
  exact close_same hc
/-- a draw: some number below m, and the stream goes on -/
theorem draw_ok {S : Sto} {n : Nat} {rest : Sto} (h : Strm S n rest) {m : Int} (hm : 0 < m) (hm2 : m.natAbs.log2 < 9000) (hn : n < 2 ^ 60) :
    ∃ r S', F__law_draw [.loc 1, .int m] S = .ok (.int r) S' ∧ 0 ≤ r ∧ r < m ∧ Strm S' (n + 1) rest := by
  obtain ⟨big, cells, t, rfl, o⟩ := h
  have hst : startD 6 [D.loc 1, D.int m] = [some (.loc 1), some (.int m), none, none, none, none] := rfl
  rcases draw_loop hm hm2 cells t rest none none none big 4000 none o.bigs (by have := o.few; omega) with ⟨r, big', h1, h2, h3, h4, h5⟩ | ⟨x2, h1⟩
  · refine ⟨r, strO big' cells t rest, ?_, h2, h3, big', cells, t, rfl, h4, o.cls, o.ne, Nat.le_trans h5 o.few, o.t0, by have := o.tn; omega⟩
    refine fnC_rt rfl ?_ rfl
    rw [hst]
    unfold B__law_draw
    rw [sSeq, h1]; rfl
  · have t0 := o.t0
    have tn := o.tn
    have hcl : 0 < (cells.length : Int) := by
      have := List.length_pos_iff.mpr o.ne
      omega
    have hix0 : 0 ≤ (t + 1) % (cells.length : Int) := Int.emod_nonneg _ (by omega)
    have hix1 : (t + 1) % (cells.length : Int) < cells.length := Int.emod_lt_of_pos _ hcl
    obtain ⟨z, hz, hat⟩ := atI_map hix0 hix1
    have hz0 := o.cls z hz
    have c0 : 0 ≤ z % 2147483587 := Int.emod_nonneg _ (by decide)
    have c1 : z % 2147483587 < 2147483587 := Int.emod_lt_of_pos _ (by decide)
    have hx : ∀ S, dIx (.fl (cells.map D.int)) (.int ((t + 1) % (cells.length : Int))) S = .ok (.int z) S := fun S => dIx_fl hat
    have m1 : ∀ S, dMul (.int 48271) (.int (t + 1)) S = .ok (.int (48271 * (t + 1))) S := fun S => mul_small (by decide) S
    have m2 : ∀ S, dMul (.int (z % 2147483587)) (.int (16807 + 48271 * (t + 1))) S = .ok (.int (z % 2147483587 * (16807 + 48271 * (t + 1)))) S := fun S => mul_small (by omega) S
    have m3 : ∀ S, dMul (.int 69621) (.int (t + 1)) S = .ok (.int (69621 * (t + 1))) S := fun S => mul_small (by decide) S
    have m4 : ∀ S, dMul (.int (69621 * (t + 1))) (.int (t + 1)) S = .ok (.int (69621 * (t + 1) * (t + 1))) S := fun S => mul_smallR (by omega) S
    have l16 : (16 : Int).natAbs.log2 < 9000 := by decide
    have m5 : ∀ (x : Int) S, dMul (.int (x % 2147483647)) (.int (x % 2147483647)) S = .ok (.int (x % 2147483647 * (x % 2147483647))) S := fun x S => by
      have a0 : 0 ≤ x % 2147483647 := Int.emod_nonneg _ (by decide)
      have a1 : x % 2147483647 < 2147483647 := Int.emod_lt_of_pos _ (by decide)
      exact mul_small (by omega) S
    have key : ∃ y : Int, B__law_draw [some (.loc 1), some (.int m), none, none, none, none] (strO big cells t rest) = .rt (.int (y % m)) (strO [] cells (t + 1) rest) := by
      unfold B__law_draw
      rw [sSeq, h1]
      simp only [eVar, eC, eOp, eT, eAnd, eOr, eNot, eIf, eAndV, eOrV, eNotV, eCall, aNil, aCons, aStar, sOf, eTup, eFl, eLoc, eSl, oNone, oSome, iOf, eNeg, eChain, eMt, bOf, List.lookup, R.bind_ok, R.bind_er, R.bind_stuck, R.toS_ok, R.toS_er, R.toS_stuck, SR.next_nx, SR.next_rt, SR.next_er, SR.next_bk, SR.next_ct, SR.next_stuck, sNil, sSeq, sBrk, sCnt, sExp, sRet, sRetN, sIf, sSet, sAsg, sAug, sPar2, sPar3, tN, DL.tTup, DL.tNil, DL.tCons, DL.tSub, iSeq, srcOf, iRange1, iRange2, sFor, startD, List.map_cons, List.map_nil, List.length_cons, List.length_nil, List.replicate, List.cons_append, List.nil_append, List.getElem?_cons_zero, List.getElem?_cons_succ, List.set_cons_zero, List.set_cons_succ, dSub_int, dFdiv_int, dMod_int, dLt_int, dLe_int, dGt_int, dGe_int, dAddI_int, dSubI_int, dIsN_non, isN, dAdd_int, ll0, ll1, ll2, ll3, ll4, ll5, ll6, ll7, ll8, ll9, ll10, ll11, ll12, ll13, ll14, ll15, ll16, ll17, ll18, ll19, ll20, ll21, ll22, ll23, ll24, ll25, ll26, ll27, ll28, ll29, ll30, ll31, ll32, ll33, ll34, ll35, ll36, ll37, ll38, ll39, ll40, Nat.reduceSub, Nat.reduceAdd, Nat.reduceEqDiff, if_true, if_false, ifp_t, ifp_f, reduceIte, Bool.true_eq_false, Bool.false_eq_true, Option.map_some, Option.map_none, Option.bind_some, Option.bind_none, str_ix0, str_ix1, str_ix2, str_turn, dAdd_int, bLen_fl, List.length_map, hcl, hx, m1, m2, m3, m4, m5, l16, hm, Int.reduceLT, and_self]
      exact ⟨_, rfl⟩
    obtain ⟨y, hy⟩ := key
    exact ⟨y % m, _, fnC_rt rfl hy rfl, Int.emod_nonneg _ (by omega), Int.emod_lt_of_pos _ hm, [], cells, t + 1, rfl, by simp, o.cls, o.ne, by simp, by omega, by omega⟩
end DL

/-! Comprehensions and the stream. -/
namespace DL
open PySem PySem.Spec L2
open PyProof.Rows hiding St
theorem Strm.len {S : Sto} {n : Nat} {rest : Sto} (h : Strm S n rest) : S.length = rest.length + 2 := by
  obtain ⟨b, c, t, rfl, o⟩ := h; rfl
theorem lowL_ints (n : Nat) (l : List Int) : lowL n (l.map D.int) = true := by
  induction l with
  | nil => rfl
  | cons i l ih => simp [lowL, low, ih]
theorem lowL_of {n : Nat} : ∀ {l : List D}, (∀ d ∈ l, low n d = true) → lowL n l = true
  | [], _ => rfl
  | d :: l, h => by
    rw [lowL, h d List.mem_cons_self, lowL_of fun x hx => h x (List.mem_cons_of_mem _ hx)]; rfl
theorem getL_end (S : Sto) (ds : List D) : getL (S ++ [.lst ds]) S.length = some ds := getL_of (by simp)
theorem getQ_end (S : Sto) (ds : List D) : getQ (S ++ [.lst ds]) S.length = some ds := getQ_of (by simp)
theorem set_end (S : Sto) (a b : Ob) : (S ++ [a]).set S.length b = S ++ [b] := by
  rw [List.set_append_right _ _ (Nat.le_refl _)]; simp
theorem finFl_eq {S S' : Sto} {l : List D} (h : getL S' S.length = some l) (hc : Trunc S S' ∧ S'.length = S.length + 1 ∧ lowL S.length l = true) : finFl S S' = .ok (.fl l) (S'.take S.length) := by
  unfold finFl
  simp only [h]
  rw [if_pos hc]
theorem finFl_end {S : Sto} {l : List D} (h : lowL S.length l = true) : finFl S (S ++ [.lst l]) = .ok (.fl l) S := by
  rw [finFl_eq (getL_end S l) ⟨Trunc.same _ _, by simp, h⟩]
  simp
/-- a comprehension whose parts change nothing -/
theorem compD_pure {T : Tg} {c : Ev → Sto → R Bool} {f : Ev → Sto → R D} {ρ : Ev} (ρd : D → Ev) (p : D → Bool) (e : D → D) (S : Sto) : ∀ (ds acc : List D),
    (∀ d ∈ ds, ∀ S', T d ρ S' = some (ρd d, S') ∧ c (ρd d) S' = .ok (p d) S' ∧ (p d = true → f (ρd d) S' = .ok (e d) S')) → acc.length + ds.length ≤ sizeLine →
    compD yes T c f S.length ρ ds (S ++ [.lst acc]) = some (S ++ [.lst (acc ++ (ds.filter p).map e)])
  | [], acc, _, _ => by rw [compD, if_pos (show yes _ from trivial)]; simp
  | d :: ds, acc, h, hl => by
    obtain ⟨h1, h2, h3⟩ := h d List.mem_cons_self (S ++ [.lst acc])
    have hl' : acc.length + (ds.length + 1) ≤ sizeLine := hl
    rw [compD, if_pos (show yes _ from trivial), h1]
    simp only [h2]
    cases hp : p d with
    | false =>
      rw [if_neg (by decide)]
      rw [compD_pure ρd p e S ds acc (fun x hx => h x (List.mem_cons_of_mem _ hx)) (by omega)]
      simp [List.filter, hp]
    | true =>
      rw [if_pos rfl]
      simp only [h3 hp, getL_end, set_end]
      rw [ifp_pos (by omega)]
      rw [compD_pure ρd p e S ds (acc ++ [e d]) (fun x hx => h x (List.mem_cons_of_mem _ hx)) (by simp; omega)]
      simp [List.filter, hp]
theorem eLc_pure {src : Ev → Sto → R Src} {T : Tg} {vs : List Nat} {c : Ev → Sto → R Bool} {f : Ev → Sto → R D} {ρ : Ev} {S : Sto} (ds : List D) (ρd : D → Ev) (p : D → Bool) (e : D → D) (hs : src ρ S = .ok (ds, yes) S)
    (h : ∀ d ∈ ds, ∀ S', T d (wipeD ρ vs) S' = some (ρd d, S') ∧ c (ρd d) S' = .ok (p d) S' ∧ (p d = true → f (ρd d) S' = .ok (e d) S')) (hl : ds.length ≤ sizeLine) (hlow : ∀ d ∈ ds, p d = true → low S.length (e d) = true) :
    eLc finFl src T vs c f ρ S = .ok (.fl ((ds.filter p).map e)) S := by
  unfold eLc
  rw [hs]
  show (match compD yes T c f S.length (wipeD ρ vs) ds (S ++ [Ob.lst []]) with
    | some S2 => finFl S S2
    | none => .stuck) = _
  rw [compD_pure ρd p e S ds [] h (by simpa using hl)]
  simp only [List.nil_append]
  refine finFl_end (lowL_of fun d hd => ?_)
  obtain ⟨x, hx, rfl⟩ := List.mem_map.mp hd
  obtain ⟨h1, h2⟩ := List.mem_filter.mp hx
  exact hlow x h1 h2
theorem eLc_pureLoc {src : Ev → Sto → R Src} {T : Tg} {vs : List Nat} {c : Ev → Sto → R Bool} {f : Ev → Sto → R D} {ρ : Ev} {S : Sto} (ds : List D) (ρd : D → Ev) (p : D → Bool) (e : D → D) (hs : src ρ S = .ok (ds, yes) S)
    (h : ∀ d ∈ ds, ∀ S', T d (wipeD ρ vs) S' = some (ρd d, S') ∧ c (ρd d) S' = .ok (p d) S' ∧ (p d = true → f (ρd d) S' = .ok (e d) S')) (hl : ds.length ≤ sizeLine) :
    eLc finLoc src T vs c f ρ S = .ok (.loc S.length) (S ++ [.lst ((ds.filter p).map e)]) := by
  unfold eLc
  rw [hs]
  show (match compD yes T c f S.length (wipeD ρ vs) ds (S ++ [Ob.lst []]) with
    | some S2 => finLoc S S2
    | none => .stuck) = _
  rw [compD_pure ρd p e S ds [] h (by simpa using hl)]
  simp only [List.nil_append]; rfl
/-! ### comprehensions that draw -/
theorem strO_len {big cells : List Int} {t : Int} {rest : Sto} : (strO big cells t rest).length = rest.length + 2 := rfl
theorem strO_app (big cells : List Int) (t : Int) (rest : Sto) (l : Sto) : strO big cells t rest ++ l = strO big cells t (rest ++ l) := rfl
theorem Strm.app {S : Sto} {n : Nat} {rest : Sto} (h : Strm S n rest) (l : Sto) : Strm (S ++ l) n (rest ++ l) := by
  obtain ⟨b, c, t, rfl, o⟩ := h
  exact ⟨b, c, t, rfl, o⟩
theorem Strm.getL_end {S : Sto} {n : Nat} {rest : Sto} {ds : List D} (h : Strm S n (rest ++ [.lst ds])) : getL S (rest.length + 2) = some ds := by
  obtain ⟨b, c, t, rfl, o⟩ := h
  refine getL_of ?_
  show (rest ++ [Ob.lst ds])[rest.length]? = _
  simp
theorem Strm.getQ_end {S : Sto} {n : Nat} {rest : Sto} {ds : List D} (h : Strm S n (rest ++ [.lst ds])) : getQ S (rest.length + 2) = some ds := by
  obtain ⟨b, c, t, rfl, o⟩ := h
  refine getQ_of ?_
  show (rest ++ [Ob.lst ds])[rest.length]? = _
  simp
theorem Strm.set_end {S : Sto} {n : Nat} {rest : Sto} {a : Ob} (h : Strm S n (rest ++ [a])) (b : Ob) : Strm (S.set (rest.length + 2) b) n (rest ++ [b]) := by
  obtain ⟨bg, c, t, rfl, o⟩ := h
  refine ⟨bg, c, t, ?_, o⟩
  show Ob.lst _ :: Ob.lst _ :: (rest ++ [a]).set rest.length b = _
  rw [DL.set_end]; rfl
/-- young places go: the stream stays -/
theorem Strm.trunc {S S' : Sto} {n m : Nat} {rest l : Sto} (h : Strm S n rest) (h' : Strm S' m (rest ++ l)) : Trunc S S' ∧ Strm (S'.take S.length) m rest := by
  obtain ⟨b, c, t, rfl, o⟩ := h
  obtain ⟨b', c', t', rfl, o'⟩ := h'
  refine ⟨⟨by simp [strO], fun k ob hk e => ?_⟩, b', c', t', ?_, o'⟩
  · match k, hk, e with
    | 0, hk, e =>
      cases e
      exact .inr (by simp [lowO, lowL_ints])
    | 1, hk, e =>
      cases e
      refine .inr ?_
      simp [lowO, lowL, low, lowL_ints, strO]
    | k + 2, hk, e =>
      left
      have hk' : k < rest.length := by simp [strO] at hk; exact hk
      show rest[k]? = some ob
      have e : (rest ++ l)[k]? = some ob := e
      rw [List.getElem?_append_left hk'] at e; exact e
  · show (Ob.lst _ :: Ob.lst _ :: (rest ++ l)).take (rest.length + 2) = _
    simp [strO]
theorem compD_strm {T : Tg} {f : Ev → Sto → R D} {ρ : Ev} {rest : Sto} (ρd : D → Ev) (cost : Nat) (P : D → Prop) : ∀ (ds acc : List D) (S : Sto) (n : Nat), Strm S n (rest ++ [.lst acc]) →
    (∀ d ∈ ds, ∀ S', T d ρ S' = some (ρd d, S')) →
    (∀ d ∈ ds, ∀ S' m l, m + cost ≤ n + ds.length * cost → Strm S' m l → ∃ y S'', f (ρd d) S' = .ok y S'' ∧ P y ∧ Strm S'' (m + cost) l) → acc.length + ds.length ≤ sizeLine →
    ∃ ys S', compD yes T cYes f (rest.length + 2) ρ ds S = some S' ∧ ys.length = ds.length ∧ (∀ y ∈ ys, P y) ∧ Strm S' (n + ds.length * cost) (rest ++ [.lst (acc ++ ys)])
  | [], acc, S, n, hS, _, _, _ => ⟨[], S, by rw [compD, if_pos (show yes _ from trivial)], rfl, by simp, by simpa using hS⟩
  | d :: ds, acc, S, n, hS, hT, hf, hl => by
    have hl' : acc.length + (ds.length + 1) ≤ sizeLine := hl
    have hcost : (d :: ds).length * cost = cost + ds.length * cost := by rw [List.length_cons, Nat.add_mul]; omega
    obtain ⟨y, S1, h1, h2, h3⟩ := hf d List.mem_cons_self S n _ (by rw [hcost]; omega) hS
    have h4 := h3.set_end (.lst (acc ++ [y]))
    obtain ⟨ys, S', h5, h6, h7, h8⟩ := compD_strm ρd cost P ds (acc ++ [y]) _ (n + cost) h4 (fun x hx => hT x (List.mem_cons_of_mem _ hx))
      (fun x hx S' m l hm => hf x (List.mem_cons_of_mem _ hx) S' m l (by rw [hcost]; omega)) (by simp; omega)
    refine ⟨y :: ys, S', ?_, by simp [h6], fun z hz => ?_, ?_⟩
    · rw [compD, if_pos (show yes _ from trivial), hT d List.mem_cons_self S]
      simp only [cYes, if_true, h1, h3.getL_end]
      rw [ifp_pos (by omega)]
      exact h5
    · rcases List.mem_cons.mp hz with rfl | hz
      · exact h2
      · exact h7 z hz
    · have e : n + (d :: ds).length * cost = n + cost + ds.length * cost := by rw [hcost]; omega
      rw [e]
      simpa using h8
theorem eLc_strm {src : Ev → Sto → R Src} {T : Tg} {vs : List Nat} {f : Ev → Sto → R D} {ρ : Ev} {S S0 : Sto} {n : Nat} {rest : Sto} (ds : List D) (ρd : D → Ev) (cost : Nat) (P : D → Prop) (hs : src ρ S0 = .ok (ds, yes) S) (hS : Strm S n rest)
    (hT : ∀ d ∈ ds, ∀ S', T d (wipeD ρ vs) S' = some (ρd d, S')) (hf : ∀ d ∈ ds, ∀ S' m l, m + cost ≤ n + ds.length * cost → Strm S' m l → ∃ y S'', f (ρd d) S' = .ok y S'' ∧ P y ∧ Strm S'' (m + cost) l) (hl : ds.length ≤ sizeLine) (hlow : ∀ y, P y → low S.length y = true) :
    ∃ ys S', eLc finFl src T vs cYes f ρ S0 = .ok (.fl ys) S' ∧ ys.length = ds.length ∧ (∀ y ∈ ys, P y) ∧ Strm S' (n + ds.length * cost) rest := by
  obtain ⟨ys, S', h1, h2, h3, h4⟩ := compD_strm (T := T) (f := f) (ρ := wipeD ρ vs) (rest := rest) ρd cost P ds [] (S ++ [.lst []]) n (hS.app _) hT hf (by simpa using hl)
  obtain ⟨t1, t2⟩ := hS.trunc h4
  refine ⟨ys, S'.take S.length, ?_, h2, h3, t2⟩
  unfold eLc
  rw [hs]
  show (match compD yes T cYes f S.length (wipeD ρ vs) ds (S ++ [Ob.lst []]) with
    | some S2 => finFl S S2
    | none => .stuck) = _
  rw [← hS.len] at h1
  rw [h1]
  show finFl S S' = _
  have e := h4.getL_end
  rw [List.nil_append, ← hS.len] at e
  exact finFl_eq e ⟨t1, by rw [h4.len, hS.len]; simp, lowL_of fun y hy => hlow y (h3 y hy)⟩
/-! ### the stream's beginning, picks -/
theorem stream_ok {ns : List Int} (h : ns.length ≤ 63) : ∃ S, F__law_stream [.kl (ns.map D.int)] [] = .ok (.loc 1) S ∧ Strm S 0 [] := by
  have e1 : ∀ S, eLc finFl (iSeq (eVar 0)) (tN 2) [2] cYes E1__law_stream [some (.kl (ns.map D.int)), none, none] S = .ok (.fl ((ns.map D.int).map fun d => match d with | .int i => .int (if i < 0 then -i else i) | d => d)) S := fun S => by
    have := eLc_pure (src := iSeq (eVar 0)) (T := tN 2) (vs := [2]) (c := cYes) (f := E1__law_stream) (ρ := [some (.kl (ns.map D.int)), none, none]) (S := S) (ns.map D.int) (fun d => [some (.kl (ns.map D.int)), none, some d]) (fun _ => true)
      (fun d => match d with | .int i => .int (if i < 0 then -i else i) | d => d) rfl (fun d hd S' => ?_) (by simp; exact Nat.le_trans h (by decide)) (fun d hd _ => ?_)
    · rw [this, List.filter_eq_self.mpr (by simp)]
    · obtain ⟨i, _, rfl⟩ := List.mem_map.mp hd
      exact ⟨rfl, rfl, fun _ => rfl⟩
    · obtain ⟨i, _, rfl⟩ := List.mem_map.mp hd
      rfl
  have e2 : ((ns.map D.int).map fun d => match d with | .int i => D.int (if i < 0 then -i else i) | d => d) = (ns.map fun i => if i < 0 then -i else i).map D.int := by simp
  generalize hcs : (ns.map fun i => if i < 0 then -i else i) = cs at e2
  have hc0 : ∀ c ∈ cs, 0 ≤ c := fun c hc => by
    rw [← hcs] at hc
    obtain ⟨i, _, rfl⟩ := List.mem_map.mp hc
    split <;> omega
  have hlen : cs.length ≤ 63 := by rw [← hcs]; simpa using h
  have hpow : ∀ S, dPow (.int 10) (.int 18) S = .ok (.int (10 ^ 18)) S := fun S => dPow_ok (by decide) S
  have e3 : ∀ S, eLc finLoc (iSeq (eVar 1)) (tN 2) [2] Q1__law_stream E2__law_stream [some (.kl (ns.map D.int)), some (.fl (cs.map D.int)), none] S = .ok (.loc S.length) (S ++ [.lst ((cs.filter fun i => decide ((10 : Int) ^ 18 ≤ i)).map D.int)]) := fun S => by
    have := eLc_pureLoc (src := iSeq (eVar 1)) (T := tN 2) (vs := [2]) (c := Q1__law_stream) (f := E2__law_stream) (ρ := [some (.kl (ns.map D.int)), some (.fl (cs.map D.int)), none]) (S := S) (cs.map D.int)
      (fun d => [some (.kl (ns.map D.int)), some (.fl (cs.map D.int)), some d]) (fun d => match d with | .int i => decide ((10 : Int) ^ 18 ≤ i) | _ => false) (fun d => d) rfl (fun d hd S' => ?_) (by simp; exact Nat.le_trans hlen (by decide))
    · rw [this, List.filter_map]
      simp [Function.comp_def]
    · obtain ⟨i, _, rfl⟩ := List.mem_map.mp hd
      refine ⟨rfl, ?_, fun _ => rfl⟩
      have hw : wipeD [some (D.kl (ns.map D.int)), some (D.fl (cs.map D.int)), none] [2] = [some (D.kl (ns.map D.int)), some (D.fl (cs.map D.int)), none] := rfl
      simp only [eVar, eC, eOp, eT, eAnd, eOr, eNot, eIf, eAndV, eOrV, eNotV, eCall, aNil, aCons, aStar, sOf, eTup, eFl, eLoc, eSl, oNone, oSome, iOf, eNeg, eChain, eMt, bOf, R.bind_ok, R.bind_er, R.bind_stuck, R.toS_ok, R.toS_er, R.toS_stuck, SR.next_nx, SR.next_rt, SR.next_er, SR.next_bk, SR.next_ct, SR.next_stuck, sNil, sSeq, sBrk, sCnt, sExp, sRet, sRetN, sIf, sSet, sAsg, sAug, sPar2, sPar3, tN, DL.tTup, DL.tNil, DL.tCons, DL.tSub, iSeq, srcOf, iRange1, iRange2, sFor, startD, List.map_cons, List.map_nil, List.length_cons, List.length_nil, List.replicate, List.cons_append, List.nil_append, List.getElem?_cons_zero, List.getElem?_cons_succ, List.set_cons_zero, List.set_cons_succ, dSub_int, dFdiv_int, dMod_int, dLt_int, dLe_int, dGt_int, dGe_int, dAddI_int, dSubI_int, dIsN_non, isN, dAdd_int, ll0, ll1, ll2, ll3, ll4, ll5, ll6, ll7, ll8, ll9, ll10, ll11, ll12, ll13, ll14, ll15, ll16, ll17, ll18, ll19, ll20, ll21, ll22, ll23, ll24, ll25, ll26, ll27, ll28, ll29, ll30, ll31, ll32, ll33, ll34, ll35, ll36, ll37, ll38, ll39, ll40, Nat.reduceSub, Nat.reduceAdd, Nat.reduceEqDiff, if_true, if_false, ifp_t, ifp_f, reduceIte, Bool.true_eq_false, Bool.false_eq_true, Option.map_some, Option.map_none, Option.bind_some, Option.bind_none, Q1__law_stream, hpow]
  refine ⟨strO (cs.filter fun i => decide ((10 : Int) ^ 18 ≤ i)) (cs ++ [(cs.length : Int) + 17]) 0 [], ?_, ⟨_, _, _, rfl, ?_, ?_, by simp, ?_, by omega, by omega⟩⟩
  · unfold F__law_stream fnC
    rw [if_pos (show [D.kl (ns.map D.int)].length = 1 from rfl)]
    have hst : startD 3 [D.kl (ns.map D.int)] = [some (.kl (ns.map D.int)), none, none] := rfl
    rw [hst]
    unfold B__law_stream
    have hadd : ∀ S, dAdd (.fl (cs.map D.int)) (.fl [.int ((cs.length : Int) + 17)]) S = .ok (.fl ((cs ++ [(cs.length : Int) + 17]).map D.int)) S := fun S => by
      show ifp ((cs.map D.int).length + 1 ≤ sizeLine) (R.ok (D.fl (cs.map D.int ++ [D.int ((cs.length : Int) + 17)])) S) .stuck = _
      rw [ifp_pos (by rw [List.length_map]; exact Nat.le_trans (Nat.succ_le_succ hlen) (by decide))]
      simp
    simp only [eVar, eC, eOp, eT, eAnd, eOr, eNot, eIf, eAndV, eOrV, eNotV, eCall, aNil, aCons, aStar, sOf, eTup, eFl, eLoc, eSl, oNone, oSome, iOf, eNeg, eChain, eMt, bOf, R.bind_ok, R.bind_er, R.bind_stuck, R.toS_ok, R.toS_er, R.toS_stuck, SR.next_nx, SR.next_rt, SR.next_er, SR.next_bk, SR.next_ct, SR.next_stuck, sNil, sSeq, sBrk, sCnt, sExp, sRet, sRetN, sIf, sSet, sAsg, sAug, sPar2, sPar3, tN, DL.tTup, DL.tNil, DL.tCons, DL.tSub, iSeq, srcOf, iRange1, iRange2, sFor, startD, List.map_cons, List.map_nil, List.length_cons, List.length_nil, List.replicate, List.cons_append, List.nil_append, List.getElem?_cons_zero, List.getElem?_cons_succ, List.set_cons_zero, List.set_cons_succ, dSub_int, dFdiv_int, dMod_int, dLt_int, dLe_int, dGt_int, dGe_int, dAddI_int, dSubI_int, dIsN_non, isN, dAdd_int, ll0, ll1, ll2, ll3, ll4, ll5, ll6, ll7, ll8, ll9, ll10, ll11, ll12, ll13, ll14, ll15, ll16, ll17, ll18, ll19, ll20, ll21, ll22, ll23, ll24, ll25, ll26, ll27, ll28, ll29, ll30, ll31, ll32, ll33, ll34, ll35, ll36, ll37, ll38, ll39, ll40, Nat.reduceSub, Nat.reduceAdd, Nat.reduceEqDiff, if_true, if_false, ifp_t, ifp_f, reduceIte, Bool.true_eq_false, Bool.false_eq_true, Option.map_some, Option.map_none, Option.bind_some, Option.bind_none, e1, e2, e3, dAdd_int, bLen_fl, List.length_map, hadd]
    rfl
  · intro c hc
    exact hc0 c (List.mem_filter.mp hc).1
  · intro c hc
    rcases List.mem_append.mp hc with hc | hc
    · exact hc0 c hc
    · simp at hc; omega
  · exact Nat.le_trans (List.length_filter_le _ _) hlen
theorem pick_fl {S : Sto} {n : Nat} {rest : Sto} (h : Strm S n rest) {xs : List D} (hx : xs ≠ []) (hs : xs.length < 2 ^ 60) (hn : n < 2 ^ 60) :
    ∃ d S', F__law_pick [.loc 1, .fl xs] S = .ok d S' ∧ d ∈ xs ∧ Strm S' (n + 1) rest := by
  have hl := List.length_pos_iff.mpr hx
  obtain ⟨r, S', h1, h2, h3, h4⟩ := draw_ok h (m := (xs.length : Int)) (by omega) (log2_small 60 (by omega) (by decide) (by decide)) hn
  have hr : r.toNat < xs.length := by omega
  refine ⟨xs[r.toNat], S', ?_, List.getElem_mem hr, h4⟩
  refine fnC_rt rfl ?_ (by rw [h.len, h4.len])
  unfold B__law_pick
  have hix : ∀ S, dIx (.fl xs) (.int r) S = .ok xs[r.toNat] S := fun S => dIx_fl (by rw [atI_nn h2 h3, List.getElem?_eq_getElem hr])
  simp only [eVar, eC, eOp, eT, eAnd, eOr, eNot, eIf, eAndV, eOrV, eNotV, eCall, aNil, aCons, aStar, sOf, eTup, eFl, eLoc, eSl, oNone, oSome, iOf, eNeg, eChain, eMt, bOf, R.bind_ok, R.bind_er, R.bind_stuck, R.toS_ok, R.toS_er, R.toS_stuck, SR.next_nx, SR.next_rt, SR.next_er, SR.next_bk, SR.next_ct, SR.next_stuck, sNil, sSeq, sBrk, sCnt, sExp, sRet, sRetN, sIf, sSet, sAsg, sAug, sPar2, sPar3, tN, DL.tTup, DL.tNil, DL.tCons, DL.tSub, iSeq, srcOf, iRange1, iRange2, sFor, startD, List.map_cons, List.map_nil, List.length_cons, List.length_nil, List.replicate, List.cons_append, List.nil_append, List.getElem?_cons_zero, List.getElem?_cons_succ, List.set_cons_zero, List.set_cons_succ, dSub_int, dFdiv_int, dMod_int, dLt_int, dLe_int, dGt_int, dGe_int, dAddI_int, dSubI_int, dIsN_non, isN, dAdd_int, ll0, ll1, ll2, ll3, ll4, ll5, ll6, ll7, ll8, ll9, ll10, ll11, ll12, ll13, ll14, ll15, ll16, ll17, ll18, ll19, ll20, ll21, ll22, ll23, ll24, ll25, ll26, ll27, ll28, ll29, ll30, ll31, ll32, ll33, ll34, ll35, ll36, ll37, ll38, ll39, ll40, Nat.reduceSub, Nat.reduceAdd, Nat.reduceEqDiff, if_true, if_false, ifp_t, ifp_f, reduceIte, Bool.true_eq_false, Bool.false_eq_true, Option.map_some, Option.map_none, Option.bind_some, Option.bind_none, bLen_fl, h1, hix]
theorem pick_tup {S : Sto} {n : Nat} {rest : Sto} (h : Strm S n rest) {xs : List D} (hx : xs ≠ []) (hs : xs.length < 2 ^ 60) (hn : n < 2 ^ 60) :
    ∃ d S', F__law_pick [.loc 1, .tup xs] S = .ok d S' ∧ d ∈ xs ∧ Strm S' (n + 1) rest := by
  have hl := List.length_pos_iff.mpr hx
  obtain ⟨r, S', h1, h2, h3, h4⟩ := draw_ok h (m := (xs.length : Int)) (by omega) (log2_small 60 (by omega) (by decide) (by decide)) hn
  have hr : r.toNat < xs.length := by omega
  refine ⟨xs[r.toNat], S', ?_, List.getElem_mem hr, h4⟩
  refine fnC_rt rfl ?_ (by rw [h.len, h4.len])
  unfold B__law_pick
  have hix : ∀ S, dIx (.tup xs) (.int r) S = .ok xs[r.toNat] S := fun S => dIx_tup (by rw [atI_nn h2 h3, List.getElem?_eq_getElem hr])
  simp only [eVar, eC, eOp, eT, eAnd, eOr, eNot, eIf, eAndV, eOrV, eNotV, eCall, aNil, aCons, aStar, sOf, eTup, eFl, eLoc, eSl, oNone, oSome, iOf, eNeg, eChain, eMt, bOf, R.bind_ok, R.bind_er, R.bind_stuck, R.toS_ok, R.toS_er, R.toS_stuck, SR.next_nx, SR.next_rt, SR.next_er, SR.next_bk, SR.next_ct, SR.next_stuck, sNil, sSeq, sBrk, sCnt, sExp, sRet, sRetN, sIf, sSet, sAsg, sAug, sPar2, sPar3, tN, DL.tTup, DL.tNil, DL.tCons, DL.tSub, iSeq, srcOf, iRange1, iRange2, sFor, startD, List.map_cons, List.map_nil, List.length_cons, List.length_nil, List.replicate, List.cons_append, List.nil_append, List.getElem?_cons_zero, List.getElem?_cons_succ, List.set_cons_zero, List.set_cons_succ, dSub_int, dFdiv_int, dMod_int, dLt_int, dLe_int, dGt_int, dGe_int, dAddI_int, dSubI_int, dIsN_non, isN, dAdd_int, ll0, ll1, ll2, ll3, ll4, ll5, ll6, ll7, ll8, ll9, ll10, ll11, ll12, ll13, ll14, ll15, ll16, ll17, ll18, ll19, ll20, ll21, ll22, ll23, ll24, ll25, ll26, ll27, ll28, ll29, ll30, ll31, ll32, ll33, ll34, ll35, ll36, ll37, ll38, ll39, ll40, Nat.reduceSub, Nat.reduceAdd, Nat.reduceEqDiff, if_true, if_false, ifp_t, ifp_f, reduceIte, Bool.true_eq_false, Bool.false_eq_true, Option.map_some, Option.map_none, Option.bind_some, Option.bind_none, bLen_tup, h1, hix]

theorem close_law {d : D} (h : low 0 d = true) (S' : Sto) : ∃ S'', close [] d S' = .ok d S'' := by
  unfold close
  split
  · exact ⟨_, rfl⟩
  · rw [if_pos ⟨⟨Nat.zero_le _, fun k o hk _ => absurd hk (Nat.not_lt_zero _)⟩, h⟩]
    exact ⟨_, rfl⟩
/-- a law's function by its body -/
theorem law_by {n : Nat} {B : Ev → Sto → SR} (h : ∀ ns : List Int, ns.length ≤ 63 → (∀ z ∈ ns, Builtin.Int.intBits z ≤ 1048576) → ∃ S', B (startD n [.kl (ns.map D.int)]) [] = .rt (.bl true) S') : LawOk (fnC close n 1 B) := by
  intro ns hl hb
  obtain ⟨S', e⟩ := h ns hl hb
  unfold fnC
  rw [if_pos (show [D.kl (ns.map D.int)].length = 1 from rfl), e]
  exact close_law rfl S'
end DL

/-! Statements that no run reaches. -/
namespace DL
open PySem PySem.Spec L2
open PyProof.Rows hiding St
def sStk : Ev → Sto → SR := fun _ _ => .stuck
theorem ds_stk {X : Cx} {W : WX} {st : Stmt} : DS X W st sStk := ⟨fun _ _ _ _ _ _ h => absurd h fun ⟨_, _, _, _, _, h⟩ => h⟩
def eStk : Ev → Sto → R D := fun _ _ => .stuck
theorem de_stk {X : Cx} {W : WX} {e : Expr} : DE X W e eStk := ⟨fun _ _ _ _ _ _ h => absurd h fun ⟨_, _, _, _, _, h⟩ => h⟩
/-! ### sum of a list or a tuple -/
def rSum2 (K : PySem.W.Frag) : List V → Hp → VK → Prop := fun vs H Q => ∃ (a : Addr) (ns : List Int), vs = [V.ref a] ∧ (SqL K H a (ns.map V.int) ∨ SqT K H a (ns.map V.int)) ∧ Q (.int ns.sum) H
theorem cr_sum2 {X : Cx} (hc : X.calm = true) : CallR X (.builtin "sum") (rSum2 X.K) := by
  intro pins s σ H vs us Q I r h
  obtain ⟨a, ns, rfl, hs | hs, q⟩ := h
  · exact cr_sum hc pins s σ H _ us Q I r ⟨a, ns, rfl, hs, q⟩
  · obtain ⟨its, rv, hl, _⟩ := I.tuple hs
    rw [Vals.ref1 r]
    obtain ⟨xs, e⟩ := rv.ints.allInts.items
    have hn : numsOf (intItems xs).toList = ns := by rw [← e]; exact rv.ints.numsOf
    rw [nums_intItems] at hn
    rw [e] at hl
    refine PySem.W.ktm_sumG (I.ok.hd hc) hl fun h' tk t' hk => ?_
    rw [preSum_eq, List.take_of_length_le (by simp), hn]
    exact ⟨.int _, H, I.kept hk, ⟨_, rfl⟩, q⟩
def bSum2 : Fn := fun ds S => match ds with
  | [d] => (match (seqOf S d).bind intsOf with
    | some is => .ok (.int is.sum) S
    | none => .stuck)
  | _ => .stuck
theorem seq_ints {K : PySem.W.Frag} {ι : List Addr} {H : Hp} {S : Sto} {d : D} {v : V} {is : List Int} (s : Sim K ι H S) (r : RepV K ι H d v) (e : (seqOf S d).bind intsOf = some is) : ∃ p, v = .ref p ∧ (SqL K H p (is.map V.int) ∨ SqT K H p (is.map V.int)) := by
  cases h : seqOf S d with
  | none => rw [h] at e; cases e
  | some ds =>
    rw [h] at e
    obtain ⟨p, vs, rfl, q, rl⟩ := seq_at s r h
    rw [intsOf_rep _ _ _ rl e] at q
    exact ⟨p, rfl, q⟩
theorem k_sum2 {K : PySem.W.Frag} : CallK K (rSum2 K) bSum2 := by
  intro W σ ι H S vs ds Q s rl h
  unfold bSum2 at h
  (try unfold ifp at h); split at h
  · obtain ⟨v, rfl, rv⟩ := RepL.one_inv rl
    (try unfold ifp at h); split at h
    · rename_i is hi
      obtain ⟨p, rfl, q⟩ := seq_ints s rv hi
      exact ⟨p, is, rfl, q, h.here s _ int_rep⟩
    · exact h.elim
  · exact h.elim
/-! ### list.index of whole numbers that are there -/
def mIndex : Mt := fun o ds S => match (lstOf S o).bind intsOf, ds with
  | some is, [.int k] => if is.idxOf k < is.length then .ok (.int (is.idxOf k : Nat)) S else .stuck
  | _, _ => .stuck
theorem k_index {K : PySem.W.Frag} : MtK K (rIndex K) mIndex := by
  intro W σ ι H S x vs a ds Q s rx rl h
  unfold mIndex at h
  split at h
  · rename_i is k hi
    split at h
    · rename_i hlt
      obtain ⟨u, rfl, ru⟩ := RepL.one_inv rl
      obtain ⟨p, rfl, q⟩ := lst_ints s rx hi
      refine ⟨p, is.map V.int, u, is.idxOf k, .int k, rfl, rfl, q, by rw [int_at ru]; rfl, ?_, ?_, by rw [int_at ru]; simp [eqV], ?_, h.here s _ int_rep⟩
      · rw [List.all_map]; exact List.all_eq_true.mpr fun _ _ => rfl
      · rw [List.getElem?_map, List.getElem?_eq_getElem hlt, List.getElem_idxOf hlt]; rfl
      · intro m z hm hz
        rw [List.getElem?_map] at hz
        have hml : m < is.length := Nat.lt_trans hm hlt
        rw [List.getElem?_eq_getElem hml] at hz
        obtain rfl := Option.some.inj hz
        rw [int_at ru]
        have := List.not_of_lt_findIdx (xs := is) (p := (· == k)) (i := m) hm
        simpa [eqV] using this
    · exact h.elim
  · exact h.elim
end DL

/-! Rings and rows: what most laws use. -/
namespace DL
open PySem PySem.Spec L2
open PyProof.Rows hiding St
noncomputable def E1__law_ring (ρ : Ev) (S : Sto) : R D :=
  (eCall F__law_pick (aCons (eVar 0) (aCons (eVar 3) aNil))) ρ S
noncomputable def L1__law_ring (ρ : Ev) (S : Sto) : SR :=
  (sSeq (sPar2 8 9 (aCons (eCall F__law_draw (aCons (eVar 0) (aCons (eVar 4) aNil))) (aCons (eOp dSub (eOp dSub (eVar 4) (eCall bSum2 (aCons (eVar 5) aNil))) (eVar 6)) aNil)))
    (sIf (eAnd (eT (eOp dLt (eVar 6) (eC (.int 99)))) (eAnd (eT (eOp dLt (eVar 9) (eC (.int 0)))) (eT (eOp dGt (eOp dIx (eVar 5) (eVar 8)) (eC (.int 0)))))) (sAsg (eOp dSub (eOp dIx (eVar 5) (eVar 8)) (eC (.int 1))) (tSub (eVar 5) (eVar 8))) (sIf (eAnd (eT (eOp dLt (eVar 6) (eC (.int 99)))) (eAnd (eT (eOp dGt (eVar 9) (eC (.int 0)))) (eT (eOp dLt (eOp dIx (eVar 5) (eVar 8)) (eC (.int 5)))))) (sAsg (eOp dAdd (eOp dIx (eVar 5) (eVar 8)) (eC (.int 1))) (tSub (eVar 5) (eVar 8))) sNil))) ρ S
noncomputable def B__law_ring : Ev → Sto → SR :=
  (sSeq (sSet 2 (eFl (aCons (eFl (aCons (eC (.int 0)) (aCons (eC (.int 0)) (aCons (eC (.int 1)) (aCons (eC (.int 2)) aNil))))) (aCons (eFl (aCons (eC (.int 0)) (aCons (eC (.int 0)) (aCons (eC (.int 0)) (aCons (eC (.int 0)) (aCons (eC (.int 0)) (aCons (eC (.int 5)) (aCons (eC (.int 4)) aNil)))))))) (aCons (eFl (aCons (eC (.int 0)) (aCons (eC (.int 1)) (aCons (eC (.int 2)) (aCons (eC (.int 3)) (aCons (eC (.int 4)) (aCons (eC (.int 5)) aNil))))))) (aCons (eFl (aCons (eC (.int 0)) (aCons (eC (.int 0)) (aCons (eC (.int 2)) aNil)))) (aCons (eFl (aCons (eC (.int 0)) (aCons (eC (.int 0)) (aCons (eC (.int 0)) (aCons (eC (.int 1)) aNil))))) aNil)))))))
    (sSeq (sAsg (eTup (aCons (eCall F__law_pick (aCons (eVar 0) (aCons (eOp dAdd (eVar 2) (eFl (aCons (eFl (aCons (eC (.int 1)) (aCons (eC (.int 1)) (aCons (eC (.int 1)) (aCons (eC (.int 0)) (aCons (eC (.int 2)) aNil)))))) (aCons (eFl (aCons (eC (.int 2)) aNil)) aNil)))) aNil))) (aCons (eOp dAdd (eC (.int 1)) (eCall F__law_draw (aCons (eVar 0) (aCons (eVar 1) aNil)))) aNil))) (tTup 2 (tCons (tN 3) (tCons (tN 4) tNil))))
    (sSeq (sSet 5 (eLc finLoc (iRange1 (aCons (eVar 4) aNil)) (tN 10) [10] cYes E1__law_ring))
    (sSeq (sSet 6 (eOp dIx (eFl (aCons (eC (.int 99)) (aCons (eOp dAdd (eC (.int 1)) (eCall F__law_draw (aCons (eVar 0) (aCons (eC (.int 3)) aNil)))) (aCons (eOp dSub (eC (.int 0)) (eCall F__law_draw (aCons (eVar 0) (aCons (eC (.int 3)) aNil)))) aNil)))) (eCall F__law_draw (aCons (eVar 0) (aCons (eC (.int 3)) aNil)))))
    (sSeq (sFor (iRange1 (aCons (eOp dMul (eC (.int 5)) (eVar 4)) aNil)) (tN 7) L1__law_ring sNil)
    (sRet (eCall bTuple (aCons (eVar 5) aNil))))))))
noncomputable def F__law_ring : Fn := fnC close 11 2 B__law_ring

noncomputable def L1__law_missing (ρ : Ev) (S : Sto) : SR :=
  (sSeq (sIf (eT (eOp dLt (eVar 1) (eVar 3))) (sSeq (sSet 2 (eOp dSub (eOp dAdd (eVar 2) (eVar 3)) (eVar 1)))
    (sSet 1 (eVar 3))) sNil)
    (sSet 1 (eOp dAdd (eOp dSub (eVar 1) (eVar 3)) (eC (.int 1))))) ρ S
noncomputable def B__law_missing : Ev → Sto → SR :=
  (sSeq (sAsg (eTup (aCons (eC (.int 0)) (aCons (eC (.int 0)) aNil))) (tTup 2 (tCons (tN 1) (tCons (tN 2) tNil))))
    (sSeq (sFor (iSeq (eVar 0)) (tN 3) L1__law_missing sNil)
    (sRet (eFl (aCons (eVar 2) (aCons (eVar 1) aNil))))))
noncomputable def F__law_missing : Fn := fnC close 4 1 B__law_missing

noncomputable def B__law_from : Ev → Sto → SR :=
  (sRet (eOp dAdd (eSl mkFl (eVar 0) (oSome (eVar 1)) oNone) (eSl mkFl (eVar 0) oNone (oSome (eVar 1)))))
noncomputable def F__law_from : Fn := fnC close 2 2 B__law_from

noncomputable def E1__law_begins (ρ : Ev) (S : Sto) : R D :=
  (eVar 1) ρ S
noncomputable def Q1__law_begins (ρ : Ev) (S : Sto) : R Bool :=
  (eT (eOp (dEq false) (eOp dIx (eCall F__law_missing (aCons (eCall F__law_from (aCons (eVar 0) (aCons (eVar 1) aNil))) aNil)) (eC (.int 0))) (eC (.int 0)))) ρ S
noncomputable def B__law_begins : Ev → Sto → SR :=
  (sRet (eLc finFl (iRange1 (aCons (eCall bLen (aCons (eVar 0) aNil)) aNil)) (tN 1) [1] Q1__law_begins E1__law_begins))
noncomputable def F__law_begins : Fn := fnC close 2 1 B__law_begins

noncomputable def B_balance : Ev → Sto → SR :=
  (sRet (eOp dSub (eCall bLen (aCons (eVar 0) aNil)) (eCall bSum2 (aCons (eVar 0) aNil))))
noncomputable def F_balance : Fn := fnC close 1 1 B_balance

noncomputable def L1_heights_of (ρ : Ev) (S : Sto) : SR :=
  (sSeq (sAug 2 dAddI (eOp dSub (eC (.int 1)) (eVar 3)))
    (sExp (eMt isLst mAppend (eVar 1) (aCons (eVar 2) aNil)))) ρ S
noncomputable def B_heights_of : Ev → Sto → SR :=
  (sSeq (sSet 1 (eLoc aNil))
    (sSeq (sSet 2 (eC (.int 0)))
    (sSeq (sFor (iSeq (eVar 0)) (tN 3) L1_heights_of sNil)
    (sRet (eCall bTuple (aCons (eVar 1) aNil))))))
noncomputable def F_heights_of : Fn := fnC close 4 1 B_heights_of

noncomputable def B_need_of : Ev → Sto → SR :=
  (sRet (eOp dSub (eC (.int 1)) (eCall bMin (aCons (eOp dAdd (eFl (aCons (eC (.int 1)) aNil)) (eCall (bList mkFl) (aCons (eCall F_heights_of (aCons (eVar 0) aNil)) aNil))) aNil))))
noncomputable def F_need_of : Fn := fnC close 1 1 B_need_of

noncomputable def B_is_integer : Ev → Sto → SR :=
  (sRet (eAndV (eCall bIsi (aCons (eVar 0) (aCons (eC (.ty "int")) aNil))) (eAndV (eNotV (eCall bIsi (aCons (eVar 0) (aCons (eC (.ty "bool")) aNil)))) (eChain dLe dLe (eVar 1) (eVar 0) (eVar 2)))))
noncomputable def F_is_integer : Fn := fnC close 3 3 B_is_integer


theorem eLc_strmLoc {src : Ev → Sto → R Src} {T : Tg} {vs : List Nat} {f : Ev → Sto → R D} {ρ : Ev} {S S0 : Sto} {n : Nat} {rest : Sto} (ds : List D) (ρd : D → Ev) (cost : Nat) (P : D → Prop) (hs : src ρ S0 = .ok (ds, yes) S) (hS : Strm S n rest)
    (hT : ∀ d ∈ ds, ∀ S', T d (wipeD ρ vs) S' = some (ρd d, S')) (hf : ∀ d ∈ ds, ∀ S' m l, m + cost ≤ n + ds.length * cost → Strm S' m l → ∃ y S'', f (ρd d) S' = .ok y S'' ∧ P y ∧ Strm S'' (m + cost) l) (hl : ds.length ≤ sizeLine) :
    ∃ ys S', eLc finLoc src T vs cYes f ρ S0 = .ok (.loc (rest.length + 2)) S' ∧ ys.length = ds.length ∧ (∀ y ∈ ys, P y) ∧ Strm S' (n + ds.length * cost) (rest ++ [.lst ys]) := by
  obtain ⟨ys, S', h1, h2, h3, h4⟩ := compD_strm (T := T) (f := f) (ρ := wipeD ρ vs) (rest := rest) ρd cost P ds [] (S ++ [.lst []]) n (hS.app _) hT hf (by simpa using hl)
  refine ⟨ys, S', ?_, h2, h3, by simpa using h4⟩
  unfold eLc
  rw [hs]
  show (match compD yes T cYes f S.length (wipeD ρ vs) ds (S ++ [Ob.lst []]) with
    | some S2 => finLoc S S2
    | none => .stuck) = _
  rw [← hS.len] at h1
  rw [h1, ← hS.len]
  rfl
theorem ints_of : ∀ {ys : List D} {Q : Int → Prop}, (∀ y ∈ ys, ∃ i, y = .int i ∧ Q i) → ∃ is : List Int, ys = is.map D.int ∧ ∀ i ∈ is, Q i
  | [], _, _ => ⟨[], rfl, by simp⟩
  | y :: ys, Q, h => by
    obtain ⟨e, rfl, he⟩ := h y List.mem_cons_self
    obtain ⟨es, rfl, hes⟩ := ints_of fun z hz => h z (List.mem_cons_of_mem _ hz)
    exact ⟨e :: es, rfl, fun x hx => by
      rcases List.mem_cons.mp hx with rfl | hx
      · exact he
      · exact hes x hx⟩
theorem bSum2_loc {S : Sto} {n : Nat} {l : List Int} (h : getQ S n = some (l.map D.int)) : bSum2 [.loc n] S = .ok (.int l.sum) S := by
  unfold bSum2
  simp only [show seqOf S (.loc n) = some (l.map D.int) from h, Option.bind_some, intsOf_map]
theorem bSum2_fl (l : List Int) (S : Sto) : bSum2 [.fl (l.map D.int)] S = .ok (.int l.sum) S := by
  unfold bSum2
  simp only [seqOf, Option.bind_some, intsOf_map]
theorem bSum2_tup (l : List Int) (S : Sto) : bSum2 [.tup (l.map D.int)] S = .ok (.int l.sum) S := by
  unfold bSum2
  simp only [seqOf, Option.bind_some, intsOf_map]
theorem bTuple_loc {S : Sto} {n : Nat} {l : List D} (h : getQ S n = some l) : bTuple [.loc n] S = .ok (.tup l) S := by
  unfold bTuple
  simp only [show seqOf S (.loc n) = some l from h]
theorem bTuple_fl (l : List D) (S : Sto) : bTuple [.fl l] S = .ok (.tup l) S := rfl
theorem bTuple_tup (l : List D) (S : Sto) : bTuple [.tup l] S = .ok (.tup l) S := rfl
theorem bLen_loc {S : Sto} {n : Nat} {l : List D} (h : getQ S n = some l) : bLen [.loc n] S = .ok (.int l.length) S := by
  unfold bLen
  simp only [show seqOf S (.loc n) = some l from h]
theorem dIx_locI {S : Sto} {n : Nat} {l : List Int} {i : Int} (h : getQ S n = some (l.map D.int)) (h0 : 0 ≤ i) (h1 : i < l.length) : dIx (.loc n) (.int i) S = .ok (.int (l[i.toNat]'(by omega))) S := by
  refine dIx_loc h ?_
  rw [atI_nn h0 (by simpa using h1), List.getElem?_map, List.getElem?_eq_getElem (by omega)]; rfl
theorem dSet_locI {S : Sto} {n : Nat} {l : List Int} {i v : Int} (h : getL S n = some (l.map D.int)) (h0 : 0 ≤ i) (h1 : i < l.length) : dSet (.loc n) (.int i) (.int v) S = some (S.set n (.lst ((l.set i.toNat v).map D.int))) := by
  unfold dSet
  simp only [h, Option.bind_some, ixN, List.length_map]
  rw [if_pos h0, if_pos h1]
  simp [List.map_set]
def Arity (t : Int) : Prop := 0 ≤ t ∧ t ≤ 5
theorem ring_step {S : Sto} {n : Nat} {rest : Sto} {toks : List Int} {size goal : Int} (h : Strm S n (rest ++ [.lst (toks.map D.int)])) (hl : (toks.length : Int) = size) (ht : ∀ t ∈ toks, Arity t) (hs : 0 < size) (hs2 : size < 2 ^ 50) (hn : n < 2 ^ 60) (x1 x2 x3 x7 x8 x9 x10 : Option D) :
    ∃ (toks' : List Int) (y8 y9 : Option D) (S' : Sto), L1__law_ring [some (.loc 1), x1, x2, x3, some (.int size), some (.loc (rest.length + 2)), some (.int goal), x7, x8, x9, x10] S = .nx [some (.loc 1), x1, x2, x3, some (.int size), some (.loc (rest.length + 2)), some (.int goal), x7, y8, y9, x10] S' ∧
      Strm S' (n + 1) (rest ++ [.lst (toks'.map D.int)]) ∧ (toks'.length : Int) = size ∧ ∀ t ∈ toks', Arity t := by
  obtain ⟨r, S1, r1, r2, r3, s1⟩ := draw_ok h hs (log2_small 50 (by omega) (by decide) (by decide)) hn
  have rl : r < toks.length := by omega
  have q1 := s1.getQ_end
  have sm : bSum2 [.loc (rest.length + 2)] S1 = .ok (.int toks.sum) S1 := bSum2_loc q1
  have ix : dIx (.loc (rest.length + 2)) (.int r) S1 = .ok (.int (toks[r.toNat]'(by omega))) S1 := dIx_locI q1 r2 rl
  have tm : Arity (toks[r.toNat]'(by omega)) := ht _ (List.getElem_mem _)
  generalize toks[r.toNat]'(by omega) = t at ix tm
  have st : ∀ v, dSet (.loc (rest.length + 2)) (.int r) (.int v) S1 = some (S1.set (rest.length + 2) (.lst ((toks.set r.toNat v).map D.int))) := fun v => dSet_locI s1.getL_end r2 rl
  have put : ∀ v, Arity v → Strm (S1.set (rest.length + 2) (.lst ((toks.set r.toNat v).map D.int))) (n + 1) (rest ++ [.lst ((toks.set r.toNat v).map D.int)]) ∧ ((toks.set r.toNat v).length : Int) = size ∧ ∀ t ∈ toks.set r.toNat v, Arity t := fun v hv => ⟨s1.set_end _, by simpa using hl, fun t h => by
    rcases List.mem_or_eq_of_mem_set h with h | rfl
    · exact ht t h
    · exact hv⟩
  have keep : Strm S1 (n + 1) (rest ++ [.lst (toks.map D.int)]) ∧ (toks.length : Int) = size ∧ ∀ t ∈ toks, Arity t := ⟨s1, hl, ht⟩
  generalize ho : size - toks.sum - goal = over
  by_cases hg : goal < 99
  · by_cases h1 : over < 0
    · have h2 : ¬ 0 < over := by omega
      by_cases h3 : 0 < t
      · refine ⟨toks.set r.toNat (t - 1), some (.int r), some (.int over), _, ?_, put (t - 1) ⟨by omega, by have := tm.2; omega⟩⟩
        simp only [eVar, eC, eOp, eT, eAnd, eOr, eNot, eIf, eAndV, eOrV, eNotV, eCall, aNil, aCons, aStar, sOf, eTup, eFl, eLoc, eSl, oNone, oSome, iOf, eNeg, eChain, eMt, bOf, List.lookup, R.bind_ok, R.bind_er, R.bind_stuck, R.toS_ok, R.toS_er, R.toS_stuck, SR.next_nx, SR.next_rt, SR.next_er, SR.next_bk, SR.next_ct, SR.next_stuck, sNil, sSeq, sBrk, sCnt, sExp, sRet, sRetN, sIf, sSet, sAsg, sAug, sPar2, sPar3, tN, DL.tTup, DL.tNil, DL.tCons, DL.tSub, iSeq, srcOf, iRange1, iRange2, sFor, startD, List.map_cons, List.map_nil, List.length_cons, List.length_nil, List.replicate, List.cons_append, List.nil_append, List.getElem?_cons_zero, List.getElem?_cons_succ, List.set_cons_zero, List.set_cons_succ, dSub_int, dFdiv_int, dMod_int, dLt_int, dLe_int, dGt_int, dGe_int, dAddI_int, dSubI_int, dIsN_non, isN, dAdd_int, ll0, ll1, ll2, ll3, ll4, ll5, ll6, ll7, ll8, ll9, ll10, ll11, ll12, ll13, ll14, ll15, ll16, ll17, ll18, ll19, ll20, ll21, ll22, ll23, ll24, ll25, ll26, ll27, ll28, ll29, ll30, ll31, ll32, ll33, ll34, ll35, ll36, ll37, ll38, ll39, ll40, Nat.reduceSub, Nat.reduceAdd, Nat.reduceEqDiff, if_true, if_false, ifp_t, ifp_f, reduceIte, Bool.true_eq_false, Bool.false_eq_true, Option.map_some, Option.map_none, Option.bind_some, Option.bind_none, L1__law_ring, r1, sm, ix, st, hg, h1, h3, decide_true, ho]
      · refine ⟨toks, some (.int r), some (.int over), _, ?_, keep⟩
        simp only [eVar, eC, eOp, eT, eAnd, eOr, eNot, eIf, eAndV, eOrV, eNotV, eCall, aNil, aCons, aStar, sOf, eTup, eFl, eLoc, eSl, oNone, oSome, iOf, eNeg, eChain, eMt, bOf, List.lookup, R.bind_ok, R.bind_er, R.bind_stuck, R.toS_ok, R.toS_er, R.toS_stuck, SR.next_nx, SR.next_rt, SR.next_er, SR.next_bk, SR.next_ct, SR.next_stuck, sNil, sSeq, sBrk, sCnt, sExp, sRet, sRetN, sIf, sSet, sAsg, sAug, sPar2, sPar3, tN, DL.tTup, DL.tNil, DL.tCons, DL.tSub, iSeq, srcOf, iRange1, iRange2, sFor, startD, List.map_cons, List.map_nil, List.length_cons, List.length_nil, List.replicate, List.cons_append, List.nil_append, List.getElem?_cons_zero, List.getElem?_cons_succ, List.set_cons_zero, List.set_cons_succ, dSub_int, dFdiv_int, dMod_int, dLt_int, dLe_int, dGt_int, dGe_int, dAddI_int, dSubI_int, dIsN_non, isN, dAdd_int, ll0, ll1, ll2, ll3, ll4, ll5, ll6, ll7, ll8, ll9, ll10, ll11, ll12, ll13, ll14, ll15, ll16, ll17, ll18, ll19, ll20, ll21, ll22, ll23, ll24, ll25, ll26, ll27, ll28, ll29, ll30, ll31, ll32, ll33, ll34, ll35, ll36, ll37, ll38, ll39, ll40, Nat.reduceSub, Nat.reduceAdd, Nat.reduceEqDiff, if_true, if_false, ifp_t, ifp_f, reduceIte, Bool.true_eq_false, Bool.false_eq_true, Option.map_some, Option.map_none, Option.bind_some, Option.bind_none, L1__law_ring, r1, sm, ix, st, hg, h1, h2, h3, decide_true, decide_false, ho]
    · by_cases h2 : 0 < over
      · by_cases h3 : t < 5
        · refine ⟨toks.set r.toNat (t + 1), some (.int r), some (.int over), _, ?_, put (t + 1) ⟨by have := tm.1; omega, by omega⟩⟩
          simp only [eVar, eC, eOp, eT, eAnd, eOr, eNot, eIf, eAndV, eOrV, eNotV, eCall, aNil, aCons, aStar, sOf, eTup, eFl, eLoc, eSl, oNone, oSome, iOf, eNeg, eChain, eMt, bOf, List.lookup, R.bind_ok, R.bind_er, R.bind_stuck, R.toS_ok, R.toS_er, R.toS_stuck, SR.next_nx, SR.next_rt, SR.next_er, SR.next_bk, SR.next_ct, SR.next_stuck, sNil, sSeq, sBrk, sCnt, sExp, sRet, sRetN, sIf, sSet, sAsg, sAug, sPar2, sPar3, tN, DL.tTup, DL.tNil, DL.tCons, DL.tSub, iSeq, srcOf, iRange1, iRange2, sFor, startD, List.map_cons, List.map_nil, List.length_cons, List.length_nil, List.replicate, List.cons_append, List.nil_append, List.getElem?_cons_zero, List.getElem?_cons_succ, List.set_cons_zero, List.set_cons_succ, dSub_int, dFdiv_int, dMod_int, dLt_int, dLe_int, dGt_int, dGe_int, dAddI_int, dSubI_int, dIsN_non, isN, dAdd_int, ll0, ll1, ll2, ll3, ll4, ll5, ll6, ll7, ll8, ll9, ll10, ll11, ll12, ll13, ll14, ll15, ll16, ll17, ll18, ll19, ll20, ll21, ll22, ll23, ll24, ll25, ll26, ll27, ll28, ll29, ll30, ll31, ll32, ll33, ll34, ll35, ll36, ll37, ll38, ll39, ll40, Nat.reduceSub, Nat.reduceAdd, Nat.reduceEqDiff, if_true, if_false, ifp_t, ifp_f, reduceIte, Bool.true_eq_false, Bool.false_eq_true, Option.map_some, Option.map_none, Option.bind_some, Option.bind_none, L1__law_ring, r1, sm, ix, st, hg, h1, h2, h3, decide_true, decide_false, ho]
        · refine ⟨toks, some (.int r), some (.int over), _, ?_, keep⟩
          simp only [eVar, eC, eOp, eT, eAnd, eOr, eNot, eIf, eAndV, eOrV, eNotV, eCall, aNil, aCons, aStar, sOf, eTup, eFl, eLoc, eSl, oNone, oSome, iOf, eNeg, eChain, eMt, bOf, List.lookup, R.bind_ok, R.bind_er, R.bind_stuck, R.toS_ok, R.toS_er, R.toS_stuck, SR.next_nx, SR.next_rt, SR.next_er, SR.next_bk, SR.next_ct, SR.next_stuck, sNil, sSeq, sBrk, sCnt, sExp, sRet, sRetN, sIf, sSet, sAsg, sAug, sPar2, sPar3, tN, DL.tTup, DL.tNil, DL.tCons, DL.tSub, iSeq, srcOf, iRange1, iRange2, sFor, startD, List.map_cons, List.map_nil, List.length_cons, List.length_nil, List.replicate, List.cons_append, List.nil_append, List.getElem?_cons_zero, List.getElem?_cons_succ, List.set_cons_zero, List.set_cons_succ, dSub_int, dFdiv_int, dMod_int, dLt_int, dLe_int, dGt_int, dGe_int, dAddI_int, dSubI_int, dIsN_non, isN, dAdd_int, ll0, ll1, ll2, ll3, ll4, ll5, ll6, ll7, ll8, ll9, ll10, ll11, ll12, ll13, ll14, ll15, ll16, ll17, ll18, ll19, ll20, ll21, ll22, ll23, ll24, ll25, ll26, ll27, ll28, ll29, ll30, ll31, ll32, ll33, ll34, ll35, ll36, ll37, ll38, ll39, ll40, Nat.reduceSub, Nat.reduceAdd, Nat.reduceEqDiff, if_true, if_false, ifp_t, ifp_f, reduceIte, Bool.true_eq_false, Bool.false_eq_true, Option.map_some, Option.map_none, Option.bind_some, Option.bind_none, L1__law_ring, r1, sm, ix, st, hg, h1, h2, h3, decide_true, decide_false, ho]
      · refine ⟨toks, some (.int r), some (.int over), _, ?_, keep⟩
        simp only [eVar, eC, eOp, eT, eAnd, eOr, eNot, eIf, eAndV, eOrV, eNotV, eCall, aNil, aCons, aStar, sOf, eTup, eFl, eLoc, eSl, oNone, oSome, iOf, eNeg, eChain, eMt, bOf, List.lookup, R.bind_ok, R.bind_er, R.bind_stuck, R.toS_ok, R.toS_er, R.toS_stuck, SR.next_nx, SR.next_rt, SR.next_er, SR.next_bk, SR.next_ct, SR.next_stuck, sNil, sSeq, sBrk, sCnt, sExp, sRet, sRetN, sIf, sSet, sAsg, sAug, sPar2, sPar3, tN, DL.tTup, DL.tNil, DL.tCons, DL.tSub, iSeq, srcOf, iRange1, iRange2, sFor, startD, List.map_cons, List.map_nil, List.length_cons, List.length_nil, List.replicate, List.cons_append, List.nil_append, List.getElem?_cons_zero, List.getElem?_cons_succ, List.set_cons_zero, List.set_cons_succ, dSub_int, dFdiv_int, dMod_int, dLt_int, dLe_int, dGt_int, dGe_int, dAddI_int, dSubI_int, dIsN_non, isN, dAdd_int, ll0, ll1, ll2, ll3, ll4, ll5, ll6, ll7, ll8, ll9, ll10, ll11, ll12, ll13, ll14, ll15, ll16, ll17, ll18, ll19, ll20, ll21, ll22, ll23, ll24, ll25, ll26, ll27, ll28, ll29, ll30, ll31, ll32, ll33, ll34, ll35, ll36, ll37, ll38, ll39, ll40, Nat.reduceSub, Nat.reduceAdd, Nat.reduceEqDiff, if_true, if_false, ifp_t, ifp_f, reduceIte, Bool.true_eq_false, Bool.false_eq_true, Option.map_some, Option.map_none, Option.bind_some, Option.bind_none, L1__law_ring, r1, sm, ix, st, hg, h1, h2, decide_true, decide_false, ho]
  · refine ⟨toks, some (.int r), some (.int over), _, ?_, keep⟩
    simp only [eVar, eC, eOp, eT, eAnd, eOr, eNot, eIf, eAndV, eOrV, eNotV, eCall, aNil, aCons, aStar, sOf, eTup, eFl, eLoc, eSl, oNone, oSome, iOf, eNeg, eChain, eMt, bOf, List.lookup, R.bind_ok, R.bind_er, R.bind_stuck, R.toS_ok, R.toS_er, R.toS_stuck, SR.next_nx, SR.next_rt, SR.next_er, SR.next_bk, SR.next_ct, SR.next_stuck, sNil, sSeq, sBrk, sCnt, sExp, sRet, sRetN, sIf, sSet, sAsg, sAug, sPar2, sPar3, tN, DL.tTup, DL.tNil, DL.tCons, DL.tSub, iSeq, srcOf, iRange1, iRange2, sFor, startD, List.map_cons, List.map_nil, List.length_cons, List.length_nil, List.replicate, List.cons_append, List.nil_append, List.getElem?_cons_zero, List.getElem?_cons_succ, List.set_cons_zero, List.set_cons_succ, dSub_int, dFdiv_int, dMod_int, dLt_int, dLe_int, dGt_int, dGe_int, dAddI_int, dSubI_int, dIsN_non, isN, dAdd_int, ll0, ll1, ll2, ll3, ll4, ll5, ll6, ll7, ll8, ll9, ll10, ll11, ll12, ll13, ll14, ll15, ll16, ll17, ll18, ll19, ll20, ll21, ll22, ll23, ll24, ll25, ll26, ll27, ll28, ll29, ll30, ll31, ll32, ll33, ll34, ll35, ll36, ll37, ll38, ll39, ll40, Nat.reduceSub, Nat.reduceAdd, Nat.reduceEqDiff, if_true, if_false, ifp_t, ifp_f, reduceIte, Bool.true_eq_false, Bool.false_eq_true, Option.map_some, Option.map_none, Option.bind_some, Option.bind_none, L1__law_ring, r1, sm, ix, st, hg, decide_false, ho]
theorem ring_ok {S : Sto} {n : Nat} {rest : Sto} (h : Strm S n rest) {most : Int} (h0 : 0 < most) (h1 : most ≤ 1000) (hn : n + 7000 < 2 ^ 60) :
    ∃ (toks : List Int) (S' : Sto), F__law_ring [.loc 1, .int most] S = .ok (.tup (toks.map D.int)) S' ∧ toks ≠ [] ∧ (toks.length : Int) ≤ most ∧ (∀ t ∈ toks, Arity t) ∧ Strm S' (n + 7000) rest := by
  obtain ⟨m, S1, m1, m2, s1⟩ := pick_fl h (xs := [.fl ([0, 0, 1, 2].map D.int), .fl ([0, 0, 0, 0, 0, 5, 4].map D.int), .fl ([0, 1, 2, 3, 4, 5].map D.int), .fl ([0, 0, 2].map D.int), .fl ([0, 0, 0, 1].map D.int), .fl ([1, 1, 1, 0, 2].map D.int), .fl ([2].map D.int)]) (by simp) (by simp) (by omega)
  obtain ⟨menu, rfl, me, ml, ma⟩ : ∃ menu : List Int, m = .fl (menu.map D.int) ∧ menu ≠ [] ∧ menu.length ≤ 7 ∧ ∀ t ∈ menu, Arity t := by
    have am : ∀ l : List Int, (l.all fun t => decide (0 ≤ t ∧ t ≤ 5)) = true → ∀ t ∈ l, Arity t := fun l hl t ht => by
      have := List.all_eq_true.mp hl t ht
      simpa [Arity] using this
    simp only [List.mem_cons, List.not_mem_nil, or_false] at m2
    rcases m2 with rfl | rfl | rfl | rfl | rfl | rfl | rfl <;> exact ⟨_, rfl, by simp, by simp, am _ (by decide)⟩
  obtain ⟨z, S2, z1, z2, z3, s2⟩ := draw_ok s1 h0 (log2_small 10 (by omega) (by decide) (by decide)) (by omega)
  obtain ⟨size, hsz⟩ : ∃ size : Nat, 1 + z = (size : Int) := ⟨(1 + z).toNat, by omega⟩
  have hr : ((-(2 ^ 62) : Int) ≤ (size : Int) ∧ (size : Int) < 2 ^ 62) = True := by simp; omega
  have hlen : (rangeD 0 size).length = size := by simp [rangeD]
  have key := eLc_strmLoc (src := iRange1 (aCons (eVar 4) aNil)) (T := tN 10) (vs := [10]) (f := E1__law_ring)
    (ρ := [some (.loc 1), some (.int most), some (.fl [.fl ([0, 0, 1, 2].map D.int), .fl ([0, 0, 0, 0, 0, 5, 4].map D.int), .fl ([0, 1, 2, 3, 4, 5].map D.int), .fl ([0, 0, 2].map D.int), .fl ([0, 0, 0, 1].map D.int)]), some (.fl (menu.map D.int)), some (.int size), none, none, none, none, none, none]) (S := S2) (S0 := S2) (n := n + 1 + 1) (rest := rest)
    (rangeD 0 size) (fun d => [some (.loc 1), some (.int most), some (.fl [.fl ([0, 0, 1, 2].map D.int), .fl ([0, 0, 0, 0, 0, 5, 4].map D.int), .fl ([0, 1, 2, 3, 4, 5].map D.int), .fl ([0, 0, 2].map D.int), .fl ([0, 0, 0, 1].map D.int)]), some (.fl (menu.map D.int)), some (.int size), none, none, none, none, none, some d]) 1 (fun y => ∃ i, y = .int i ∧ Arity i) ?_ s2 ?_ ?_ (by rw [hlen]; exact Nat.le_trans (show size ≤ 1000 by omega) (by decide))
  · obtain ⟨ys, S3, e1, e2, e3, s3⟩ := key
    obtain ⟨toks, rfl, ht⟩ := ints_of e3
    rw [hlen] at e2 s3
    rw [List.length_map] at e2
    obtain ⟨a, S4, a1, a2, a3, s4⟩ := draw_ok s3 (m := 3) (by decide) (by decide) (by omega)
    obtain ⟨b, S5, b1, b2, b3, s5⟩ := draw_ok s4 (m := 3) (by decide) (by decide) (by omega)
    obtain ⟨c, S6, c1, c2, c3, s6⟩ := draw_ok s5 (m := 3) (by decide) (by decide) (by omega)
    obtain ⟨goal, hgoal⟩ : ∃ goal : Int, ∀ S, dIx (.fl [.int 99, .int (1 + a), .int (0 - b)]) (.int c) S = .ok (.int goal) S := by
      have : c = 0 ∨ c = 1 ∨ c = 2 := by omega
      rcases this with rfl | rfl | rfl
      · exact ⟨99, fun S => rfl⟩
      · exact ⟨1 + a, fun S => rfl⟩
      · exact ⟨0 - b, fun S => rfl⟩
    have key2 := forD_all (T := tN 7) (B := L1__law_ring) (Z := sNil) (fun i ρ S => (∃ x7 x8 x9, ρ = [some (.loc 1), some (.int most), some (.fl [.fl ([0, 0, 1, 2].map D.int), .fl ([0, 0, 0, 0, 0, 5, 4].map D.int), .fl ([0, 1, 2, 3, 4, 5].map D.int), .fl ([0, 0, 2].map D.int), .fl ([0, 0, 0, 1].map D.int)]), some (.fl (menu.map D.int)), some (.int size), some (.loc (rest.length + 2)), some (.int goal), x7, x8, x9, none]) ∧
        ∃ toks : List Int, Strm S (n + 1 + 1 + size * 1 + 1 + 1 + 1 + i) (rest ++ [.lst (toks.map D.int)]) ∧ (toks.length : Int) = size ∧ ∀ t ∈ toks, Arity t) (rangeD 0 (5 * size)) 0
      [some (.loc 1), some (.int most), some (.fl [.fl ([0, 0, 1, 2].map D.int), .fl ([0, 0, 0, 0, 0, 5, 4].map D.int), .fl ([0, 1, 2, 3, 4, 5].map D.int), .fl ([0, 0, 2].map D.int), .fl ([0, 0, 0, 1].map D.int)]), some (.fl (menu.map D.int)), some (.int size), some (.loc (rest.length + 2)), some (.int goal), none, none, none, none] S6
      ⟨⟨none, none, none, rfl⟩, toks, s6, by omega, ht⟩ ?_
    · obtain ⟨ρ', S7, ⟨⟨x7, x8, x9, rfl⟩, toks', s7, l7, t7⟩, hf⟩ := key2
      have hl5 : (rangeD 0 (5 * size)).length = 5 * size := by simp [rangeD]
      rw [hl5] at s7
      obtain ⟨q1, q2⟩ := h.trunc s7
      refine ⟨toks', S7.take S.length, ?_, ?_, by omega, t7, q2.mono (by omega)⟩
      · unfold F__law_ring fnC
        rw [if_pos (show [D.loc 1, D.int most].length = 2 from rfl)]
        have hst : startD 11 [D.loc 1, D.int most] = [some (.loc 1), some (.int most), none, none, none, none, none, none, none, none, none] := rfl
        rw [hst]
        have tp : bTuple [.loc (rest.length + 2)] S7 = .ok (.tup (toks'.map D.int)) S7 := bTuple_loc s7.getQ_end
        have hadd : ∀ S, dAdd (.fl [.fl [.int 0, .int 0, .int 1, .int 2], .fl [.int 0, .int 0, .int 0, .int 0, .int 0, .int 5, .int 4], .fl [.int 0, .int 1, .int 2, .int 3, .int 4, .int 5], .fl [.int 0, .int 0, .int 2], .fl [.int 0, .int 0, .int 0, .int 1]]) (.fl [.fl [.int 1, .int 1, .int 1, .int 0, .int 2], .fl [.int 2]]) S
            = .ok (.fl [.fl ([0, 0, 1, 2].map D.int), .fl ([0, 0, 0, 0, 0, 5, 4].map D.int), .fl ([0, 1, 2, 3, 4, 5].map D.int), .fl ([0, 0, 2].map D.int), .fl ([0, 0, 0, 1].map D.int), .fl ([1, 1, 1, 0, 2].map D.int), .fl ([2].map D.int)]) S := fun S => ifp_pos (show 5 + 2 ≤ sizeLine by decide)
        have hmul : ∀ S, dMul (.int 5) (.int (size : Int)) S = .ok (.int (5 * (size : Int))) S := fun S => mul_small (by omega) S
        have hr5 : ((-(2 ^ 62) : Int) ≤ 5 * (size : Int) ∧ 5 * (size : Int) < 2 ^ 62) = True := by simp; omega
        have ht5 : (5 * (size : Int)).toNat = 5 * size := by omega
        have e1' := e1
        simp only [List.map_cons, List.map_nil] at e1' hf m1 hadd
        have hB : B__law_ring [some (.loc 1), some (.int most), none, none, none, none, none, none, none, none, none] S = .rt (.tup (toks'.map D.int)) S7 := by
          unfold B__law_ring
          simp only [eVar, eC, eOp, eT, eAnd, eOr, eNot, eIf, eAndV, eOrV, eNotV, eCall, aNil, aCons, aStar, sOf, eTup, eFl, eLoc, eSl, oNone, oSome, iOf, eNeg, eChain, eMt, bOf, List.lookup, R.bind_ok, R.bind_er, R.bind_stuck, R.toS_ok, R.toS_er, R.toS_stuck, SR.next_nx, SR.next_rt, SR.next_er, SR.next_bk, SR.next_ct, SR.next_stuck, sNil, sSeq, sBrk, sCnt, sExp, sRet, sRetN, sIf, sSet, sAsg, sAug, sPar2, sPar3, tN, DL.tTup, DL.tNil, DL.tCons, DL.tSub, iSeq, srcOf, iRange1, iRange2, sFor, startD, List.map_cons, List.map_nil, List.length_cons, List.length_nil, List.replicate, List.cons_append, List.nil_append, List.getElem?_cons_zero, List.getElem?_cons_succ, List.set_cons_zero, List.set_cons_succ, dSub_int, dFdiv_int, dMod_int, dLt_int, dLe_int, dGt_int, dGe_int, dAddI_int, dSubI_int, dIsN_non, isN, dAdd_int, ll0, ll1, ll2, ll3, ll4, ll5, ll6, ll7, ll8, ll9, ll10, ll11, ll12, ll13, ll14, ll15, ll16, ll17, ll18, ll19, ll20, ll21, ll22, ll23, ll24, ll25, ll26, ll27, ll28, ll29, ll30, ll31, ll32, ll33, ll34, ll35, ll36, ll37, ll38, ll39, ll40, Nat.reduceSub, Nat.reduceAdd, Nat.reduceEqDiff, if_true, if_false, ifp_t, ifp_f, reduceIte, Bool.true_eq_false, Bool.false_eq_true, Option.map_some, Option.map_none, Option.bind_some, Option.bind_none, hadd, m1, z1, hsz, e1', a1, b1, c1, hgoal, hmul, hr5, ht5, hf, tp]
        rw [hB]
        show close S (.tup (toks'.map D.int)) S7 = _
        unfold close
        rw [if_neg (by rw [s7.len, h.len]; simp), if_pos ⟨q1, by simp [low, lowL_ints]⟩]
      · intro hc; rw [hc] at l7; simp at l7; omega
    · rintro j d ρ S hj ⟨⟨x7, x8, x9, rfl⟩, tk, sj, lj, tj⟩
      obtain ⟨hj, rfl⟩ := rangeD_get hj
      obtain ⟨toks', y8, y9, S', g1, g2, g3, g4⟩ := ring_step sj lj tj (by omega) (by omega) (by omega) (some (.int most)) _ (some (.fl (menu.map D.int))) (some (.int (0 + (j : Int)))) x8 x9 none
      exact ⟨_, _, _, S', rfl, .inl g1, ⟨_, _, _, rfl⟩, toks', g2.mono (by omega), g3, g4⟩
  · simp only [eVar, eC, eOp, eT, eAnd, eOr, eNot, eIf, eAndV, eOrV, eNotV, eCall, aNil, aCons, aStar, sOf, eTup, eFl, eLoc, eSl, oNone, oSome, iOf, eNeg, eChain, eMt, bOf, List.lookup, R.bind_ok, R.bind_er, R.bind_stuck, R.toS_ok, R.toS_er, R.toS_stuck, SR.next_nx, SR.next_rt, SR.next_er, SR.next_bk, SR.next_ct, SR.next_stuck, sNil, sSeq, sBrk, sCnt, sExp, sRet, sRetN, sIf, sSet, sAsg, sAug, sPar2, sPar3, tN, DL.tTup, DL.tNil, DL.tCons, DL.tSub, iSeq, srcOf, iRange1, iRange2, sFor, startD, List.map_cons, List.map_nil, List.length_cons, List.length_nil, List.replicate, List.cons_append, List.nil_append, List.getElem?_cons_zero, List.getElem?_cons_succ, List.set_cons_zero, List.set_cons_succ, dSub_int, dFdiv_int, dMod_int, dLt_int, dLe_int, dGt_int, dGe_int, dAddI_int, dSubI_int, dIsN_non, isN, dAdd_int, ll0, ll1, ll2, ll3, ll4, ll5, ll6, ll7, ll8, ll9, ll10, ll11, ll12, ll13, ll14, ll15, ll16, ll17, ll18, ll19, ll20, ll21, ll22, ll23, ll24, ll25, ll26, ll27, ll28, ll29, ll30, ll31, ll32, ll33, ll34, ll35, ll36, ll37, ll38, ll39, ll40, Nat.reduceSub, Nat.reduceAdd, Nat.reduceEqDiff, if_true, if_false, ifp_t, ifp_f, reduceIte, Bool.true_eq_false, Bool.false_eq_true, Option.map_some, Option.map_none, Option.bind_some, Option.bind_none, hr]
    rfl
  · intro d hd S'; rfl
  · intro d hd S' m l hm hS'
    rw [hlen] at hm
    obtain ⟨y, S'', p1, p2, p3⟩ := pick_fl hS' (xs := menu.map D.int) (by simpa using me) (by simp; omega) (by omega)
    refine ⟨y, S'', ?_, ?_, p3⟩
    · simp only [eVar, eC, eOp, eT, eAnd, eOr, eNot, eIf, eAndV, eOrV, eNotV, eCall, aNil, aCons, aStar, sOf, eTup, eFl, eLoc, eSl, oNone, oSome, iOf, eNeg, eChain, eMt, bOf, List.lookup, R.bind_ok, R.bind_er, R.bind_stuck, R.toS_ok, R.toS_er, R.toS_stuck, SR.next_nx, SR.next_rt, SR.next_er, SR.next_bk, SR.next_ct, SR.next_stuck, sNil, sSeq, sBrk, sCnt, sExp, sRet, sRetN, sIf, sSet, sAsg, sAug, sPar2, sPar3, tN, DL.tTup, DL.tNil, DL.tCons, DL.tSub, iSeq, srcOf, iRange1, iRange2, sFor, startD, List.map_cons, List.map_nil, List.length_cons, List.length_nil, List.replicate, List.cons_append, List.nil_append, List.getElem?_cons_zero, List.getElem?_cons_succ, List.set_cons_zero, List.set_cons_succ, dSub_int, dFdiv_int, dMod_int, dLt_int, dLe_int, dGt_int, dGe_int, dAddI_int, dSubI_int, dIsN_non, isN, dAdd_int, ll0, ll1, ll2, ll3, ll4, ll5, ll6, ll7, ll8, ll9, ll10, ll11, ll12, ll13, ll14, ll15, ll16, ll17, ll18, ll19, ll20, ll21, ll22, ll23, ll24, ll25, ll26, ll27, ll28, ll29, ll30, ll31, ll32, ll33, ll34, ll35, ll36, ll37, ll38, ll39, ll40, Nat.reduceSub, Nat.reduceAdd, Nat.reduceEqDiff, if_true, if_false, ifp_t, ifp_f, reduceIte, Bool.true_eq_false, Bool.false_eq_true, Option.map_some, Option.map_none, Option.bind_some, Option.bind_none, E1__law_ring, p1]
    · obtain ⟨i, hi, rfl⟩ := List.mem_map.mp p2
      exact ⟨i, rfl, ma i hi⟩
end DL

/-! Plain reckoning of rows: heights, needs, turned rows, and how many beginnings there are. -/
namespace DL
/-- one token read: the height, and what was missing so far -/
def stp (s : Int × Int) (t : Int) : Int × Int := (s.1 + (1 - t), max s.2 (1 - (s.1 + (1 - t))))
def hts : Int → List Int → List Int
  | _, [] => []
  | h, t :: l => (h + (1 - t)) :: hts (h + (1 - t)) l
/-- the need of a row -/
def ne (l : List Int) : Int := (l.foldl stp (0, 0)).2
/-- the height behind a row -/
def ht (l : List Int) : Int := (l.foldl stp (0, 0)).1
theorem stp_fst : ∀ (l : List Int) (s : Int × Int), (l.foldl stp s).1 = s.1 + l.length - l.sum
  | [], s => by simp
  | t :: l, s => by
    rw [List.foldl_cons, stp_fst l]
    simp [stp]; omega
theorem ht_eq (l : List Int) : ht l = l.length - l.sum := by unfold ht; rw [stp_fst]; simp
theorem hts_length : ∀ (l : List Int) (h : Int), (hts h l).length = l.length
  | [], _ => rfl
  | t :: l, h => by simp [hts, hts_length l]
theorem hts_min : ∀ (l : List Int) (h m : Int), (hts h l).foldl min (1 - m) = 1 - (l.foldl stp (h, m)).2
  | [], h, m => rfl
  | t :: l, h, m => by
    have e : min (1 - m) (h + (1 - t)) = 1 - max m (1 - (h + (1 - t))) := by omega
    rw [hts, List.foldl_cons, List.foldl_cons, e, hts_min l]
    rfl
theorem stp_mono : ∀ (l : List Int) (s : Int × Int), s.2 ≤ (l.foldl stp s).2
  | [], s => Int.le_refl _
  | t :: l, s => by
    have := stp_mono l (stp s t)
    rw [List.foldl_cons]
    simp only [stp] at this ⊢
    omega
theorem ne_nn (l : List Int) : 0 ≤ ne l := stp_mono l (0, 0)
def rot {α : Type} (l : List α) (p : Nat) : List α := l.drop p ++ l.take p
theorem rot_length {α : Type} (l : List α) (p : Nat) (h : p ≤ l.length) : (rot l p).length = l.length := by
  unfold rot; simp; omega
theorem rot_mem {α : Type} {l : List α} {p : Nat} {x : α} (h : x ∈ rot l p) : x ∈ l := by
  unfold rot at h
  rcases List.mem_append.mp h with h | h
  · exact List.mem_of_mem_drop h
  · exact List.mem_of_mem_take h
theorem rot_get {α : Type} (l : List α) (p k : Nat) (hp : p ≤ l.length) (hk : k < l.length) : (rot l p)[k]? = l[(p + k) % l.length]? := by
  unfold rot
  by_cases h : p + k < l.length
  · rw [List.getElem?_append_left (by simp; omega), List.getElem?_drop, Nat.mod_eq_of_lt h]
  · have e : (p + k) % l.length = p + k - l.length := by
      rw [Nat.mod_eq_sub_mod (by omega), Nat.mod_eq_of_lt (by omega)]
    rw [List.getElem?_append_right (by simp; omega), e, List.getElem?_take, if_pos (by simp; omega)]
    congr 1
    simp; omega
/-- the tokens round and round -/
def tk (l : List Int) (j : Nat) : Int := (l[j % l.length]?).getD 0
/-- the height behind i tokens, round and round -/
def hh (l : List Int) : Nat → Int
  | 0 => 0
  | i + 1 => hh l i + (1 - tk l i)
theorem hh_round (l : List Int) (c : Int) (hc : hh l l.length = c) : ∀ j, hh l (j + l.length) = hh l j + c
  | 0 => by simp [hc, hh]
  | j + 1 => by
    have e : j + 1 + l.length = (j + l.length) + 1 := by omega
    have e2 : tk l (j + l.length) = tk l j := by unfold tk; rw [Nat.add_mod_right]
    rw [e, hh, hh_round l c hc j, e2, hh]; omega
theorem take_succ' {l : List Int} {k : Nat} {t : Int} (h : l[k]? = some t) : l.take (k + 1) = l.take k ++ [t] := by
  obtain ⟨hk, rfl⟩ := List.getElem?_eq_some_iff.mp h
  rw [List.take_succ_eq_append_getElem hk]
/-- a prefix of a turned row -/
theorem rot_pre (l : List Int) (p : Nat) (hp : p ≤ l.length) (s : Int × Int) : ∀ k, k ≤ l.length → ((rot l p).take k |>.foldl stp s).1 = s.1 + hh l (p + k) - hh l p
  | 0, _ => by simp
  | k + 1, hk => by
    have hk' : k < l.length := by omega
    have hg := rot_get l p k hp hk'
    have hm : (p + k) % l.length < l.length := Nat.mod_lt _ (by omega)
    rw [List.getElem?_eq_getElem hm] at hg
    rw [take_succ' hg, List.foldl_append]
    show ((rot l p).take k |>.foldl stp s).1 + (1 - _) = _
    rw [rot_pre l p hp s k (by omega)]
    have e : tk l (p + k) = l[(p + k) % l.length] := by unfold tk; rw [List.getElem?_eq_getElem hm]; rfl
    show _ = s.1 + (hh l (p + k) + (1 - tk l (p + k))) - hh l p
    rw [e]; omega
theorem ne_zero_iff (l : List Int) : ∀ (s : Int × Int), s.2 = 0 → ((l.foldl stp s).2 = 0 ↔ ∀ k, k < l.length → 1 ≤ ((l.take (k + 1)).foldl stp s).1) := by
  induction l with
  | nil => intro s hs; simp [hs]
  | cons t l ih =>
    intro s hs
    rw [List.foldl_cons]
    by_cases h : 1 ≤ s.1 + (1 - t)
    · have e : (stp s t).2 = 0 := by simp only [stp]; omega
      rw [ih (stp s t) e]
      constructor
      · intro H k hk
        cases k with
        | zero => simpa [stp] using h
        | succ k => exact H k (by simpa using hk)
      · intro H k hk
        exact H (k + 1) (by simpa using hk)
    · constructor
      · intro H
        have := stp_mono l (stp s t)
        simp only [stp] at this
        have H' : (l.foldl stp (s.1 + (1 - t), max s.2 (1 - (s.1 + (1 - t))))).2 = 0 := H
        omega
      · intro H
        have := H 0 (by simp)
        simp [stp] at this
        omega
/-- nothing is missing from p on exactly if all later heights are greater -/
theorem need0_iff (l : List Int) (p : Nat) (hp : p ≤ l.length) : ne (rot l p) = 0 ↔ ∀ k, k < l.length → hh l p < hh l (p + (k + 1)) := by
  unfold ne
  rw [ne_zero_iff (rot l p) (0, 0) rfl, rot_length l p hp]
  constructor
  · intro H k hk
    have := H k hk
    rw [rot_pre l p hp (0, 0) (k + 1) (by omega)] at this
    simp at this; omega
  · intro H k hk
    have := H k hk
    rw [rot_pre l p hp (0, 0) (k + 1) (by omega)]
    simp; omega
/-- the least of f p .. f (p + k) -/
def mn (f : Nat → Int) : Nat → Nat → Int
  | p, 0 => f p
  | p, k + 1 => min (f p) (mn f (p + 1) k)
theorem mn_le (f : Nat → Int) : ∀ (k p j : Nat), j ≤ k → mn f p k ≤ f (p + j)
  | 0, p, j, h => by
    have : j = 0 := by omega
    subst this; exact Int.le_refl _
  | k + 1, p, 0, _ => by rw [mn]; simp; omega
  | k + 1, p, j + 1, h => by
    have := mn_le f k (p + 1) j (by omega)
    have e : p + (j + 1) = p + 1 + j := by omega
    rw [mn, e]; omega
theorem mn_snoc (f : Nat → Int) : ∀ (k p : Nat), mn f p (k + 1) = min (mn f p k) (f (p + (k + 1)))
  | 0, p => rfl
  | k + 1, p => by
    have e : p + (k + 1 + 1) = p + 1 + (k + 1) := by omega
    rw [mn, mn_snoc f k (p + 1), mn, e]; omega
theorem lt_mn (f : Nat → Int) (x : Int) : ∀ (k p : Nat), x < mn f p k ↔ ∀ j, j ≤ k → x < f (p + j)
  | 0, p => by
    constructor
    · intro h j hj
      have : j = 0 := by omega
      subst this; exact h
    · intro h; exact h 0 (Nat.le_refl _)
  | k + 1, p => by
    rw [mn]
    have ih := lt_mn f x k (p + 1)
    constructor
    · intro h j hj
      cases j with
      | zero => have : x < f p := by omega
                exact this
      | succ j =>
        have := ih.mp (by omega) j (by omega)
        have e : p + (j + 1) = p + 1 + j := by omega
        rw [e]; exact this
    · intro h
      have h0 := h 0 (by omega)
      have h1 := ih.mpr fun j hj => by
        have := h (j + 1) (by omega)
        have e : p + (j + 1) = p + 1 + j := by omega
        rw [e] at this; exact this
      simp only [Nat.add_zero] at h0
      omega
theorem mn_shift (f : Nat → Int) (n : Nat) (c : Int) (h : ∀ j, f (j + n) = f j + c) : ∀ (k p : Nat), mn f (p + n) k = mn f p k + c
  | 0, p => h p
  | k + 1, p => by
    have e : p + n + 1 = p + 1 + n := by omega
    rw [mn, h p, e, mn_shift f n c h k (p + 1), mn]; omega
theorem hh_len (l : List Int) : hh l l.length = l.length - l.sum := by
  have h := rot_pre l 0 (Nat.zero_le _) (0, 0) l.length (Nat.le_refl _)
  have e : rot l 0 = l := by simp [rot]
  rw [e, List.take_length, stp_fst] at h
  simp [hh] at h; omega
/-- the places from which nothing is missing -/
def begs (l : List Int) : List Nat := (List.range l.length).filter fun p => decide (ne (rot l p) = 0)
theorem begs_count {l : List Int} (hl : ∀ t ∈ l, 0 ≤ t) : ((begs l).length : Int) = max 0 (l.length - l.sum) := by
  by_cases hn : l = []
  · subst hn; simp [begs]
  have hpos : 0 < l.length := List.length_pos_iff.mpr hn
  have hc := hh_len l
  by_cases hp : (l.length : Int) - l.sum ≤ 0
  · have : begs l = [] := by
      unfold begs
      rw [List.filter_eq_nil_iff]
      intro p hm
      simp only [List.mem_range] at hm
      simp only [decide_eq_true_eq]
      intro h
      have := (need0_iff l p (by omega)).mp h (l.length - 1) (by omega)
      have e : p + (l.length - 1 + 1) = p + l.length := by omega
      rw [e, hh_round l _ hc p] at this
      omega
    rw [this]; simp; omega
  · obtain ⟨n, hn'⟩ : ∃ n, l.length = n + 1 := ⟨l.length - 1, by omega⟩
    have up : ∀ p, hh l (p + 1) ≤ hh l p + 1 := fun p => by
      have : 0 ≤ tk l p := by
        unfold tk
        rw [List.getElem?_eq_getElem (Nat.mod_lt _ hpos)]
        exact hl _ (List.getElem_mem _)
      rw [hh]; omega
    have key : ∀ p, mn (hh l) (p + 1) l.length = mn (hh l) (p + 1) n := fun p => by
      have a := mn_snoc (hh l) n (p + 1)
      have b := mn_le (hh l) n (p + 1) 0 (Nat.zero_le _)
      have r := hh_round l _ hc (p + 1)
      have e : p + 1 + (n + 1) = p + 1 + l.length := by omega
      rw [e, r] at a
      rw [hn', a]
      simp only [Nat.add_zero] at b
      rw [hn'] at hp hc
      omega
    have step : ∀ p, mn (hh l) p l.length = min (hh l p) (mn (hh l) (p + 1) l.length) := fun p => by
      rw [key p, hn']; rfl
    have good : ∀ p, p ≤ l.length → (ne (rot l p) = 0 ↔ hh l p < mn (hh l) (p + 1) l.length) := fun p hp => by
      rw [need0_iff l p hp, key p, lt_mn]
      constructor
      · intro H j hj
        have := H j (by omega)
        have e : p + (j + 1) = p + 1 + j := by omega
        rw [e] at this; exact this
      · intro H k hk
        have := H k (by omega)
        have e : p + (k + 1) = p + 1 + k := by omega
        rw [e]; exact this
    have cnt : ∀ q, q ≤ l.length → ((((List.range q).filter fun p => decide (ne (rot l p) = 0)).length : Nat) : Int) = mn (hh l) q l.length - mn (hh l) 0 l.length := by
      intro q
      induction q with
      | zero => intro _; simp
      | succ q ih =>
        intro hq
        rw [List.range_succ, List.filter_append, List.length_append]
        have i1 := ih (by omega)
        have g := good q (by omega)
        have s := step q
        have u := up q
        have m0 := mn_le (hh l) l.length (q + 1) 0 (Nat.zero_le _)
        simp only [Nat.add_zero] at m0
        by_cases h : ne (rot l q) = 0
        · have := g.mp h
          simp only [List.filter_cons, h, decide_true, List.filter_nil, if_true, List.length_cons, List.length_nil]
          omega
        · have := mt g.mpr h
          simp only [List.filter_cons, h, decide_false, List.filter_nil, List.length_nil]
          have e : (if false = true then [q] else []).length = 0 := rfl
          omega
    have := cnt l.length (Nat.le_refl _)
    have sh := mn_shift (hh l) l.length _ (fun j => hh_round l _ hc j) l.length 0
    rw [Nat.zero_add] at sh
    unfold begs
    rw [this, sh]
    omega
end DL

/-! What the helpers about rows answer. -/
namespace DL
open PySem PySem.Spec L2
open PyProof.Rows hiding St
def ti (l : List Int) : D := .tup (l.map D.int)
theorem fnC_cut {n m : Nat} {B : Ev → Sto → SR} {ds : List D} {S S' : Sto} {d : D} {l : Sto} (hm : ds.length = m) (h : B (startD n ds) S = .rt d S') (hS : S' = S ++ l) (hl : low S.length d = true) : fnC close n m B ds S = .ok d S := by
  unfold fnC
  rw [if_pos hm, h]
  show close S d S' = _
  subst hS
  unfold close
  split
  · rename_i h; have : l = [] := by simpa using h
    subst this; simp
  · rw [if_pos ⟨Trunc.same _ _, hl⟩]; simp
theorem getL_endS (S : Sto) (ds : List D) : getL (S ++ [.lst ds]) S.length = some ds := getL_end S ds
theorem append_end (S : Sto) (acc : List D) (d : D) (h : acc.length < sizeLine) : mAppend (.loc S.length) [d] (S ++ [.lst acc]) = .ok .non (S ++ [.lst (acc ++ [d])]) := by
  unfold mAppend
  simp only [getL_end]
  rw [ifp_pos h, set_end]
theorem isLst_end (S : Sto) (acc : List D) : isLst (S ++ [.lst acc]) (.loc S.length) = true := by
  unfold isLst
  rw [show lstOf (S ++ [.lst acc]) (.loc S.length) = some acc from getL_end S acc]; rfl
theorem heights_loop (x0 : Option D) (S : Sto) : ∀ (l : List Int) (acc : List Int) (h : Int) (x3 : Option D), acc.length + l.length ≤ sizeLine →
    ∃ y2 y3, forD yes (tN 3) L1_heights_of sNil (l.map D.int) [x0, some (.loc S.length), some (.int h), x3] (S ++ [.lst (acc.map D.int)]) = .nx [x0, some (.loc S.length), y2, y3] (S ++ [.lst ((acc ++ hts h l).map D.int)])
  | [], acc, h, x3, _ => ⟨some (.int h), x3, by rw [List.map_nil, forD_nil trivial, hts, List.append_nil]; rfl⟩
  | t :: l, acc, h, x3, hl => by
    have hl' : acc.length + (l.length + 1) ≤ sizeLine := hl
    obtain ⟨y2, y3, e⟩ := heights_loop x0 S l (acc ++ [h + (1 - t)]) (h + (1 - t)) (some (.int t)) (by simp; omega)
    refine ⟨y2, y3, ?_⟩
    rw [List.map_cons, forD_cons (ρ1 := [x0, some (.loc S.length), some (.int h), some (.int t)]) (S1 := S ++ [.lst (acc.map D.int)]) (ρ2 := [x0, some (.loc S.length), some (.int (h + (1 - t))), some (.int t)]) (S2 := S ++ [.lst ((acc ++ [h + (1 - t)]).map D.int)]) trivial rfl ?_]
    · rw [e, hts]; simp
    · have ap := append_end S (acc.map D.int) (.int (h + (1 - t))) (by rw [List.length_map]; omega)
      simp only [eVar, eC, eOp, eT, eAnd, eOr, eNot, eIf, eAndV, eOrV, eNotV, eCall, aNil, aCons, aStar, sOf, eTup, eFl, eLoc, eSl, oNone, oSome, iOf, eNeg, eChain, eMt, bOf, List.lookup, R.bind_ok, R.bind_er, R.bind_stuck, R.toS_ok, R.toS_er, R.toS_stuck, SR.next_nx, SR.next_rt, SR.next_er, SR.next_bk, SR.next_ct, SR.next_stuck, sNil, sSeq, sBrk, sCnt, sExp, sRet, sRetN, sIf, sSet, sAsg, sAug, sPar2, sPar3, tN, DL.tTup, DL.tNil, DL.tCons, DL.tSub, iSeq, srcOf, iRange1, iRange2, sFor, startD, List.map_cons, List.map_nil, List.length_cons, List.length_nil, List.replicate, List.cons_append, List.nil_append, List.getElem?_cons_zero, List.getElem?_cons_succ, List.set_cons_zero, List.set_cons_succ, dSub_int, dFdiv_int, dMod_int, dLt_int, dLe_int, dGt_int, dGe_int, dAddI_int, dSubI_int, dIsN_non, isN, dAdd_int, ll0, ll1, ll2, ll3, ll4, ll5, ll6, ll7, ll8, ll9, ll10, ll11, ll12, ll13, ll14, ll15, ll16, ll17, ll18, ll19, ll20, ll21, ll22, ll23, ll24, ll25, ll26, ll27, ll28, ll29, ll30, ll31, ll32, ll33, ll34, ll35, ll36, ll37, ll38, ll39, ll40, Nat.reduceSub, Nat.reduceAdd, Nat.reduceEqDiff, if_true, if_false, ifp_t, ifp_f, reduceIte, Bool.true_eq_false, Bool.false_eq_true, Option.map_some, Option.map_none, Option.bind_some, Option.bind_none, L1_heights_of, isLst_end, ap]
      simp
theorem heights_ok (l : List Int) (hl : l.length ≤ sizeLine) (S : Sto) : F_heights_of [ti l] S = .ok (ti (hts 0 l)) S := by
  obtain ⟨y2, y3, h⟩ := heights_loop (some (ti l)) S l [] 0 none (by simpa using hl)
  refine fnC_cut (l := [.lst ((hts 0 l).map D.int)]) (S' := S ++ [.lst ((hts 0 l).map D.int)]) rfl ?_ rfl (by simp [ti, low, lowL_ints])
  unfold B_heights_of
  have tp : bTuple [.loc S.length] (S ++ [.lst ((hts 0 l).map D.int)]) = .ok (ti (hts 0 l)) (S ++ [.lst ((hts 0 l).map D.int)]) := bTuple_loc (getQ_end _ _)
  simp only [List.nil_append, List.map_nil] at h
  have e0 : ti l = .tup (l.map D.int) := rfl
  rw [e0] at h ⊢
  simp only [eVar, eC, eOp, eT, eAnd, eOr, eNot, eIf, eAndV, eOrV, eNotV, eCall, aNil, aCons, aStar, sOf, eTup, eFl, eLoc, eSl, oNone, oSome, iOf, eNeg, eChain, eMt, bOf, List.lookup, R.bind_ok, R.bind_er, R.bind_stuck, R.toS_ok, R.toS_er, R.toS_stuck, SR.next_nx, SR.next_rt, SR.next_er, SR.next_bk, SR.next_ct, SR.next_stuck, sNil, sSeq, sBrk, sCnt, sExp, sRet, sRetN, sIf, sSet, sAsg, sAug, sPar2, sPar3, tN, DL.tTup, DL.tNil, DL.tCons, DL.tSub, iSeq, srcOf, iRange1, iRange2, sFor, startD, List.map_cons, List.map_nil, List.length_cons, List.length_nil, List.replicate, List.cons_append, List.nil_append, List.getElem?_cons_zero, List.getElem?_cons_succ, List.set_cons_zero, List.set_cons_succ, dSub_int, dFdiv_int, dMod_int, dLt_int, dLe_int, dGt_int, dGe_int, dAddI_int, dSubI_int, dIsN_non, isN, dAdd_int, ll0, ll1, ll2, ll3, ll4, ll5, ll6, ll7, ll8, ll9, ll10, ll11, ll12, ll13, ll14, ll15, ll16, ll17, ll18, ll19, ll20, ll21, ll22, ll23, ll24, ll25, ll26, ll27, ll28, ll29, ll30, ll31, ll32, ll33, ll34, ll35, ll36, ll37, ll38, ll39, ll40, Nat.reduceSub, Nat.reduceAdd, Nat.reduceEqDiff, if_true, if_false, ifp_t, ifp_f, reduceIte, Bool.true_eq_false, Bool.false_eq_true, Option.map_some, Option.map_none, Option.bind_some, Option.bind_none, mkLoc, h, tp]
theorem ti_len (l : List Int) (S : Sto) : bLen [ti l] S = .ok (.int l.length) S := by
  show R.ok (D.int ((l.map D.int).length : Nat)) S = _
  rw [List.length_map]
theorem ti_sum (l : List Int) (S : Sto) : bSum2 [ti l] S = .ok (.int l.sum) S := bSum2_tup l S
theorem need_of_ok (l : List Int) (hl : l.length < 10 ^ 6) (S : Sto) : F_need_of [ti l] S = .ok (.int (ne l)) S := by
  refine fnC_rt rfl ?_ rfl
  unfold B_need_of
  have hb : ∀ S, bList mkFl [ti (hts 0 l)] S = .ok (.fl ((hts 0 l).map D.int)) S := fun S => rfl
  have ha : ∀ S, dAdd (.fl [.int 1]) (.fl ((hts 0 l).map D.int)) S = .ok (.fl (.int 1 :: (hts 0 l).map D.int)) S := fun S => by
    show ifp ([D.int 1].length + ((hts 0 l).map D.int).length ≤ sizeLine) (R.ok (D.fl ([D.int 1] ++ (hts 0 l).map D.int)) S) .stuck = _
    rw [ifp_pos]; rfl
    rw [List.length_map, hts_length]
    exact Nat.le_trans (show 1 + l.length ≤ 10 ^ 6 by omega) (by decide)
  have hm : ∀ S, bMin [.fl (.int 1 :: (hts 0 l).map D.int)] S = .ok (.int (1 - ne l)) S := fun S => by
    rw [← List.map_cons]
    unfold bMin
    simp only [lstOf, Option.bind_some, intsOf_map]
    rw [if_neg (by simp)]
    show R.ok (D.int ((hts 0 l).foldl min 1)) S = _
    have := hts_min l 0 0
    simp only [Int.sub_zero] at this
    rw [this]; rfl
  simp only [eVar, eC, eOp, eT, eAnd, eOr, eNot, eIf, eAndV, eOrV, eNotV, eCall, aNil, aCons, aStar, sOf, eTup, eFl, eLoc, eSl, oNone, oSome, iOf, eNeg, eChain, eMt, bOf, List.lookup, R.bind_ok, R.bind_er, R.bind_stuck, R.toS_ok, R.toS_er, R.toS_stuck, SR.next_nx, SR.next_rt, SR.next_er, SR.next_bk, SR.next_ct, SR.next_stuck, sNil, sSeq, sBrk, sCnt, sExp, sRet, sRetN, sIf, sSet, sAsg, sAug, sPar2, sPar3, tN, DL.tTup, DL.tNil, DL.tCons, DL.tSub, iSeq, srcOf, iRange1, iRange2, sFor, startD, List.map_cons, List.map_nil, List.length_cons, List.length_nil, List.replicate, List.cons_append, List.nil_append, List.getElem?_cons_zero, List.getElem?_cons_succ, List.set_cons_zero, List.set_cons_succ, dSub_int, dFdiv_int, dMod_int, dLt_int, dLe_int, dGt_int, dGe_int, dAddI_int, dSubI_int, dIsN_non, isN, dAdd_int, ll0, ll1, ll2, ll3, ll4, ll5, ll6, ll7, ll8, ll9, ll10, ll11, ll12, ll13, ll14, ll15, ll16, ll17, ll18, ll19, ll20, ll21, ll22, ll23, ll24, ll25, ll26, ll27, ll28, ll29, ll30, ll31, ll32, ll33, ll34, ll35, ll36, ll37, ll38, ll39, ll40, Nat.reduceSub, Nat.reduceAdd, Nat.reduceEqDiff, if_true, if_false, ifp_t, ifp_f, reduceIte, Bool.true_eq_false, Bool.false_eq_true, Option.map_some, Option.map_none, Option.bind_some, Option.bind_none, heights_ok l (Nat.le_trans (Nat.le_of_lt hl) (by decide)), hb, ha, hm]
  have : 1 - (1 - ne l) = ne l := by omega
  rw [this]
theorem missing_loop (x0 : Option D) : ∀ (l : List Int) (h m : Int) (x3 : Option D) (S : Sto), ∃ y3, forD yes (tN 3) L1__law_missing sNil (l.map D.int) [x0, some (.int (h + m)), some (.int m), x3] S = .nx [x0, some (.int ((l.foldl stp (h, m)).1 + (l.foldl stp (h, m)).2)), some (.int (l.foldl stp (h, m)).2), y3] S
  | [], h, m, x3, S => ⟨x3, forD_nil trivial⟩
  | t :: l, h, m, x3, S => by
    obtain ⟨y3, e⟩ := missing_loop x0 l (h + (1 - t)) (max m (1 - (h + (1 - t)))) (some (.int t)) S
    refine ⟨y3, ?_⟩
    rw [List.map_cons, forD_cons (ρ1 := [x0, some (.int (h + m)), some (.int m), some (.int t)]) (S1 := S) (ρ2 := [x0, some (.int (h + (1 - t) + max m (1 - (h + (1 - t))))), some (.int (max m (1 - (h + (1 - t))))), some (.int t)]) (S2 := S) trivial rfl ?_]
    · exact e
    · by_cases hl : h + m < t
      · simp only [eVar, eC, eOp, eT, eAnd, eOr, eNot, eIf, eAndV, eOrV, eNotV, eCall, aNil, aCons, aStar, sOf, eTup, eFl, eLoc, eSl, oNone, oSome, iOf, eNeg, eChain, eMt, bOf, List.lookup, R.bind_ok, R.bind_er, R.bind_stuck, R.toS_ok, R.toS_er, R.toS_stuck, SR.next_nx, SR.next_rt, SR.next_er, SR.next_bk, SR.next_ct, SR.next_stuck, sNil, sSeq, sBrk, sCnt, sExp, sRet, sRetN, sIf, sSet, sAsg, sAug, sPar2, sPar3, tN, DL.tTup, DL.tNil, DL.tCons, DL.tSub, iSeq, srcOf, iRange1, iRange2, sFor, startD, List.map_cons, List.map_nil, List.length_cons, List.length_nil, List.replicate, List.cons_append, List.nil_append, List.getElem?_cons_zero, List.getElem?_cons_succ, List.set_cons_zero, List.set_cons_succ, dSub_int, dFdiv_int, dMod_int, dLt_int, dLe_int, dGt_int, dGe_int, dAddI_int, dSubI_int, dIsN_non, isN, dAdd_int, ll0, ll1, ll2, ll3, ll4, ll5, ll6, ll7, ll8, ll9, ll10, ll11, ll12, ll13, ll14, ll15, ll16, ll17, ll18, ll19, ll20, ll21, ll22, ll23, ll24, ll25, ll26, ll27, ll28, ll29, ll30, ll31, ll32, ll33, ll34, ll35, ll36, ll37, ll38, ll39, ll40, Nat.reduceSub, Nat.reduceAdd, Nat.reduceEqDiff, if_true, if_false, ifp_t, ifp_f, reduceIte, Bool.true_eq_false, Bool.false_eq_true, Option.map_some, Option.map_none, Option.bind_some, Option.bind_none, L1__law_missing, hl, decide_true]
        simp only [SR.nx.injEq, and_true, List.cons.injEq, Option.some.injEq, D.int.injEq, true_and]
        constructor <;> omega
      · simp only [eVar, eC, eOp, eT, eAnd, eOr, eNot, eIf, eAndV, eOrV, eNotV, eCall, aNil, aCons, aStar, sOf, eTup, eFl, eLoc, eSl, oNone, oSome, iOf, eNeg, eChain, eMt, bOf, List.lookup, R.bind_ok, R.bind_er, R.bind_stuck, R.toS_ok, R.toS_er, R.toS_stuck, SR.next_nx, SR.next_rt, SR.next_er, SR.next_bk, SR.next_ct, SR.next_stuck, sNil, sSeq, sBrk, sCnt, sExp, sRet, sRetN, sIf, sSet, sAsg, sAug, sPar2, sPar3, tN, DL.tTup, DL.tNil, DL.tCons, DL.tSub, iSeq, srcOf, iRange1, iRange2, sFor, startD, List.map_cons, List.map_nil, List.length_cons, List.length_nil, List.replicate, List.cons_append, List.nil_append, List.getElem?_cons_zero, List.getElem?_cons_succ, List.set_cons_zero, List.set_cons_succ, dSub_int, dFdiv_int, dMod_int, dLt_int, dLe_int, dGt_int, dGe_int, dAddI_int, dSubI_int, dIsN_non, isN, dAdd_int, ll0, ll1, ll2, ll3, ll4, ll5, ll6, ll7, ll8, ll9, ll10, ll11, ll12, ll13, ll14, ll15, ll16, ll17, ll18, ll19, ll20, ll21, ll22, ll23, ll24, ll25, ll26, ll27, ll28, ll29, ll30, ll31, ll32, ll33, ll34, ll35, ll36, ll37, ll38, ll39, ll40, Nat.reduceSub, Nat.reduceAdd, Nat.reduceEqDiff, if_true, if_false, ifp_t, ifp_f, reduceIte, Bool.true_eq_false, Bool.false_eq_true, Option.map_some, Option.map_none, Option.bind_some, Option.bind_none, L1__law_missing, hl, decide_false]
        simp only [SR.nx.injEq, and_true, List.cons.injEq, Option.some.injEq, D.int.injEq, true_and]
        constructor <;> omega
theorem missing_ok (l : List Int) (S : Sto) : F__law_missing [ti l] S = .ok (.fl [.int (ne l), .int (ht l + ne l)]) S := by
  obtain ⟨y3, h⟩ := missing_loop (some (ti l)) l 0 0 none S
  refine fnC_rt rfl ?_ rfl
  unfold B__law_missing
  have e0 : ti l = .tup (l.map D.int) := rfl
  rw [e0] at h ⊢
  simp only [Int.add_zero] at h
  simp only [eVar, eC, eOp, eT, eAnd, eOr, eNot, eIf, eAndV, eOrV, eNotV, eCall, aNil, aCons, aStar, sOf, eTup, eFl, eLoc, eSl, oNone, oSome, iOf, eNeg, eChain, eMt, bOf, List.lookup, R.bind_ok, R.bind_er, R.bind_stuck, R.toS_ok, R.toS_er, R.toS_stuck, SR.next_nx, SR.next_rt, SR.next_er, SR.next_bk, SR.next_ct, SR.next_stuck, sNil, sSeq, sBrk, sCnt, sExp, sRet, sRetN, sIf, sSet, sAsg, sAug, sPar2, sPar3, tN, DL.tTup, DL.tNil, DL.tCons, DL.tSub, iSeq, srcOf, iRange1, iRange2, sFor, startD, List.map_cons, List.map_nil, List.length_cons, List.length_nil, List.replicate, List.cons_append, List.nil_append, List.getElem?_cons_zero, List.getElem?_cons_succ, List.set_cons_zero, List.set_cons_succ, dSub_int, dFdiv_int, dMod_int, dLt_int, dLe_int, dGt_int, dGe_int, dAddI_int, dSubI_int, dIsN_non, isN, dAdd_int, ll0, ll1, ll2, ll3, ll4, ll5, ll6, ll7, ll8, ll9, ll10, ll11, ll12, ll13, ll14, ll15, ll16, ll17, ll18, ll19, ll20, ll21, ll22, ll23, ll24, ll25, ll26, ll27, ll28, ll29, ll30, ll31, ll32, ll33, ll34, ll35, ll36, ll37, ll38, ll39, ll40, Nat.reduceSub, Nat.reduceAdd, Nat.reduceEqDiff, if_true, if_false, ifp_t, ifp_f, reduceIte, Bool.true_eq_false, Bool.false_eq_true, Option.map_some, Option.map_none, Option.bind_some, Option.bind_none, h]
  rfl
theorem missing_fl (l : List Int) (S : Sto) : F__law_missing [.fl (l.map D.int)] S = .ok (.fl [.int (ne l), .int (ht l + ne l)]) S := by
  obtain ⟨y3, h⟩ := missing_loop (some (.fl (l.map D.int))) l 0 0 none S
  refine fnC_rt rfl ?_ rfl
  unfold B__law_missing
  simp only [Int.add_zero] at h
  simp only [eVar, eC, eOp, eT, eAnd, eOr, eNot, eIf, eAndV, eOrV, eNotV, eCall, aNil, aCons, aStar, sOf, eTup, eFl, eLoc, eSl, oNone, oSome, iOf, eNeg, eChain, eMt, bOf, List.lookup, R.bind_ok, R.bind_er, R.bind_stuck, R.toS_ok, R.toS_er, R.toS_stuck, SR.next_nx, SR.next_rt, SR.next_er, SR.next_bk, SR.next_ct, SR.next_stuck, sNil, sSeq, sBrk, sCnt, sExp, sRet, sRetN, sIf, sSet, sAsg, sAug, sPar2, sPar3, tN, DL.tTup, DL.tNil, DL.tCons, DL.tSub, iSeq, srcOf, iRange1, iRange2, sFor, startD, List.map_cons, List.map_nil, List.length_cons, List.length_nil, List.replicate, List.cons_append, List.nil_append, List.getElem?_cons_zero, List.getElem?_cons_succ, List.set_cons_zero, List.set_cons_succ, dSub_int, dFdiv_int, dMod_int, dLt_int, dLe_int, dGt_int, dGe_int, dAddI_int, dSubI_int, dIsN_non, isN, dAdd_int, ll0, ll1, ll2, ll3, ll4, ll5, ll6, ll7, ll8, ll9, ll10, ll11, ll12, ll13, ll14, ll15, ll16, ll17, ll18, ll19, ll20, ll21, ll22, ll23, ll24, ll25, ll26, ll27, ll28, ll29, ll30, ll31, ll32, ll33, ll34, ll35, ll36, ll37, ll38, ll39, ll40, Nat.reduceSub, Nat.reduceAdd, Nat.reduceEqDiff, if_true, if_false, ifp_t, ifp_f, reduceIte, Bool.true_eq_false, Bool.false_eq_true, Option.map_some, Option.map_none, Option.bind_some, Option.bind_none, h]
  rfl
theorem cut_from {α : Type} (xs : List α) (p : Nat) : cut xs (some (p : Int)) none = xs.drop p := by
  unfold cut
  rw [HT.sIx_nat, HT.sIx_none]
  by_cases h : p ≤ xs.length
  · rw [Nat.min_eq_left h, List.take_of_length_le (by simp)]
  · rw [Nat.min_eq_right (by omega), List.drop_of_length_le (Nat.le_refl _), List.drop_of_length_le (by omega)]; simp
theorem cut_to {α : Type} (xs : List α) (p : Nat) : cut xs none (some (p : Int)) = xs.take p := by
  unfold cut
  rw [HT.sIx_nat, HT.sIx_none]
  simp only [List.drop_zero, Nat.sub_zero]
  by_cases h : p ≤ xs.length
  · rw [Nat.min_eq_left h]
  · rw [Nat.min_eq_right (by omega), List.take_of_length_le (Nat.le_refl _), List.take_of_length_le (by omega)]
theorem sl_from (l : List Int) (p : Nat) (mk : List D → Sto → R D) (S : Sto) : dSl mk (ti l) (some (p : Int)) none S = .ok (ti (l.drop p)) S := by
  show R.ok (D.tup (cut (l.map D.int) (some (p : Int)) none)) S = _
  rw [cut_from, ← List.map_drop]; rfl
theorem sl_to (l : List Int) (p : Nat) (mk : List D → Sto → R D) (S : Sto) : dSl mk (ti l) none (some (p : Int)) S = .ok (ti (l.take p)) S := by
  show R.ok (D.tup (cut (l.map D.int) none (some (p : Int)))) S = _
  rw [cut_to, ← List.map_take]; rfl
theorem add_ti (l m : List Int) (h : l.length + m.length ≤ sizeLine) (S : Sto) : dAdd (ti l) (ti m) S = .ok (ti (l ++ m)) S := by
  show ifp ((l.map D.int).length + (m.map D.int).length ≤ sizeLine) (R.ok (D.tup (l.map D.int ++ m.map D.int)) S) .stuck = _
  rw [ifp_pos (by rw [List.length_map, List.length_map]; exact h), ← List.map_append]; rfl
theorem from_ok (l : List Int) (p : Nat) (hl : l.length < 10 ^ 6) (hp : p ≤ l.length) (S : Sto) : F__law_from [ti l, .int p] S = .ok (ti (rot l p)) S := by
  refine fnC_rt rfl ?_ rfl
  unfold B__law_from
  have ha := add_ti (l.drop p) (l.take p) (by rw [List.length_drop, List.length_take]; exact Nat.le_trans (show l.length - p + min p l.length ≤ 10 ^ 6 by omega) (by decide))
  simp only [eVar, eC, eOp, eT, eAnd, eOr, eNot, eIf, eAndV, eOrV, eNotV, eCall, aNil, aCons, aStar, sOf, eTup, eFl, eLoc, eSl, oNone, oSome, iOf, eNeg, eChain, eMt, bOf, List.lookup, R.bind_ok, R.bind_er, R.bind_stuck, R.toS_ok, R.toS_er, R.toS_stuck, SR.next_nx, SR.next_rt, SR.next_er, SR.next_bk, SR.next_ct, SR.next_stuck, sNil, sSeq, sBrk, sCnt, sExp, sRet, sRetN, sIf, sSet, sAsg, sAug, sPar2, sPar3, tN, DL.tTup, DL.tNil, DL.tCons, DL.tSub, iSeq, srcOf, iRange1, iRange2, sFor, startD, List.map_cons, List.map_nil, List.length_cons, List.length_nil, List.replicate, List.cons_append, List.nil_append, List.getElem?_cons_zero, List.getElem?_cons_succ, List.set_cons_zero, List.set_cons_succ, dSub_int, dFdiv_int, dMod_int, dLt_int, dLe_int, dGt_int, dGe_int, dAddI_int, dSubI_int, dIsN_non, isN, dAdd_int, ll0, ll1, ll2, ll3, ll4, ll5, ll6, ll7, ll8, ll9, ll10, ll11, ll12, ll13, ll14, ll15, ll16, ll17, ll18, ll19, ll20, ll21, ll22, ll23, ll24, ll25, ll26, ll27, ll28, ll29, ll30, ll31, ll32, ll33, ll34, ll35, ll36, ll37, ll38, ll39, ll40, Nat.reduceSub, Nat.reduceAdd, Nat.reduceEqDiff, if_true, if_false, ifp_t, ifp_f, reduceIte, Bool.true_eq_false, Bool.false_eq_true, Option.map_some, Option.map_none, Option.bind_some, Option.bind_none, sl_from, sl_to, ha]
  rfl
theorem balance_ok (l : List Int) (S : Sto) : F_balance [ti l] S = .ok (.int (l.length - l.sum)) S := by
  refine fnC_rt rfl ?_ rfl
  unfold B_balance
  simp only [eVar, eC, eOp, eT, eAnd, eOr, eNot, eIf, eAndV, eOrV, eNotV, eCall, aNil, aCons, aStar, sOf, eTup, eFl, eLoc, eSl, oNone, oSome, iOf, eNeg, eChain, eMt, bOf, List.lookup, R.bind_ok, R.bind_er, R.bind_stuck, R.toS_ok, R.toS_er, R.toS_stuck, SR.next_nx, SR.next_rt, SR.next_er, SR.next_bk, SR.next_ct, SR.next_stuck, sNil, sSeq, sBrk, sCnt, sExp, sRet, sRetN, sIf, sSet, sAsg, sAug, sPar2, sPar3, tN, DL.tTup, DL.tNil, DL.tCons, DL.tSub, iSeq, srcOf, iRange1, iRange2, sFor, startD, List.map_cons, List.map_nil, List.length_cons, List.length_nil, List.replicate, List.cons_append, List.nil_append, List.getElem?_cons_zero, List.getElem?_cons_succ, List.set_cons_zero, List.set_cons_succ, dSub_int, dFdiv_int, dMod_int, dLt_int, dLe_int, dGt_int, dGe_int, dAddI_int, dSubI_int, dIsN_non, isN, dAdd_int, ll0, ll1, ll2, ll3, ll4, ll5, ll6, ll7, ll8, ll9, ll10, ll11, ll12, ll13, ll14, ll15, ll16, ll17, ll18, ll19, ll20, ll21, ll22, ll23, ll24, ll25, ll26, ll27, ll28, ll29, ll30, ll31, ll32, ll33, ll34, ll35, ll36, ll37, ll38, ll39, ll40, Nat.reduceSub, Nat.reduceAdd, Nat.reduceEqDiff, if_true, if_false, ifp_t, ifp_f, reduceIte, Bool.true_eq_false, Bool.false_eq_true, Option.map_some, Option.map_none, Option.bind_some, Option.bind_none, ti_len, ti_sum]
theorem is_int_int (v lo hi : Int) (S : Sto) : F_is_integer [.int v, .int lo, .int hi] S = .ok (.bl (decide (lo ≤ v ∧ v ≤ hi))) S := by
  refine fnC_rt rfl ?_ rfl
  unfold B_is_integer
  have i1 : ∀ S, bIsi [.int v, .ty "int"] S = .ok (.bl true) S := fun S => rfl
  have i2 : ∀ S, bIsi [.int v, .ty "bool"] S = .ok (.bl false) S := fun S => rfl
  by_cases h1 : lo ≤ v
  · by_cases h2 : v ≤ hi
    · simp only [eVar, eC, eOp, eT, eAnd, eOr, eNot, eIf, eAndV, eOrV, eNotV, eCall, aNil, aCons, aStar, sOf, eTup, eFl, eLoc, eSl, oNone, oSome, iOf, eNeg, eChain, eMt, bOf, List.lookup, R.bind_ok, R.bind_er, R.bind_stuck, R.toS_ok, R.toS_er, R.toS_stuck, SR.next_nx, SR.next_rt, SR.next_er, SR.next_bk, SR.next_ct, SR.next_stuck, sNil, sSeq, sBrk, sCnt, sExp, sRet, sRetN, sIf, sSet, sAsg, sAug, sPar2, sPar3, tN, DL.tTup, DL.tNil, DL.tCons, DL.tSub, iSeq, srcOf, iRange1, iRange2, sFor, startD, List.map_cons, List.map_nil, List.length_cons, List.length_nil, List.replicate, List.cons_append, List.nil_append, List.getElem?_cons_zero, List.getElem?_cons_succ, List.set_cons_zero, List.set_cons_succ, dSub_int, dFdiv_int, dMod_int, dLt_int, dLe_int, dGt_int, dGe_int, dAddI_int, dSubI_int, dIsN_non, isN, dAdd_int, ll0, ll1, ll2, ll3, ll4, ll5, ll6, ll7, ll8, ll9, ll10, ll11, ll12, ll13, ll14, ll15, ll16, ll17, ll18, ll19, ll20, ll21, ll22, ll23, ll24, ll25, ll26, ll27, ll28, ll29, ll30, ll31, ll32, ll33, ll34, ll35, ll36, ll37, ll38, ll39, ll40, Nat.reduceSub, Nat.reduceAdd, Nat.reduceEqDiff, if_true, if_false, ifp_t, ifp_f, reduceIte, Bool.true_eq_false, Bool.false_eq_true, Option.map_some, Option.map_none, Option.bind_some, Option.bind_none, i1, i2, h1, h2, decide_true, Bool.not_false, and_self]
    · simp only [eVar, eC, eOp, eT, eAnd, eOr, eNot, eIf, eAndV, eOrV, eNotV, eCall, aNil, aCons, aStar, sOf, eTup, eFl, eLoc, eSl, oNone, oSome, iOf, eNeg, eChain, eMt, bOf, List.lookup, R.bind_ok, R.bind_er, R.bind_stuck, R.toS_ok, R.toS_er, R.toS_stuck, SR.next_nx, SR.next_rt, SR.next_er, SR.next_bk, SR.next_ct, SR.next_stuck, sNil, sSeq, sBrk, sCnt, sExp, sRet, sRetN, sIf, sSet, sAsg, sAug, sPar2, sPar3, tN, DL.tTup, DL.tNil, DL.tCons, DL.tSub, iSeq, srcOf, iRange1, iRange2, sFor, startD, List.map_cons, List.map_nil, List.length_cons, List.length_nil, List.replicate, List.cons_append, List.nil_append, List.getElem?_cons_zero, List.getElem?_cons_succ, List.set_cons_zero, List.set_cons_succ, dSub_int, dFdiv_int, dMod_int, dLt_int, dLe_int, dGt_int, dGe_int, dAddI_int, dSubI_int, dIsN_non, isN, dAdd_int, ll0, ll1, ll2, ll3, ll4, ll5, ll6, ll7, ll8, ll9, ll10, ll11, ll12, ll13, ll14, ll15, ll16, ll17, ll18, ll19, ll20, ll21, ll22, ll23, ll24, ll25, ll26, ll27, ll28, ll29, ll30, ll31, ll32, ll33, ll34, ll35, ll36, ll37, ll38, ll39, ll40, Nat.reduceSub, Nat.reduceAdd, Nat.reduceEqDiff, if_true, if_false, ifp_t, ifp_f, reduceIte, Bool.true_eq_false, Bool.false_eq_true, Option.map_some, Option.map_none, Option.bind_some, Option.bind_none, i1, i2, h1, h2, decide_true, decide_false, Bool.not_false, and_false]
  · simp only [eVar, eC, eOp, eT, eAnd, eOr, eNot, eIf, eAndV, eOrV, eNotV, eCall, aNil, aCons, aStar, sOf, eTup, eFl, eLoc, eSl, oNone, oSome, iOf, eNeg, eChain, eMt, bOf, List.lookup, R.bind_ok, R.bind_er, R.bind_stuck, R.toS_ok, R.toS_er, R.toS_stuck, SR.next_nx, SR.next_rt, SR.next_er, SR.next_bk, SR.next_ct, SR.next_stuck, sNil, sSeq, sBrk, sCnt, sExp, sRet, sRetN, sIf, sSet, sAsg, sAug, sPar2, sPar3, tN, DL.tTup, DL.tNil, DL.tCons, DL.tSub, iSeq, srcOf, iRange1, iRange2, sFor, startD, List.map_cons, List.map_nil, List.length_cons, List.length_nil, List.replicate, List.cons_append, List.nil_append, List.getElem?_cons_zero, List.getElem?_cons_succ, List.set_cons_zero, List.set_cons_succ, dSub_int, dFdiv_int, dMod_int, dLt_int, dLe_int, dGt_int, dGe_int, dAddI_int, dSubI_int, dIsN_non, isN, dAdd_int, ll0, ll1, ll2, ll3, ll4, ll5, ll6, ll7, ll8, ll9, ll10, ll11, ll12, ll13, ll14, ll15, ll16, ll17, ll18, ll19, ll20, ll21, ll22, ll23, ll24, ll25, ll26, ll27, ll28, ll29, ll30, ll31, ll32, ll33, ll34, ll35, ll36, ll37, ll38, ll39, ll40, Nat.reduceSub, Nat.reduceAdd, Nat.reduceEqDiff, if_true, if_false, ifp_t, ifp_f, reduceIte, Bool.true_eq_false, Bool.false_eq_true, Option.map_some, Option.map_none, Option.bind_some, Option.bind_none, i1, i2, h1, decide_false, Bool.not_false, false_and]
/-- a comprehension over range(n) that keeps the numbers of a kind -/
theorem eLc_keep {src : Ev → Sto → R Src} {T : Tg} {vs : List Nat} {c : Ev → Sto → R Bool} {f : Ev → Sto → R D} {ρ : Ev} {S : Sto} (n : Nat) (ρd : D → Ev) (p : Nat → Bool) (hs : src ρ S = .ok (rangeD 0 n, yes) S)
    (h : ∀ k, k < n → ∀ S', T (.int k) (wipeD ρ vs) S' = some (ρd (.int k), S') ∧ c (ρd (.int k)) S' = .ok (p k) S' ∧ f (ρd (.int k)) S' = .ok (.int k) S') (hn : n < 10 ^ 6) :
    eLc finFl src T vs c f ρ S = .ok (.fl (((List.range n).filter p).map fun k : Nat => D.int k)) S := by
  have e0 : rangeD 0 n = (List.range n).map fun k => D.int (k : Nat) := rangeD_nat n
  have := eLc_pure (src := src) (T := T) (vs := vs) (c := c) (f := f) (ρ := ρ) (S := S) (rangeD 0 n) ρd (fun d => match d with | .int i => p i.toNat | _ => false) (fun d => d) hs (fun d hd S' => ?_) (by simp [rangeD]; exact Nat.le_trans (Nat.le_of_lt hn) (by decide)) (fun d hd _ => ?_)
  · rw [this, e0, List.filter_map]
    simp [Function.comp_def]
  · rw [e0] at hd
    obtain ⟨k, hk, rfl⟩ := List.mem_map.mp hd
    obtain ⟨a, b, c⟩ := h k (List.mem_range.mp hk) S'
    exact ⟨a, by simpa using b, fun _ => c⟩
  · rw [e0] at hd
    obtain ⟨k, hk, rfl⟩ := List.mem_map.mp hd
    rfl
def ni (l : List Nat) : List D := l.map fun k : Nat => D.int (k : Int)
theorem begins_ok (l : List Int) (hl : l.length < 10 ^ 6) (S : Sto) : F__law_begins [ti l] S = .ok (.fl (ni (begs l))) S := by
  refine fnC_rt rfl ?_ rfl
  unfold B__law_begins
  have key := eLc_keep (src := iRange1 (aCons (eCall bLen (aCons (eVar 0) aNil)) aNil)) (T := tN 1) (vs := [1]) (c := Q1__law_begins) (f := E1__law_begins) (ρ := [some (ti l), none]) (S := S) l.length (fun d => [some (ti l), some d]) (fun p => decide (ne (rot l p) = 0)) ?_ ?_ hl
  · have hst : startD 2 [ti l] = [some (ti l), none] := rfl
    rw [hst]
    simp only [eVar, eC, eOp, eT, eAnd, eOr, eNot, eIf, eAndV, eOrV, eNotV, eCall, aNil, aCons, aStar, sOf, eTup, eFl, eLoc, eSl, oNone, oSome, iOf, eNeg, eChain, eMt, bOf, List.lookup, R.bind_ok, R.bind_er, R.bind_stuck, R.toS_ok, R.toS_er, R.toS_stuck, SR.next_nx, SR.next_rt, SR.next_er, SR.next_bk, SR.next_ct, SR.next_stuck, sNil, sSeq, sBrk, sCnt, sExp, sRet, sRetN, sIf, sSet, sAsg, sAug, sPar2, sPar3, tN, DL.tTup, DL.tNil, DL.tCons, DL.tSub, iSeq, srcOf, iRange1, iRange2, sFor, startD, List.map_cons, List.map_nil, List.length_cons, List.length_nil, List.replicate, List.cons_append, List.nil_append, List.getElem?_cons_zero, List.getElem?_cons_succ, List.set_cons_zero, List.set_cons_succ, dSub_int, dFdiv_int, dMod_int, dLt_int, dLe_int, dGt_int, dGe_int, dAddI_int, dSubI_int, dIsN_non, isN, dAdd_int, ll0, ll1, ll2, ll3, ll4, ll5, ll6, ll7, ll8, ll9, ll10, ll11, ll12, ll13, ll14, ll15, ll16, ll17, ll18, ll19, ll20, ll21, ll22, ll23, ll24, ll25, ll26, ll27, ll28, ll29, ll30, ll31, ll32, ll33, ll34, ll35, ll36, ll37, ll38, ll39, ll40, Nat.reduceSub, Nat.reduceAdd, Nat.reduceEqDiff, if_true, if_false, ifp_t, ifp_f, reduceIte, Bool.true_eq_false, Bool.false_eq_true, Option.map_some, Option.map_none, Option.bind_some, Option.bind_none, key]
    rfl
  · have hr : ((-(2 ^ 62) : Int) ≤ (l.length : Int) ∧ (l.length : Int) < 2 ^ 62) = True := by simp; omega
    simp only [eVar, eC, eOp, eT, eAnd, eOr, eNot, eIf, eAndV, eOrV, eNotV, eCall, aNil, aCons, aStar, sOf, eTup, eFl, eLoc, eSl, oNone, oSome, iOf, eNeg, eChain, eMt, bOf, List.lookup, R.bind_ok, R.bind_er, R.bind_stuck, R.toS_ok, R.toS_er, R.toS_stuck, SR.next_nx, SR.next_rt, SR.next_er, SR.next_bk, SR.next_ct, SR.next_stuck, sNil, sSeq, sBrk, sCnt, sExp, sRet, sRetN, sIf, sSet, sAsg, sAug, sPar2, sPar3, tN, DL.tTup, DL.tNil, DL.tCons, DL.tSub, iSeq, srcOf, iRange1, iRange2, sFor, startD, List.map_cons, List.map_nil, List.length_cons, List.length_nil, List.replicate, List.cons_append, List.nil_append, List.getElem?_cons_zero, List.getElem?_cons_succ, List.set_cons_zero, List.set_cons_succ, dSub_int, dFdiv_int, dMod_int, dLt_int, dLe_int, dGt_int, dGe_int, dAddI_int, dSubI_int, dIsN_non, isN, dAdd_int, ll0, ll1, ll2, ll3, ll4, ll5, ll6, ll7, ll8, ll9, ll10, ll11, ll12, ll13, ll14, ll15, ll16, ll17, ll18, ll19, ll20, ll21, ll22, ll23, ll24, ll25, ll26, ll27, ll28, ll29, ll30, ll31, ll32, ll33, ll34, ll35, ll36, ll37, ll38, ll39, ll40, Nat.reduceSub, Nat.reduceAdd, Nat.reduceEqDiff, if_true, if_false, ifp_t, ifp_f, reduceIte, Bool.true_eq_false, Bool.false_eq_true, Option.map_some, Option.map_none, Option.bind_some, Option.bind_none, ti_len, hr, Int.toNat_natCast]
  · intro k hk S'
    refine ⟨rfl, ?_, rfl⟩
    have ix : ∀ (a b : D) S, dIx (.fl [a, b]) (.int 0) S = .ok a S := fun a b S => rfl
    simp only [eVar, eC, eOp, eT, eAnd, eOr, eNot, eIf, eAndV, eOrV, eNotV, eCall, aNil, aCons, aStar, sOf, eTup, eFl, eLoc, eSl, oNone, oSome, iOf, eNeg, eChain, eMt, bOf, List.lookup, R.bind_ok, R.bind_er, R.bind_stuck, R.toS_ok, R.toS_er, R.toS_stuck, SR.next_nx, SR.next_rt, SR.next_er, SR.next_bk, SR.next_ct, SR.next_stuck, sNil, sSeq, sBrk, sCnt, sExp, sRet, sRetN, sIf, sSet, sAsg, sAug, sPar2, sPar3, tN, DL.tTup, DL.tNil, DL.tCons, DL.tSub, iSeq, srcOf, iRange1, iRange2, sFor, startD, List.map_cons, List.map_nil, List.length_cons, List.length_nil, List.replicate, List.cons_append, List.nil_append, List.getElem?_cons_zero, List.getElem?_cons_succ, List.set_cons_zero, List.set_cons_succ, dSub_int, dFdiv_int, dMod_int, dLt_int, dLe_int, dGt_int, dGe_int, dAddI_int, dSubI_int, dIsN_non, isN, dAdd_int, ll0, ll1, ll2, ll3, ll4, ll5, ll6, ll7, ll8, ll9, ll10, ll11, ll12, ll13, ll14, ll15, ll16, ll17, ll18, ll19, ll20, ll21, ll22, ll23, ll24, ll25, ll26, ll27, ll28, ll29, ll30, ll31, ll32, ll33, ll34, ll35, ll36, ll37, ll38, ll39, ll40, Nat.reduceSub, Nat.reduceAdd, Nat.reduceEqDiff, if_true, if_false, ifp_t, ifp_f, reduceIte, Bool.true_eq_false, Bool.false_eq_true, Option.map_some, Option.map_none, Option.bind_some, Option.bind_none, Q1__law_begins, from_ok l k hl (by omega), missing_ok, ix, dEq_int]
    rfl
end DL

/-! min of a tuple of whole numbers. -/
namespace DL
open PySem PySem.Spec L2
open PyProof.Rows hiding St
section
variable {prog : Program} {w : World} {A : Around} {E : Value → Shared → Prop} {s : Shared}
theorem min_tup {t : Addr} {its : List Value} {ns : List Int} {Q : Value → Shared → Prop} (hh : A.handled = none) (ht : s.heap.IsTuple t its.toArray) (hi : IntsAre its ns) (hne : 0 < ns.length)
    (h : ∀ h' tk M t', (∀ b o, s.heap.get? b = some o → h'.get? b = some o) → M ∈ ns → (∀ a, a ∈ ns → M ≤ a) → Q (.int M t') { s with heap := h', toks := tk }) : wpAny (model prog w) A (call (.builtin "min") [.ref t]) Q E s := by
  obtain ⟨xs, e⟩ := hi.allInts.items
  have hn : numsOf (intItems xs).toList = ns := by rw [← e]; exact hi.numsOf
  rw [nums_intItems] at hn
  subst hn
  rw [e] at ht
  have hsz : 0 < xs.size := by simpa using hne
  obtain ⟨o, ho, hc, n, hd⟩ := id ht
  have hne : t ≠ s.heap.objs.size := Nat.ne_of_lt (Heap.lt_size ho)
  refine call_min_walk (wpAny_pyIter_tuple ht ?_)
  refine ⟨_, _, _, _, _, _, _, rfl, Walks.tuple (A := A.in1) hh _ t hne (intItems xs), ⟨⟨_, Heap.get?_push_size _ rfl, rfl, rfl⟩, ht.at fun o e => Heap.get?_push_of_some _ e⟩, fun b hb => ?_, by simpa [intItems] using hsz, CmpOf.ints_lt (numAt xs) (fun _ _ => intItems_at), fun v h' tk hP hk => ?_⟩
  · rcases List.mem_cons.mp hb with rfl | hb
    · exact Heap.lt_size (Heap.get?_push_size _ rfl)
    · obtain rfl := List.mem_singleton.mp hb
      exact Heap.lt_size (Heap.get?_push_of_some _ ho)
  · have hsz2 : (intItems xs).size = xs.size := by simp [intItems]
    rw [hsz2] at hP
    obtain ⟨t', rfl⟩ := intItems_at hP
    obtain ⟨h1, h2⟩ := argBest_lt (numAt xs) (xs.size - 1)
    refine h h' tk _ t' (fun b o e => hk b o (fun hb => absurd (Heap.lt_size e) ((List.mem_singleton.mp hb) ▸ Nat.lt_irrefl _)) (Heap.get?_push_of_some _ e)) ?_ fun a ha => ?_
    · rw [numAt_eq]; exact PySem.getD_mem (by rw [List.length_map, Array.length_toList]; omega)
    · obtain ⟨j, hj, rfl⟩ := mem_getD ha
      rw [List.length_map, Array.length_toList] at hj
      rw [← numAt_eq]; exact h2 j (by omega)
end
def rMinT (K : PySem.W.Frag) : List V → Hp → VK → Prop := fun vs H Q => ∃ (a : Addr) (ns : List Int), vs = [V.ref a] ∧ SqT K H a (ns.map V.int) ∧ 0 < ns.length ∧ ∀ m, m ∈ ns → (∀ y, y ∈ ns → m ≤ y) → Q (.int m) H
theorem cr_minT {X : Cx} (hc : X.calm = true) : CallR X (.builtin "min") (rMinT X.K) := by
  intro pins s σ H vs us Q I r h
  obtain ⟨a, ns, rfl, hs, hne, q⟩ := h
  obtain ⟨its, rv, hl, _⟩ := I.tuple hs
  rw [Vals.ref1 r]
  exact min_tup (I.ok.hd hc) hl rv.ints hne fun h' tk m t' hk h1 h2 => ⟨.int _, H, I.kept hk, ⟨_, rfl⟩, q m h1 h2⟩
/-- min of two numbers, of a list or of a tuple -/
def bMinT : Fn := fun ds S => match ds with
  | [.tup xs] => (match intsOf xs with
    | some is => if is = [] then .stuck else .ok (.int (minL is)) S
    | none => .stuck)
  | ds => bMin ds S
theorem c_minT {X : Cx} (hc : X.calm = true) : CallR X (.builtin "min") (fun xs H Q => rMinT X.K xs H Q ∨ ((∃ i j, xs = [.int i, .int j] ∧ Q (.int (if j < i then j else i)) H) ∨ rMin X.K xs H Q)) := CallR.or (cr_minT hc) (c_min hc)
theorem k_minT {K : PySem.W.Frag} : CallK K (fun xs H Q => rMinT K xs H Q ∨ ((∃ i j, xs = [.int i, .int j] ∧ Q (.int (if j < i then j else i)) H) ∨ rMin K xs H Q)) bMinT := by
  intro W σ ι H S vs ds Q s rl h
  unfold bMinT at h
  split at h
  · rename_i xs
    obtain ⟨v, rfl, rv⟩ := RepL.one_inv rl
    split at h
    · rename_i is hi
      split at h
      · exact h.elim
      · rename_i hne
        rw [RepV] at rv
        obtain ⟨p, us, rfl, q, ru⟩ := rv
        rw [intsOf_rep _ _ _ ru hi] at q
        obtain ⟨m1, m2⟩ := minL_spec hne
        refine .inl ⟨p, is, rfl, q.sq, List.length_pos_iff.mpr hne, fun m hm hle => ?_⟩
        have : m = minL is := by have := hle _ m1; have := m2 _ hm; omega
        rw [this]
        exact h.here s _ int_rep
    · exact h.elim
  · exact .inr (k_min W σ ι H S vs _ Q s rl h)
end DL

/-! The least need of a ring's turned rows. -/
namespace DL
theorem ne_le_of (l : List Int) : ∀ (s : Int × Int) (c : Int), s.2 ≤ c → (∀ k, k < l.length → 1 - ((l.take (k + 1)).foldl stp s).1 ≤ c) → (l.foldl stp s).2 ≤ c := by
  induction l with
  | nil => intro s c h _; exact h
  | cons t l ih =>
    intro s c h H
    rw [List.foldl_cons]
    have h0 := H 0 (by simp)
    simp only [List.take_succ_cons, List.take_zero, List.foldl_cons, List.foldl_nil] at h0
    refine ih (stp s t) c ?_ fun k hk => ?_
    · simp only [stp] at h0 ⊢; omega
    · have := H (k + 1) (by simpa using hk)
      rwa [List.take_succ_cons, List.foldl_cons] at this
theorem ne_ge (l : List Int) (s : Int × Int) : l ≠ [] → 1 - (l.foldl stp s).1 ≤ (l.foldl stp s).2 := by
  intro hn
  obtain ⟨i, t, rfl⟩ := List.eq_nil_or_concat l |>.resolve_left hn
  simp only [List.concat_eq_append, List.foldl_append, List.foldl_cons, List.foldl_nil, stp]
  omega
theorem least_at (f : Nat → Int) : ∀ n, 0 < n → ∃ p, p < n ∧ ∀ j, j < n → f p ≤ f j
  | 0, h => absurd h (Nat.lt_irrefl _)
  | 1, _ => ⟨0, by omega, fun j hj => by have : j = 0 := by omega
                                         subst this; exact Int.le_refl _⟩
  | n + 2, _ => by
    obtain ⟨p, hp, h⟩ := least_at f (n + 1) (by omega)
    by_cases c : f p ≤ f (n + 1)
    · exact ⟨p, by omega, fun j hj => by
        by_cases q : j = n + 1
        · subst q; exact c
        · exact h j (by omega)⟩
    · exact ⟨n + 1, by omega, fun j hj => by
        by_cases q : j = n + 1
        · subst q; exact Int.le_refl _
        · have := h j (by omega); omega⟩
theorem need_low {l : List Int} (hn : l ≠ []) (hb : (l.length : Int) - l.sum ≤ 0) : ∃ p, p < l.length ∧ ne (rot l p) ≤ 1 - (l.length - l.sum) := by
  have hpos : 0 < l.length := List.length_pos_iff.mpr hn
  obtain ⟨p, hp, hl⟩ := least_at (hh l) l.length hpos
  have hc := hh_len l
  refine ⟨p, hp, ne_le_of (rot l p) (0, 0) _ (by simp; omega) fun k hk => ?_⟩
  rw [DL.rot_length l p (by omega)] at hk
  rw [rot_pre l p (by omega) (0, 0) (k + 1) (by omega)]
  by_cases q : p + (k + 1) < l.length
  · have := hl _ q
    simp; omega
  · obtain ⟨i, hi⟩ : ∃ i, p + (k + 1) = i + l.length := ⟨p + (k + 1) - l.length, by omega⟩
    rw [hi, hh_round l _ hc i]
    by_cases z : i < l.length
    · have := hl i z
      simp; omega
    · omega
end DL

/-! The least need, told of all turned rows. -/
namespace DL
theorem rot_sum (l : List Int) (p : Nat) : (rot l p).sum = l.sum := by
  unfold rot
  have h : l.sum = (l.take p ++ l.drop p).sum := by rw [List.take_append_drop]
  rw [h, List.sum_append, List.sum_append]; omega
theorem need_least {l : List Int} (hn : l ≠ []) (ha : ∀ t ∈ l, 0 ≤ t) : (∃ p, p < l.length ∧ ne (rot l p) = max 0 (1 - (l.length - l.sum))) ∧ ∀ p, p < l.length → max 0 (1 - (l.length - l.sum)) ≤ ne (rot l p) := by
  have low : ∀ p, p < l.length → max 0 (1 - ((l.length : Int) - l.sum)) ≤ ne (rot l p) := fun p hp => by
    have h1 := ne_nn (rot l p)
    have hr : rot l p ≠ [] := fun c => by
      have := DL.rot_length l p (by omega)
      rw [c] at this; simp at this; omega
    have h2 := ne_ge (rot l p) (0, 0) hr
    rw [stp_fst, DL.rot_length l p (by omega), rot_sum] at h2
    unfold ne at h1 ⊢
    simp at h2
    omega
  refine ⟨?_, low⟩
  by_cases hb : (l.length : Int) - l.sum ≤ 0
  · obtain ⟨p, hp, h⟩ := need_low hn hb
    have := low p hp
    exact ⟨p, hp, by omega⟩
  · have hc := begs_count ha
    have : begs l ≠ [] := fun c => by rw [c] at hc; simp at hc; omega
    obtain ⟨p, hp⟩ := List.exists_mem_of_ne_nil _ this
    obtain ⟨h1, h2⟩ := List.mem_filter.mp hp
    simp only [decide_eq_true_eq] at h2
    exact ⟨p, List.mem_range.mp h1, by rw [h2]; omega⟩
end DL

/-! More constructs: in, reversed slices, sorted, zip, tuple * int. -/
namespace DL
open PySem PySem.Spec L2
open PyProof.Rows hiding St
/-! ### in, not in -/
def fV : D → Option V
  | .non => some .non
  | .bl b => some (.bl b)
  | .int i => some (.int i)
  | .str x => some (.str x)
  | _ => none
def fVs : List D → Option (List V)
  | [] => some []
  | d :: ds => (fV d).bind fun v => (fVs ds).map fun vs => v :: vs
theorem fV_rep {K : PySem.W.Frag} {ι : List Addr} {H : Hp} {d : D} {v x : V} (r : RepV K ι H d v) (e : fV d = some x) : v = x ∧ flatV x = true := by
  cases d with
  | non => rw [RepV] at r; cases e; exact ⟨r, rfl⟩
  | bl b => rw [RepV] at r; cases e; exact ⟨r, rfl⟩
  | int b => rw [RepV] at r; cases e; exact ⟨r, rfl⟩
  | str b => rw [RepV] at r; cases e; exact ⟨r, rfl⟩
  | _ => cases e
theorem fVs_rep {K : PySem.W.Frag} {ι : List Addr} {H : Hp} : ∀ (ds : List D) (vs xs : List V), RepL K ι H ds vs → fVs ds = some xs → vs = xs ∧ xs.all flatV = true
  | [], vs, xs, r, e => by rw [RepL] at r; cases e; subst r; exact ⟨rfl, rfl⟩
  | d :: ds, vs, xs, r, e => by
    rw [RepL] at r
    obtain ⟨v, us, rfl, a, b⟩ := r
    rw [fVs] at e
    cases h : fV d with
    | none => rw [h] at e; cases e
    | some y =>
      rw [h] at e
      cases h2 : fVs ds with
      | none => rw [h2] at e; cases e
      | some ys =>
        rw [h2] at e; cases e
        obtain ⟨rfl, f1⟩ := fV_rep a h
        obtain ⟨rfl, f2⟩ := fVs_rep ds us ys b h2
        exact ⟨rfl, by rw [List.all_cons, f1, f2]; rfl⟩
theorem fVs_ints (l : List Int) : fVs (l.map D.int) = some (l.map V.int) := by
  induction l with
  | nil => rfl
  | cons i l ih => rw [List.map_cons, fVs, ih]; rfl
theorem inV_ints (i : Int) (l : List Int) : inV (.int i) (l.map V.int) = decide (i ∈ l) := by
  unfold inV
  induction l with
  | nil => rfl
  | cons j l ih =>
    rw [List.map_cons, List.any_cons, ih]
    by_cases h : j = i
    · subst h; simp [eqV]
    · have : ¬ i = j := fun z => h z.symm
      simp [eqV, h, this]
def dIn (neg : Bool) (a b : D) (S : Sto) : R D := match a, b with
  | .str x, .str z => (match x.cps.toList with
    | [c] => .ok (.bl (if neg then !decide (c ∈ z.cps.toList) else decide (c ∈ z.cps.toList))) S
    | _ => .stuck)
  | a, b => match fV a, (seqOf S b).bind fVs with
    | some x, some ys => .ok (.bl (if neg then !inV x ys else inV x ys)) S
    | _, _ => .stuck
def rInS (neg : Bool) : R2 := fun x y H Q => ∃ (c : Nat) (z : Str), x = .str ⟨#[c]⟩ ∧ y = .str z ∧ Q (.bl (if neg then !decide (c ∈ z.cps.toList) else decide (c ∈ z.cps.toList))) H
def rInA (K : PySem.W.Frag) (neg : Bool) : R2 := fun x y H Q => rIn K neg x y H Q ∨ rInS neg x y H Q
theorem or_in {X : Cx} : OpR X (compareOp .In) (rInA X.K false) := OpR.or op_in_seq op_in_sign
theorem or_notIn {X : Cx} : OpR X (compareOp .NotIn) (rInA X.K true) := OpR.or op_notIn_seq op_notIn_sign
theorem k_in {K : PySem.W.Frag} (neg : Bool) : OpK K (rInA K neg) (dIn neg) := by
  intro W σ ι H S x y a b Q s rx ry h
  unfold dIn at h
  split at h
  · rename_i u z
    split at h
    · rename_i c hc
      refine .inr ⟨c, z, ?_, str_at ry, h.here s _ bl_rep⟩
      rw [str_at rx]
      congr 1
      obtain ⟨⟨l⟩⟩ := u
      simp at hc
      subst hc
      rfl
    · exact h.elim
  · split at h
    · rename_i x' ys e1 e2
      cases hs : seqOf S b with
      | none => rw [hs] at e2; cases e2
      | some ds =>
        rw [hs] at e2
        obtain ⟨p, vs, rfl, q, rl⟩ := seq_at s ry hs
        obtain ⟨rfl, f1⟩ := fV_rep rx e1
        obtain ⟨rfl, f2⟩ := fVs_rep _ _ _ rl e2
        exact .inl ⟨p, vs, rfl, q, f1, f2, h.here s _ bl_rep⟩
    · exact h.elim
/-! ### t[::-1] -/
section
variable {prog : Program} {w : World} {A : Around} {E : Value → Shared → Prop} {s : Shared}
theorem sliceApplied_rev {sl : Addr} {n : Nat} {t : Tok} {Q : Int × Int × Nat → Shared → Prop} (hs : s.heap.IsSliceOf sl .none .none (.int (-1) t))
    (h : Q ((n : Int) - 1, -1, n) s) : wpAny (model prog w) A (Builtin.Slice.sliceApplied (.ref sl) (pure (n : Int))) Q E s := by
  obtain ⟨os, hos, hcs, hds⟩ := id hs
  unfold Builtin.Slice.sliceApplied Builtin.Slice.sliceFields
  refine wpAny_bind (wpAny_bind (wpAny_field hos hds (x := .none) rfl (wpAny_bind (wpAny_field hos hds (x := .none) rfl (wpAny_bind (wpAny_field hos hds (x := .int (-1) t) rfl (wpAny_pure ?_)))))))
  refine wpAny_bind (PyProof.Rows.slicePart_int ?_)
  show wpAny _ _ (if ((-1 : Int) == 0) = true then _ else _) _ _ s
  rw [if_neg (by decide)]
  refine wpAny_bind (PyProof.Rows.slicePart_none (wpAny_bind (PyProof.Rows.slicePart_none (wpAny_bind (wpAny_pure ?_)))))
  show wpAny _ _ (match Builtin.Slice.sliceAdjust none none (-1) (n : Int) with | (lo, hi) => pure (lo, (-1 : Int), Builtin.Slice.slicePlaces lo hi (-1))) _ _ s
  have e1 : Builtin.Slice.sliceAdjust none none (-1) (n : Int) = ((n : Int) - 1, -1) := by
    simp [Builtin.Slice.sliceAdjust]
  rw [e1]
  have e2 : Builtin.Slice.slicePlaces ((n : Int) - 1) (-1) (-1) = n := by
    unfold Builtin.Slice.slicePlaces
    by_cases hn : n = 0
    · subst hn; simp
    · simp
      omega
  show wpAny _ _ (pure ((n : Int) - 1, (-1 : Int), Builtin.Slice.slicePlaces ((n : Int) - 1) (-1) (-1))) _ _ s
  rw [e2]
  exact wpAny_pure h
theorem pick_rev (xs : Array Value) : ((List.range xs.size).filterMap fun (k : Nat) => xs[(((xs.size : Int) - 1) + (k : Int) * (-1)).toNat]?).toArray = xs.toList.reverse.toArray := by
  congr 1
  apply List.ext_getElem?
  intro i
  have e : (List.range xs.size).filterMap (fun (k : Nat) => xs[(((xs.size : Int) - 1) + (k : Int) * (-1)).toNat]?) = (List.range xs.size).map fun k => xs.toList.reverse.getD k .none := by
    have key : ∀ l : List Nat, (∀ k ∈ l, k < xs.size) → l.filterMap (fun (k : Nat) => xs[(((xs.size : Int) - 1) + (k : Int) * (-1)).toNat]?) = l.map fun k => xs.toList.reverse.getD k .none := by
      intro l hl
      induction l with
      | nil => rfl
      | cons k l ih =>
        have hk := hl k List.mem_cons_self
        have e1 : (((xs.size : Int) - 1) + (k : Int) * (-1)).toNat = xs.size - 1 - k := by omega
        have e2 : xs[(((xs.size : Int) - 1) + (k : Int) * (-1)).toNat]? = some (xs.toList.reverse.getD k .none) := by
          rw [e1, Array.getElem?_eq_getElem (by omega)]
          simp only [List.getD]
          rw [List.getElem?_eq_getElem (by simp; omega)]
          simp
        rw [List.filterMap_cons_some (b := xs.toList.reverse.getD k .none) (by exact e2), List.map_cons, ih fun q hq => hl q (List.mem_cons_of_mem _ hq)]
    exact key _ fun k hk => List.mem_range.mp hk
  rw [e, List.getElem?_map]
  by_cases hi : i < xs.size
  · rw [List.getElem?_eq_getElem (by simpa using hi), List.getElem_range, Option.map_some, List.getElem?_eq_getElem (by simpa using hi)]
    simp only [List.getD]
    rw [List.getElem?_eq_getElem (by simpa using hi)]; rfl
  · rw [List.getElem?_eq_none (by simpa using hi), List.getElem?_eq_none (by simpa using hi)]; rfl
theorem getItem_tuple_rev {t sl : Addr} {items : Array Value} {tk : Tok} {Q : Value → Shared → Prop} (ht : IsTup s.heap t items) (hs : s.heap.IsSliceOf sl .none .none (.int (-1) tk))
    (h : Q (.ref s.heap.objs.size) { s with heap := s.heap.push { cls := .type "tuple", data := .seq items.toList.reverse.toArray } })
    (hsz : items.size ≤ sizeLine) : wpAny (model prog w) A (getItem (.ref t) (.ref sl)) Q E s := by
  have htake : sizeOk (.seq items.toList.reverse.toArray) := by
    show items.toList.reverse.toArray.size ≤ sizeLine
    rw [List.size_toArray, List.length_reverse, Array.length_toList]; exact hsz
  obtain ⟨os, hos, hcs, hds⟩ := id hs
  have hTs : s.TypeIs (.ref sl) "slice" := ⟨os, hos, hcs⟩
  unfold getItem
  try with_reducible refine wpAny_holding ?_
  first | refine wpAny_bind (wpAny_pure ?_) | skip
  refine wpAny_bind (wpAny_sequenceKey ht.typeIs (by decide) ?_)
  refine wpAny_bind (wpAny_callSpecial?_slot (name := Str.ofString "__getitem__") ht.typeIs PyProof.Rows.slot_tuple_getitem
    (wpAny_call_entry PyProof.Rows.slot_tuple_getitem ht.typeIs entry_tuple_getitem ?_ (args_tuple_getitem _ _)))
  show wpAny _ _ (Builtin.Tuple.tupleItemsOf (.ref t) >>= _) _ _ s
  refine wpAny_bind (tupleItemsOf_ ht ?_)
  refine wpAny_bind (wpAny_typeOf hTs ?_)
  rw [if_pos (by decide)]
  refine wpAny_bind (sliceApplied_rev hs ?_)
  show wpAny _ _ (if (((items.size : Int) - 1) == 0 && (-1 : Int) == 1 && items.size == items.size) = true then _ else _) _ _ s
  rw [if_neg (by intro q; rw [Bool.and_eq_true, Bool.and_eq_true] at q; exact absurd q.1.2 (by decide)), pick_rev]
  first
    | exact wpAny_bind (m := Builtin.Tuple.tupleExact _) (wpAny_newObj_type (wpAny_pure ⟨_, rfl, wpAny_pure h⟩) htake)
    | exact wpAny_bind (m := Builtin.Tuple.tupleExact _) (wpAny_newObj_type (wpAny_bind (wpAny_pure (wpAny_pure ⟨_, rfl, wpAny_pure h⟩))) htake)
    | exact wpAny_bind (wpAny_bind (m := Builtin.Tuple.tupleExact _) (wpAny_newObj_type (wpAny_pure (wpAny_pure ⟨_, rfl, wpAny_pure h⟩)) htake))
    | exact wpAny_bind (wpAny_bind (m := Builtin.Tuple.tupleExact _) (wpAny_newObj_type (wpAny_pure ⟨_, rfl, wpAny_pure h⟩) htake))
end
def tRevT (K : PySem.W.Frag) (te : TE) : TE := fun σ H Q => te σ H fun x H1 => ∃ a xs, x = .ref a ∧ SqT K H1 a xs ∧ ∀ p, H1 p = none → Q (.ref p) (upd H1 p (.tup xs.reverse))
theorem PE.or {X : Cx} {e : Expr} {t u : TE} (h : PE X e t) (h' : PE X e u) : PE X e (fun σ H Q => t σ H Q ∨ u σ H Q) := ⟨fun pins s σ H Q I q => by
  rcases q with q | q
  · exact h.run pins s σ H Q I q
  · exact h'.run pins s σ H Q I q⟩
theorem pe_revT {X : Cx} {e : Expr} {te : TE} {k : Nat} {p1 p2 p3 pos : Pos} (he : PE X e te) : PE X (.Subscript e (.Slice none none (some (.UnaryOp .USub (.Constant (.int 1) k p1) p2)) p3) pos) (tRevT X.K te) := by
  refine ⟨fun pins s σ H Q I h => ?_⟩
  refine Subscript_ (thn (he.run pins s σ H _ I h) fun v s1 ⟨x, H1, I1, r1, q1⟩ => ?_)
  obtain ⟨a, xs, ex, hx, q⟩ := q1
  subst ex
  cases r1
  have hst : PO X (some (.UnaryOp .USub (.Constant (.int 1) k p1) p2)) (tPart (tUn (rU fun i => .int (-i)) (tC (.int 1)))) := po_some (pe_un un_neg pe_int)
  refine wpAny_Slice (thn (po_none.run pins s1 σ H1 (fun o H2 => o = none ∧ H2 = H1) I1 ⟨rfl, rfl⟩) fun vl s2 ⟨l, H2, I2, pl, el, e2⟩ => ?_)
  subst el e2
  refine thn (po_none.run pins s2 σ H2 (fun o H3 => o = none ∧ H3 = H2) I2 ⟨rfl, rfl⟩) fun vu s3 ⟨u, H3, I3, pu, eu, e3⟩ => ?_
  subst eu e3
  refine thn (hst.run pins s3 σ H3 (fun o H4 => o = some (-1) ∧ H4 = H3) I3 ⟨1, rfl, -1, rfl, rfl, rfl⟩) fun vs s4 ⟨o, H4, I4, ps, eo, e4⟩ => ?_
  subst eo e4
  have I5 : Inv X pins σ H4 { s4 with heap := s4.heap.push { cls := .type "slice", data := .fields #[vl, vu, vs] } } := I4.kept (t' := s4.toks) fun b ob q => Heap.get?_push_of_some _ q
  obtain ⟨its, r, ht, hz⟩ := I5.tuple hx
  have hlen := r.length
  cases pl
  cases pu
  cases ps
  rename_i tk _
  show wpAny (model X.prog X.w) X.A (subscriptTail e (.Slice none none (some (.UnaryOp .USub (.Constant (.int 1) k p1) p2)) p3) (.ref a) (.ref s4.heap.objs.size)) (EP X pins σ Q) X.xe { s4 with heap := s4.heap.push { cls := .type "slice", data := .fields #[.none, .none, .int (-1) tk] } }
  refine tail_any (ops := [.ref a, .ref s4.heap.objs.size]) ht.typeIs (PyProof.Rows.slot_tuple_getitem.lookup) ?_ (by with_unfolding_all rfl)
  refine getItem_tuple_rev ht (Heap.IsSliceOf.new _ .none .none (.int (-1) tk)) ?_ (by rw [List.size_toArray]; omega)
  refine ⟨.ref _, _, I5.laid (t' := s4.toks) (o := .tup xs.reverse) (fun b ob q => Heap.get?_push_of_some _ q) (Nat.le_refl _) ?_, rfl, q _ (I5.hok.fresh (Nat.le_refl _))⟩
  exact ⟨by rw [List.length_reverse]; exact hz, _, r.reverse, IsTup.new _ _⟩
def dRev (mk : List D → Sto → R D) (a : D) (S : Sto) : R D := match a with
  | .tup xs => .ok (.tup xs.reverse) S
  | a => match lstOf S a with
    | some xs => mk xs.reverse S
    | none => .stuck
def eRev (mk : List D → Sto → R D) (f : Ev → Sto → R D) : Ev → Sto → R D := fun ρ S => (f ρ S).bind fun d S1 => dRev mk d S1
theorem RepL.reverse {K : PySem.W.Frag} {ι : List Addr} {H : Hp} : ∀ (ds : List D) (vs : List V), RepL K ι H ds vs → RepL K ι H ds.reverse vs.reverse
  | [], _, h => by rw [RepL] at h; subst h; exact RepL.nil
  | d :: ds, _, h => by
    rw [RepL] at h
    obtain ⟨v, r, rfl, a, b⟩ := h
    rw [List.reverse_cons, List.reverse_cons]
    exact RepL.app _ _ (RepL.reverse ds r b) _ _ (RepL.one a)
theorem de_rev {X : Cx} {W : WX} {e : Expr} {mk : List D → Sto → R D} {k : Nat} {p1 p2 p3 pos : Pos} {f : Ev → Sto → R D} (m : MkOk mk) (he : DE X W e f) : DE X W (.Subscript e (.Slice none none (some (.UnaryOp .USub (.Constant (.int 1) k p1) p2)) p3) pos) (eRev mk f) := by
  refine PE.imp (PE.or (pe_revT he) (pe_revL he)) fun σ H Q ⟨ι, ρ, S, hE, hS, h⟩ => ?_
  unfold eRev at h
  cases hf : f ρ S with
  | stuck => rw [hf] at h; exact h.elim
  | er x S1 => rw [hf] at h; exact .inl ⟨ι, ρ, S, hE, hS, by rw [hf]; exact h⟩
  | ok d S1 =>
    rw [hf] at h
    replace h : Post X.K W σ ι H (dRev mk d S1) fun d _ ι' H' => ∀ v, RepV X.K ι' H' d v → Q v H' := h
    by_cases ht : ∃ xs, d = .tup xs
    · obtain ⟨xs, rfl⟩ := ht
      refine .inl ⟨ι, ρ, S, hE, hS, ?_⟩
      rw [hf]
      intro ι1 H1 G1 s1 v rv
      obtain ⟨p, vs, rfl, q, rl⟩ := tup_at rv
      refine ⟨p, vs, rfl, q, fun p hp => ?_⟩
      exact h ι1 _ (G1.trans (Grow.upd hp)) (s1.upd hp) _ (rep_tup s1 hp (RepL.reverse _ _ rl))
    · refine .inr ⟨ι, ρ, S, hE, hS, ?_⟩
      rw [hf]
      intro ι1 H1 G1 s1 v rv
      have e : dRev mk d S1 = match lstOf S1 d with
        | some xs => mk xs.reverse S1
        | none => .stuck := by
        cases d <;> first | rfl | exact absurd ⟨_, rfl⟩ ht
      rw [e] at h
      cases hl : lstOf S1 d with
      | none => rw [hl] at h; exact h.elim
      | some xs =>
        rw [hl] at h
        replace h : Post X.K W σ ι H (mk xs.reverse S1) fun d _ ι' H' => ∀ v, RepV X.K ι' H' d v → Q v H' := h
        obtain ⟨p, vs, rfl, q, rl⟩ := lst_at s1 rv hl
        refine ⟨p, vs, rfl, SqL.of q, ?_⟩
        have h' : Post X.K W σ ι1 H1 (mk xs.reverse S1) fun d _ ι' H' => ∀ v, RepV X.K ι' H' d v → Q v H' := by
          revert h
          cases mk xs.reverse S1 with
          | ok d S2 => exact fun h ι2 H2 G2 s2 => h ι2 H2 (G1.trans G2) s2
          | er d S2 => exact fun h ι2 H2 cls dd G2 s2 => h ι2 H2 cls dd (G1.trans G2) s2
          | stuck => exact fun h => h
        exact m _ _ _ _ _ _ _ _ _ h' s1 (RepL.reverse _ _ rl)
/-! ### sorted of whole numbers -/
def sortI (l : List Int) : List Int := l.mergeSort (fun a b => decide (a ≤ b))
theorem sortI_perm (l : List Int) : (sortI l).Perm l := List.mergeSort_perm _ _
theorem sortI_sorted (l : List Int) : (sortI l).Pairwise (· ≤ ·) := by
  have := List.pairwise_mergeSort (le := fun a b : Int => decide (a ≤ b)) (fun a b c h1 h2 => by simp at *; omega) (fun a b => by simp; omega) l
  exact this.imp fun h => by simpa using h
theorem sorted_unique : ∀ {l m : List Int}, l.Perm m → l.Pairwise (· ≤ ·) → m.Pairwise (· ≤ ·) → l = m
  | [], m, p, _, _ => (List.nil_perm.mp p).symm
  | a :: l, [], p, _, _ => absurd p.symm (by intro q; have := List.nil_perm.mp q; cases this)
  | a :: l, b :: m, p, h1, h2 => by
    have ha : a ∈ b :: m := p.mem_iff.mp List.mem_cons_self
    have hb : b ∈ a :: l := p.mem_iff.mpr List.mem_cons_self
    have h1' := List.pairwise_cons.mp h1
    have h2' := List.pairwise_cons.mp h2
    have e : a = b := by
      rcases List.mem_cons.mp ha with e | ha
      · exact e
      · rcases List.mem_cons.mp hb with e | hb
        · exact e.symm
        · have := h1'.1 b hb; have := h2'.1 a ha; omega
    subst e
    rw [sorted_unique (List.Perm.cons_inv p) h1'.2 h2'.2]
def bSorted : Fn := fun ds S => match ds with
  | [d] => (match (lstOf S d).bind intsOf with
    | some is => .ok (.fl ((sortI is).map D.int)) S
    | none => .stuck)
  | _ => .stuck
theorem k_sorted {K : PySem.W.Frag} : CallK K (rSortedI K) bSorted := by
  intro W σ ι H S vs ds Q s rl h
  unfold bSorted at h
  split at h
  · obtain ⟨v, rfl, rv⟩ := RepL.one_inv rl
    split at h
    · rename_i is hi
      obtain ⟨p, rfl, q⟩ := lst_ints s rv hi
      refine ⟨p, is, rfl, q, fun ns' p' hp hs hn => ?_⟩
      have e : ns' = sortI is := sorted_unique (hp.trans (sortI_perm is).symm) hs (sortI_sorted is)
      subst e
      exact new_fl h s (repL_ints _) p' hn
    · exact h.elim
  · exact h.elim
/-! ### zip of two tuples or of two lists -/
def zipD (xs ys : List D) : List D := (xs.zip ys).map fun q => .tup [q.1, q.2]
def srcZip (a b : D) (S : Sto) : R Src := match a, b with
  | .tup xs, .tup ys => .ok (zipD xs ys, yes) S
  | .fl xs, .fl ys => .ok (zipD xs ys, yes) S
  | _, _ => .stuck
def iZipD (g : Ev → Sto → R (List D)) : Ev → Sto → R Src := fun ρ S => (g ρ S).bind fun ds S1 => match ds with
  | [a, b] => srcZip a b S1
  | _ => .stuck
theorem zipD_get {xs ys : List D} {i : Nat} {d : D} (h : (zipD xs ys)[i]? = some d) : ∃ x y, xs[i]? = some x ∧ ys[i]? = some y ∧ d = .tup [x, y] := by
  unfold zipD at h
  rw [List.getElem?_map] at h
  cases e : (xs.zip ys)[i]? with
  | none => rw [e] at h; cases h
  | some q =>
    rw [e] at h; cases h
    obtain ⟨x, y⟩ := q
    rw [List.getElem?_zip_eq_some] at e
    exact ⟨x, y, e.1, e.2, rfl⟩
theorem zipD_len (xs ys : List D) : (zipD xs ys).length = min xs.length ys.length := by simp [zipD]
theorem di_zip {X : Cx} {W : WX} {e e2 : Expr} {g : Ev → Sto → R (List D)} {p pos tpos : Pos} {elts : List Expr} {kk : Nat} (hg : Gl X "zip") (hm : X.mg "zip" = none) (ha : DA X W [e, e2] g)
    (hs : starEach [e, e2] X.env = (false, eval e X.env) :: starEach [e2] X.env := by rfl) (hpl : (backTo pos (starEach [e2] X.env)).any (·.1) = false := by rfl) :
    DI X W (.Tuple elts kk tpos) (.Call (.Name "zip" p) [e, e2] [] pos) (iZipD g) := by
  refine PI.imp (RZ.pi_zipA hg hm ha hs hpl) fun σ H Rr ⟨ι, ρ, S, hE, hS, q⟩ => ⟨ι, ρ, S, hE, hS, (Post.bind q).mono fun ds S1 ι1 H1 G1 s1 h1 vs rs => ?_⟩
  split at h1
  · obtain ⟨v, u, rfl, rv, ru⟩ := RepL.two_inv rs
    unfold srcZip at h1
    split at h1
    · rename_i xs ys
      rw [RepV] at rv ru
      obtain ⟨a, us, rfl, ta, ra⟩ := rv
      obtain ⟨b, ws, rfl, tb, rb⟩ := ru
      refine ⟨a, b, us, ws, rfl, .inr ⟨ta.sq, tb.sq, ?_⟩⟩
      refine h1 ι1 H1 (Grow.refl _ _) s1 _ fun ι2 H2 S2 G2 s2 _ => ⟨fun i hi => ⟨us, ws, (ta.grow G2).sq, (tb.grow G2).sq, ?_⟩, fun i d hd => ?_⟩
      · rw [zipD_len] at hi
        rw [← RepL.length _ _ ra, ← RepL.length _ _ rb]; omega
      · obtain ⟨x, y, hx, hy, rfl⟩ := zipD_get hd
        obtain ⟨vx, hvx, rx⟩ := RepL.get _ _ (RepL.grow G2 _ _ ra) i x hx
        obtain ⟨vy, hvy, ry⟩ := RepL.get _ _ (RepL.grow G2 _ _ rb) i y hy
        refine ⟨⟨us, ws, vx, vy, (ta.grow G2).sq, (tb.grow G2).sq, hvx, hvy⟩, fun z H3 hz => ?_⟩
        obtain ⟨T, x', y', rfl, hT, rfl, hx', hy'⟩ := hz
        have e1 := hx' us (ta.grow G2).sq
        have e2 := hy' ws (tb.grow G2).sq
        rw [hvx] at e1; rw [hvy] at e2
        cases e1; cases e2
        exact ⟨Grow.upd hT, s2.upd hT, rep_tup s2 hT (RepL.cons rx (RepL.one ry))⟩
    · rename_i xs ys
      rw [RepV] at rv ru
      obtain ⟨a, us, rfl, ta, ra⟩ := rv
      obtain ⟨b, ws, rfl, tb, rb⟩ := ru
      refine ⟨a, b, us, ws, rfl, .inl ⟨ta.sq, tb.sq, ?_⟩⟩
      refine h1 ι1 H1 (Grow.refl _ _) s1 _ fun ι2 H2 S2 G2 s2 _ => ⟨fun i hi => ⟨us, ws, (ta.grow G2).sq, (tb.grow G2).sq, ?_⟩, fun i d hd => ?_⟩
      · rw [zipD_len] at hi
        rw [← RepL.length _ _ ra, ← RepL.length _ _ rb]; omega
      · obtain ⟨x, y, hx, hy, rfl⟩ := zipD_get hd
        obtain ⟨vx, hvx, rx⟩ := RepL.get _ _ (RepL.grow G2 _ _ ra) i x hx
        obtain ⟨vy, hvy, ry⟩ := RepL.get _ _ (RepL.grow G2 _ _ rb) i y hy
        refine ⟨⟨us, ws, vx, vy, (ta.grow G2).sq, (tb.grow G2).sq, hvx, hvy⟩, fun z H3 hz => ?_⟩
        obtain ⟨T, x', y', rfl, hT, rfl, hx', hy'⟩ := hz
        have e1 := hx' us (ta.grow G2).sq
        have e2 := hy' ws (tb.grow G2).sq
        rw [hvx] at e1; rw [hvy] at e2
        cases e1; cases e2
        exact ⟨Grow.upd hT, s2.upd hT, rep_tup s2 hT (RepL.cons rx (RepL.one ry))⟩
    · exact h1.elim
  · exact h1.elim
end DL

/-! tuple * int, all numbers. -/
namespace DL
open PySem PySem.Spec L2
open PyProof.Rows hiding St
open PySem.AutoSeq1 (wpAny_loadPart')
theorem tuple_mulSame (l : Addr) (items : Array Value) (n : Nat) (dd : Option Addr) (sl : Array (Option Value)) (x : Int) (u : Tok) (c0 : (decide (x < -(2 ^ 63)) || decide (x ≥ 2 ^ 63)) = false) (c1 : (items.isEmpty || x == 1) = true) :
    Meets (Builtin.«tuple.__mul__» ⟨[.ref l, .int x u], []⟩) (fun _ R s => s.heap.get? l = some { cls := .type "tuple", dict := dd, data := .seq items n, slots := sl } ∧ R (.ok (.ret (Value.ref l))) s) :=
  .of_wp fun prog w A R s h => by
    obtain ⟨hp, g, d, tk, os⟩ := s
    obtain ⟨hl, h⟩ := h
    have f1 := AutoSeq1.idx_int
    wp_walk using wpAny_loadPart' hl
    repeat (first
      | (refine wpAny_ite_false (decide_eq_false (by rw [c0]; exact Bool.false_ne_true)) ?_; wp_walk using wpAny_loadPart' hl)
      | (refine wpAny_ite_true (decide_eq_true (by rw [c1])) ?_; wp_walk using wpAny_loadPart' hl)
      | (with_reducible rw [if_pos (show (items.isEmpty || x == 1) = true from c1)]; wp_walk using wpAny_loadPart' hl))
    exact ⟨_, rfl, h⟩
theorem tuple_mulNil (l : Addr) (items : Array Value) (n : Nat) (dd : Option Addr) (sl : Array (Option Value)) (x : Int) (u : Tok) (c0 : (decide (x < -(2 ^ 63)) || decide (x ≥ 2 ^ 63)) = false) (c1 : (items.isEmpty || x == 1) = false) (c2 : (decide (x ≤ 0) || items.isEmpty) = true) :
    Meets (Builtin.«tuple.__mul__» ⟨[.ref l, .int x u], []⟩) (fun _ R s => s.heap.get? l = some { cls := .type "tuple", dict := dd, data := .seq items n, slots := sl } ∧
      R (.ok (.ret (Value.ref s.heap.objs.size))) { s with heap := s.heap.push { cls := Value.type "tuple", data := Data.seq #[] }, toks := s.toks }) :=
  .of_wp fun prog w A R s h => by
    obtain ⟨hp, g, d, tk, os⟩ := s
    obtain ⟨hl, h⟩ := h
    have f1 := AutoSeq1.idx_int
    wp_walk using wpAny_loadPart' hl
    repeat (first
      | (refine wpAny_ite_false (decide_eq_false (by rw [c0]; exact Bool.false_ne_true)) ?_; wp_walk using wpAny_loadPart' hl)
      | (refine wpAny_ite_false (decide_eq_false (by rw [c1]; exact Bool.false_ne_true)) ?_; wp_walk using wpAny_loadPart' hl)
      | (refine wpAny_ite_true (decide_eq_true (by rw [c2])) ?_; wp_walk using wpAny_loadPart' hl))
    exact ⟨_, rfl, h⟩
def rRepTS (K : PySem.W.Frag) : R2 := fun x y H Q => ∃ l k xs, x = .ref l ∧ y = .int k ∧ SqT K H l xs ∧ -(2 ^ 63) ≤ k ∧ k < 2 ^ 63 ∧ (xs = [] ∨ k = 1) ∧ Q (.ref l) H
def rRepTN (K : PySem.W.Frag) : R2 := fun x y H Q => ∃ l k xs, x = .ref l ∧ y = .int k ∧ SqT K H l xs ∧ xs ≠ [] ∧ -(2 ^ 63) ≤ k ∧ k ≤ 0 ∧ ∀ p, H p = none → Q (.ref p) (upd H p (.tup []))
section
variable {X : Cx}
theorem op_repTS : OpR X (binaryOp .Mult) (rRepTS X.K) := by
  intro pins s σ H x y v u Q I rx ry h
  obtain ⟨l, k, xs, rfl, rfl, hT, h1, h2, hne, q⟩ := h
  cases rx
  obtain ⟨t, rfl⟩ := ry
  obtain ⟨its, r, ⟨⟨cls, dd, data, sl⟩, ho, hc, n, hd⟩, hs⟩ := I.tuple hT
  simp only at hc hd
  subst hc hd
  have hle : its.length = xs.length := r.length.symm
  have c0 : (decide (k < -(2 ^ 63)) || decide (k ≥ 2 ^ 63)) = false := by
    rw [decide_eq_false (by omega), decide_eq_false (by omega)] <;> rfl
  have c1 : (its.toArray.isEmpty || k == 1) = true := by
    rcases hne with e | e
    · subst e
      have : its = [] := List.eq_nil_of_length_eq_zero hle
      subst this; rfl
    · subst e; simp
  exact wpAny_binaryOp_repeat_ref (T := "tuple") (U := "int") (by decide) ⟨_, ho, rfl⟩ (fun s' => typeIs_int s' k t) noFill_tuple_mul F.fills_int_mul F.slot_int_rmul repeat_tuple F.slot_int_index.lookup
    (call_meets F.slot_int_rmul (typeIs_int s k t) F.entry_int_rmul (F.args_int_rmul_2 _ _) (int_rmul_tuple k t l its.toArray n dd sl)
      ⟨ho, rfl, ⟨_, ho, rfl⟩, call_meets F.slot_tuple_mul ⟨_, ho, rfl⟩ F.entry_tuple_mul (F.args_tuple_mul_2 _ _) (tuple_mulSame l its.toArray n dd sl k t c0 c1) ⟨ho, ⟨.ref l, H, I, rfl, q⟩⟩⟩)
theorem op_repTN : OpR X (binaryOp .Mult) (rRepTN X.K) := by
  intro pins s σ H x y v u Q I rx ry h
  obtain ⟨l, k, xs, rfl, rfl, hT, hne, h1, h2, q⟩ := h
  cases rx
  obtain ⟨t, rfl⟩ := ry
  obtain ⟨its, r, ⟨⟨cls, dd, data, sl⟩, ho, hc, n, hd⟩, hs⟩ := I.tuple hT
  simp only at hc hd
  subst hc hd
  have hle : its.length = xs.length := r.length.symm
  have hn : its ≠ [] := fun e => hne (by
    rw [e] at hle
    exact List.eq_nil_of_length_eq_zero hle.symm)
  have hi : its.toArray.isEmpty = false := by
    cases its with
    | nil => exact absurd rfl hn
    | cons a b => rfl
  have c0 : (decide (k < -(2 ^ 63)) || decide (k ≥ 2 ^ 63)) = false := by
    rw [decide_eq_false (by omega), decide_eq_false (by omega)] <;> rfl
  have c1 : (its.toArray.isEmpty || k == 1) = false := by
    rw [hi, Bool.false_or]
    exact beq_eq_false_iff_ne.mpr (by omega)
  have c2 : (decide (k ≤ 0) || its.toArray.isEmpty) = true := by rw [decide_eq_true h2]; rfl
  refine wpAny_binaryOp_repeat_ref (T := "tuple") (U := "int") (by decide) ⟨_, ho, rfl⟩ (fun s' => typeIs_int s' k t) noFill_tuple_mul F.fills_int_mul F.slot_int_rmul repeat_tuple F.slot_int_index.lookup
    (call_meets F.slot_int_rmul (typeIs_int s k t) F.entry_int_rmul (F.args_int_rmul_2 _ _) (int_rmul_tuple k t l its.toArray n dd sl)
      ⟨ho, rfl, ⟨_, ho, rfl⟩, call_meets F.slot_tuple_mul ⟨_, ho, rfl⟩ F.entry_tuple_mul (F.args_tuple_mul_2 _ _) (tuple_mulNil l its.toArray n dd sl k t c0 c1 c2) ⟨ho, ?_⟩⟩)
  refine ⟨.ref s.heap.objs.size, _, I.laid (t' := s.toks) (o := .tup []) (fun b ob q => Heap.get?_push_of_some _ q) (Nat.le_refl _) ?_, rfl, q _ (I.hok.fresh (Nat.le_refl _))⟩
  exact ⟨Nat.zero_le _, [], .nil, IsTup.new _ _⟩
end
noncomputable def dMulT (a b : D) (S : Sto) : R D := match a, b with
  | .tup xs, .int k => ifp (-(2 ^ 63) ≤ k ∧ k ≤ 1000 ∧ xs.length ≤ 1000) (.ok (.tup (List.replicate k.toNat xs).flatten) S) .stuck
  | a, b => dMul a b S
def rMulT (K : PySem.W.Frag) : R2 := fun x y H Q => rRepTS K x y H Q ∨ rRepTN K x y H Q ∨ rRepT K x y H Q ∨ rMulD x y H Q
theorem or_mulT {X : Cx} : OpR X (binaryOp .Mult) (rMulT X.K) := OpR.or op_repTS (OpR.or op_repTN (OpR.or op_repT or_mul))
theorem k_mulT {K : PySem.W.Frag} : OpK K (rMulT K) dMulT := by
  intro W σ ι H S x y a b Q s rx ry h
  unfold dMulT at h
  split at h
  · rename_i xs k
    unfold ifp at h
    split at h
    · rename_i hl
      have rx' := rx
      obtain ⟨p, vs, rfl, hp, rp⟩ := tup_at rx
      have hlen := RepL.length _ _ rp
      by_cases h1 : vs = [] ∨ k = 1
      · refine .inl ⟨p, k, vs, rfl, int_at ry, hp, hl.1, by omega, h1, ?_⟩
        have e : (List.replicate k.toNat xs).flatten = xs := by
          rcases h1 with e | e
          · subst e
            have : xs = [] := List.eq_nil_of_length_eq_zero hlen
            subst this; simp
          · subst e; simp
        rw [e] at h
        exact h.here s _ rx'
      · have hne : vs ≠ [] := fun z => h1 (.inl z)
        have hk : k ≠ 1 := fun z => h1 (.inr z)
        by_cases h2 : k ≤ 0
        · refine .inr (.inl ⟨p, k, vs, rfl, int_at ry, hp, hne, hl.1, h2, ?_⟩)
          have e : (List.replicate k.toNat xs).flatten = [] := by
            have : k.toNat = 0 := by omega
            rw [this]; rfl
          rw [e] at h
          exact new_tup h s RepL.nil
        · refine .inr (.inr (.inl ⟨p, k, vs, rfl, int_at ry, hp, hne, by omega, hl.2.1, by omega, ?_⟩))
          exact new_tup h s (RepL.replicate rp _)
    · exact h.elim
  · exact .inr (.inr (.inr (k_mul W σ ι H S x y a b Q s rx ry h)))
end DL

/-! Errors of the program: made, raised. -/
namespace DL
open PySem PySem.Spec L2
open PyProof.Rows hiding St
/-- a built-in class that errors of the program are built on -/
structure XBase (newId : String) (bmB : List Value) : Prop where
  fb : ∃ B initId, ExcBaseFacts B newId initId bmB
  pass : ∀ self, PySem.refuseLoop self "__setattr__" bmB = pure ()
  ob : bmB.contains (.type "object") = true
theorem xb_VE : XBase "ValueError.__new__" [.type "ValueError", .type "Exception", .type "BaseException", .type "object"] := ⟨⟨_, _, PySem.F.excBase_ValueError⟩, fun s => PySem.F.store_ValueError.passes s, by decide +kernel⟩
theorem xb_LE : XBase "LookupError.__new__" [.type "LookupError", .type "Exception", .type "BaseException", .type "object"] := ⟨⟨_, _, PySem.F.excBase_LookupError⟩, fun s => PySem.F.store_LookupError.passes s, by decide +kernel⟩

/-! ### self.f = v on a fresh error -/
section
open PySem.Builtin PySem.Builtin.ObjectAttr PySem.HandSPX
variable {prog : Program} {w : World} {A : Around} {E : Value → Shared → Prop} {R : Result → Shared → Prop} {hp : Heap} {g : Array GenState} {d : Drawn} {t : Nat} {os : OsState}
theorem osaB {K : PySem.W.Frag} {newId : String} {bmB : List Value} {name : Str} {tk : Tok} {v : Value} {x C : Addr} {fv : Array Value} {cd : ClassData}
    (XB : XBase newId bmB) (X : K.In hp) (hx : hp.get? x = some { cls := .ref C, data := .fields fv }) (hcd : PySem.W.clsIn K C = some cd) (hm : PySem.W.excTail bmB cd.mro = true) (hne : cd.mro.isEmpty = false) (hh : cd.hasDict = true) (ha : PySem.W.findIn K (.ref C) name = some none)
    (hq : ∀ h' tk' dx, (∀ b o, b ≠ x → hp.get? b = some o → h'.get? b = some o) → hp.objs.size ≤ dx → dx ≠ x → h'.get? x = some { cls := .ref C, dict := some dx, data := .fields fv } →
      h'.Ns1 dx (fun y => if y = name then some v else none) → R (.ok (.ret .none)) ⟨h', g, d, tk', os⟩) :
    codeAny (model prog w) A (.call (.builtin "object.__setattr__") ⟨[.ref x, .str name tk, v], []⟩) R ⟨hp, g, d, t, os⟩ := by
  have I : PySem.W.InstAt hp x { cls := .ref C, data := .fields fv } C none := ⟨hx, rfl, rfl, trivial⟩
  have SF := PySem.F.store_object
  have hob : cd.mro.contains (.type "object") = true := (PySem.W.excTail_contains "object" _ hm).trans XB.ob
  have hxs : x ≠ hp.objs.size := Nat.ne_of_lt (Heap.lt_size hx)
  have msub : PySem.W.mroIn K C (.type "object") = some true := by
    unfold PySem.W.mroIn; rw [hcd, Option.bind_some, if_neg (by rw [hne]; decide), hob]
  have isub : PySem.W.Looks (model prog w) hp (isInstance (.ref x) (.type "object")) true := I.type.andThen (PySem.W.looks_mroIn X msub)
  refine codeAny_call_builtin SF.slot.plain SF.entry (@PySem.W.check_slot (model prog w) _ _ ⟨hp, g, d, t, os⟩ "object.__setattr__" "object" "__setattr__" (.ref x) [.str name tk, v] [] _ SF.kind SF.split isub (SF.args (.ref x) (.str name tk) v) ?_)
  have lm : PySem.W.Looks (model prog w) hp (mroOf (.ref C)) cd.mro := (PySem.W.looks_clsIn X hcd).andThen .now
  have lt : PySem.W.Looks (model prog w) hp (storeTaker? none) none := .now
  have lc : PySem.W.Looks (model prog w) hp (classData C) cd := PySem.W.looks_clsIn X hcd
  rw [PySem.W.osa_eq, refuse_eq]
  refine wpAny_bind (wpAny_bind (I.type.at (wpAny_bind (lm.at ?_))))
  rw [PySem.W.excTail_pass _ (XB.pass _) _ hm]
  refine wpAny_pure (wpAny_bind (I.type.at (wpAny_bind ((PySem.W.looks_findIn X ha).at (wpAny_bind (lt.at ?_))))))
  show wpAny _ _ (storeInOwnDict (.ref x) (.ref C) (.str name tk) name v false) _ _ _
  obtain ⟨nm, bs, mro, ns, qn, hd, sn, sb, ab, col, del⟩ := cd
  dsimp only at hh
  subst hh
  unfold storeInOwnDict ownDictForStores
  repeat (first | with_reducible refine store_in_new ?_ ?_ | with_reducible refine wpAny_loadPart_at hx ?_ | with_reducible refine lc.at ?_ | wp_step)
  · exact ⟨_, #[], _, (Heap.get?_update_ne _ _ _ _ hxs.symm).trans (Heap.get?_push_at rfl rfl), rfl, fun e he => absurd he (by simp), fun _ => rfl⟩
  · intro h' tk' hn' hs
    have hx₁ : (hp.push { cls := .type "dict", data := .dict #[] }).get? x = some { cls := .ref C, data := .fields fv } := Heap.get?_push_of_some _ hx
    refine hq h' tk' hp.objs.size (fun b o hb ho => ?_) (Nat.le_refl _) hxs.symm ?_ hn'
    · exact (hs.2 b (Nat.ne_of_lt (Heap.lt_size ho))).trans ((Heap.get?_update_ne _ _ _ _ hb).trans (Heap.get?_push_of_some _ ho))
    · exact (hs.2 x hxs).trans (Heap.get?_update_self _ hx₁ rfl)
end
/-! ### the text of __init__(self, f): self.f = f -/
def iA (f : Str) (p1 p2 : Pos) : Arguments := { posonlyargs := [], args := [{ arg := "self", annotation := none, pos := p1 }, { arg := f, annotation := none, pos := p2 }], vararg := none, kwonlyargs := [], kw_defaults := [], kwarg := none, defaults := [] }
def iB (f : Str) (q1 q2 q3 q4 : Pos) : List Stmt := [.Assign [.Attribute (.Name "self" q1) f q2] (.Name f q3) q4]
def iS (f : Str) : Scope := { kind := .function, names := [(PySem.Str.ofString "self", .local), (f, .local)], isGenerator := false, isCoroutine := false, more := [] }
/-- what the written part says of an own error's class n, at C -/
structure XCls (K : PySem.W.Frag) (n : Str) (C : Addr) : Prop where
  ns : PySem.W.nsIn K mainGlobals n = some (some (.ref C))
  kC : PySem.W.keepIn K (.ref C) = true
  exC : PySem.W.subIn K (.ref C) (.type "BaseException") = some true
  tyC : PySem.W.typeIn K (.ref C) = some (.type "type")
/-- .. with an __init__ of that text, at fI -/
structure XInit (K : PySem.W.Frag) (C fI : Addr) (qual f : Str) : Prop where
  cls : ∃ newId bmB nm q N bs bm sn sub ab col dd k0 k1 k2 k3 k5, XBase newId bmB ∧ K.lookup C = some (excClassObj nm q C N bs bm true sn sub ab col dd k0 k1 k2 k3 k5 newId) ∧ PySem.W.excTail bmB bm = true
  sa : PySem.W.findIn K (.ref C) "__setattr__" = some (some (.builtin "object.__setattr__"))
  noN : PySem.W.findIn K (.ref C) f = some none
  iC : PySem.W.findIn K (.ref C) "__init__" = some (some (.ref fI))
  tC : PySem.W.typeIn K (.ref fI) = some (.type "function")
  fn : ∃ (oc : Value) (od : Option Addr) (doc pm : Value) (an : Option Addr) (cdv ct : Value) (osl : Array (Option Value)) (p1 p2 q1 q2 q3 q4 : Pos),
    K.lookup fI = some ⟨oc, od, .func (PySem.W.fnOf "__init__" qual (iA f p1 p2) (iB f q1 q2 q3 q4) (iS f) .none .none doc pm an cdv ct), osl⟩ ∧ PySem.W.codeIn K cdv qual = true
  bd : ∀ (doc pm : Value) (an : Option Addr) (cdv ct : Value) (p1 p2 q1 q2 q3 q4 : Pos) (x v : Value), bindArgs (PySem.W.fnOf "__init__" qual (iA f p1 p2) (iB f q1 q2 q3 q4) (iS f) .none .none doc pm an cdv ct) ⟨[x, v], []⟩ = pure [(("self" : Str), x), (f, v)]
  fs : f ≠ "self"
  fd : (f == ("__debug__" : Str)) = false
theorem ldCf {M : Model} {s : Shared} {name : Str} {scope : Scope} {L a : Addr} {cd : Value} {m : Str → Option Value} {x : Str} {pos : Pos} {v : Value} {Q : Value → Shared → Prop} {A : Around} {E : Value → Shared → Prop} (hn : s.heap.Ns L m) (hv : m x = some v) (h : Q v s)
    (hk : scope.kind = .function) (hl : (envOfC name scope L a cd).kindOf x = some .local) (hd : (x == ("__debug__" : Str)) = false) :
    wpAny M A (eval (.Name x pos) (envOfC name scope L a cd)) Q E s := wpAny_Name (wpAny_loadName_local hk hl hn hv h) hd
theorem iS_self (f : Str) : (iS f).names.lookup ("self" : Str) = some .local := by
  show List.lookup (PySem.Str.ofString "self") [(PySem.Str.ofString "self", NameKind.local), (f, NameKind.local)] = _
  simp [List.lookup]
theorem iS_f (f : Str) : (iS f).names.lookup f = some .local := by
  show List.lookup f [(PySem.Str.ofString "self", NameKind.local), (f, NameKind.local)] = _
  by_cases h : f = PySem.Str.ofString "self"
  · simp [List.lookup, h]
  · have : (f == PySem.Str.ofString "self") = false := by simpa using h
    simp [List.lookup, this]
structure InitEnd (h h' : Heap) (x C dx t1 : Addr) (f : Str) (v : Value) : Prop where
  keep : ∀ b o, b ≠ x → h.get? b = some o → h'.get? b = some o
  obj : h'.get? x = some { cls := .ref C, dict := some dx, data := .fields #[.ref t1, .none, .none, .none, .bool false, .none] }
  dbig : h.objs.size ≤ dx
  dne : dx ≠ x
  ns : h'.Ns1 dx (fun y => if y = f then some v else none)
structure OwnMade (h h' : Heap) (e C d : Addr) (f : Str) (v : Value) : Prop where
  keep : ∀ b o, h.get? b = some o → h'.get? b = some o
  new : h.objs.size ≤ e
  obj : ∃ oe vs, h'.get? e = some oe ∧ oe.cls = .ref C ∧ oe.dict = some d ∧ oe.data = .fields vs ∧ vs[1]? = some .none
  dbig : h.objs.size ≤ d
  dne : d ≠ e
  ns : h'.Ns1 d (fun y => if y = f then some v else none)
section
open PySem.W PySem.Calls PySem.HandSPX
variable {prog : Program} {w : World} {A : Around} {E : Value → Shared → Prop} {R : Result → Shared → Prop} {s : Shared} {K : Frag} {C fI : Addr} {qual f : Str}
theorem x_init (T : XInit K C fI qual f) {x t0 : Addr} {v : Value} (X : K.In s.heap) (hlim : s.heap.NoLimit) (hx : s.heap.get? x = some (excO C t0)) (hroom : A.depth < recursionLimit)
    (hq : ∀ h' tk dx, InitEnd s.heap h' x C dx t0 f v → R (.ok (.ret .none)) { s with heap := h', toks := tk }) :
    codeAny (model prog w) A (.call (.ref fI) ⟨[.ref x, v], []⟩) R s := by
  obtain ⟨oc, od, doc, pm, an, cdv, ct, osl, p1, p2, q1, q2, q3, q4, ho, hcd⟩ := T.fn
  obtain ⟨newId, bmB, nm, q, N, bs, bm, sn, sub, ab, col, dd, k0, k1, k2, k3, k5, XB, hC, hbm⟩ := T.cls
  have hcl : clsIn K C = some { name := nm, bases := bs, mro := .ref C :: bm, ns := N, qualname := q, hasDict := true, slotNames := sn, subclasses := sub, abstract := ab, collection := col, hasDel := false } := by unfold clsIn; rw [hC] <;> rfl
  refine Att.call_fn (binds := [("self", .ref x), (f, v)]) X hlim ho hcd hroom (BindsTo.of_eq (T.bd _ _ _ _ _ _ _ _ _ _ _ _ _)) ?_ (fun s₁ IC => ?_) rfl rfl rfl
  · simp only [List.all_cons, List.all_nil, iS_self, iS_f]; rfl
  obtain ⟨h₁, tk₁, rfl⟩ := IC.toInCall.same
  have k : ∀ b o, s.heap.get? b = some o → h₁.get? b = some o := IC.toInCall.keep
  have hn := IC.toInCall.ns
  have X₁ : K.In h₁ := X.keeps k
  have hx₁ := k _ _ hx
  have kf : (envOfC qual (iS f) s.heap.objs.size fI cdv).kindOf f = some .local := iS_f f
  have ks : (envOfC qual (iS f) s.heap.objs.size fI cdv).kindOf "self" = some .local := iS_self f
  have mf : bindL (envOfC qual (iS f) s.heap.objs.size fI cdv).kindOf [("self", .ref x), (f, v)] (fun _ => none) f = some v := by
    simp only [bindL, kf, ks, if_true]
  have ms : bindL (envOfC qual (iS f) s.heap.objs.size fI cdv).kindOf [("self", .ref x), (f, v)] (fun _ => none) "self" = some (.ref x) := by
    simp only [bindL, kf, ks, if_true]
    rw [if_neg (fun z => T.fs z.symm)]
  show wpAny _ _ (execs (iB f q1 q2 q3 q4) _) _ _ _
  unfold iB
  refine wpAny_execs_cons (plainObj_wpAny_Assign_Attribute ?_)
  refine ldCf (v := v) hn mf (ldCf (v := .ref x) hn ms ?_ rfl ks (by decide)) rfl kf T.fd
  refine set_plain X₁ (ox := excO C t0) (od := none) ⟨hx₁, rfl, rfl, trivial⟩ T.sa ?_
  refine osaB XB X₁ hx₁ hcl (show excTail bmB (.ref C :: bm) = true from hbm) rfl rfl T.noN (fun h₃ tk₃ dx k₃ dn dne hx₃ hn₃ => ?_)
  show wpAny _ _ (execs _ _) _ _ _
  have z : s.heap.objs.size < h₁.objs.size := hn.lt
  exact wpAny_execs_nil (hq h₃ tk₃ dx ⟨fun b o hb e => k₃ b o hb (k b o e), hx₃, Nat.le_of_lt (Nat.lt_of_lt_of_le z dn), dne, hn₃⟩)
theorem x_made (T : XInit K C fI qual f) {v : Value} (X : K.In s.heap) (hlim : s.heap.NoLimit) (hroom : A.depth + 1 < recursionLimit)
    (hq : ∀ h' tk e d, OwnMade s.heap h' e C d f v → R (.ok (.ret (.ref e))) { s with heap := h', toks := tk }) :
    codeAny (model prog w) A (.call (.ref C) ⟨[v], []⟩) R s := by
  obtain ⟨newId, bmB, nm, q, N, bs, bm, sn, sub, ab, col, dd, k0, k1, k2, k3, k5, XB, hC, hbm⟩ := T.cls
  obtain ⟨B, initId, FB⟩ := XB.fb
  obtain ⟨hp, g, dr, tk, os⟩ := s
  have k : ∀ b o, hp.get? b = some o → ((hp.push (kdv_tup [v])).push (excO C hp.objs.size)).get? b = some o := fun b o e => Heap.get?_push_of_some _ (Heap.get?_push_of_some _ e)
  have hget : ((hp.push (kdv_tup [v])).push (excO C hp.objs.size)).get? (hp.objs.size + 1) = some (excO C hp.objs.size) := by heap_get
  refine call_own FB (fun X => excTail_contains X bm hbm) (X _ _ hC) (looks_findIn X T.iC) (fun self => bind_fn X self T.tC) (show [v].length ≤ sizeLine by show 1 ≤ sizeLine; decide) ?_
  refine x_init (s := ⟨(hp.push (kdv_tup [v])).push (excO C hp.objs.size), g, dr, tk, os⟩) T (X.keeps k) (hlim.keeps k) hget hroom fun h' tk' dx ⟨k', hx, dn, dne, hns⟩ => ?_
  have old : ∀ b o, hp.get? b = some o → h'.get? b = some o := fun b o e => k' b o (Nat.ne_of_lt (Nat.lt_succ_of_lt (Heap.lt_size e))) (k b o e)
  have z : hp.objs.size + 1 + 1 ≤ dx := by
    have q := dn
    rw [Heap.size_push, Heap.size_push] at q
    exact q
  exact ⟨rfl, hq h' tk' (hp.objs.size + 1) dx ⟨old, Nat.le_succ _, ⟨_, _, hx, rfl, rfl, rfl, rfl⟩, Nat.le_trans (Nat.le_trans (Nat.le_succ _) (Nat.le_succ _)) z, dne, hns⟩⟩
end
theorem relO_one {v : V} {v' : Value} {g : Str} (r : RelV v v') (f : Str) : RelO (List.lookup f [(g, v)]) (if f = g then some v' else none) := by
  by_cases hw : f = g
  · subst hw
    rw [if_pos rfl]
    have q : List.lookup f [(f, v)] = some v := by simp [List.lookup]
    rw [q]
    exact r
  · rw [if_neg hw]
    have qw : (f == g) = false := by simpa using hw
    have q2 : List.lookup f [(g, v)] = none := by simp [List.lookup, qw]
    rw [q2]
    trivial
section
variable {X : Cx} {C fI : Addr} {n qual f : Str}
def tMkX (C : Addr) (f : Str) (ta : TA) : L2.St → Hp → XK → Prop := fun σ H Q => ta σ H fun vs H1 => ∃ v, vs = [v] ∧ ∀ d, H1 d = none → Q (.ref C) (some d) (upd H1 d (.xd [(f, v)]))
theorem pmk_x {a : Expr} {ta : TA} {p pos : Pos} {k : Nat} (T0 : XCls X.K n C) (T : XInit X.K C fI qual f) (hr : Room k X.A) (hm : X.mg n = some (.ref C)) (ha : PA X [a] ta) (hg : Gl X n) (hdb : (n == ("__debug__" : Str)) = false)
    (he : starEach (a :: []) X.env = (false, eval a X.env) :: starEach [] X.env := by rfl) (hpl : (backTo pos (starEach [] X.env)).any (·.1) = false := by rfl) :
    PMk X (.Call (.Name n p) [a] [] pos) (tMkX C f ta) := by
  intro pins s σ H Q I h
  refine wpAny_Call_Name_kw (ld_glob I hg hm ?_ hdb)
  refine PySem.W.callWith_K (h₀ := X.base) I.ok.mod.kin T0.kC (thn (ha.run pos pins s σ H _ I h) fun us s1 hh => ?_) he hpl
  obtain ⟨vs, H1, I1, r1, v, ev, q1⟩ := hh
  subst ev
  refine ⟨I1.kIn, ?_⟩
  cases r1 with
  | cons rv rn =>
    rename_i v' us'
    cases rn
    show wpAny _ _ (call (.ref C) [v']) _ _ _
    have hlim := I1.nolimit
    obtain ⟨hp, g, dr, tk, os⟩ := s1
    refine wpAny_call (x_made T I1.kIn hlim (by have := hr.dp; omega) fun h' tk' e d M => ?_)
    show MkP X pins σ Q (.ref e) ⟨h', g, dr, tk', os⟩
    obtain ⟨oe, fv, hoe, hc, hd, hdat, h1⟩ := M.obj
    have hns := M.ns
    obtain ⟨G', g1, g2⟩ := restrict h' fun b => decide (b ≠ e)
    have gk : ∀ b, b ≠ e → G'.get? b = h'.get? b := fun b hb => g1 b (decide_eq_true hb)
    have ge : G'.get? e = none := g2 e (by simp)
    have old : ∀ b o, hp.get? b = some o → G'.get? b = some o := fun b o q => (gk b (Nat.ne_of_lt (Nat.lt_of_lt_of_le (Heap.lt_size q) M.new))).trans (M.keep b o q)
    have ob : ObjOk X.prog X.w (upd H1 d (.xd [(f, v)])) G' d (.xd [(f, v)]) :=
      ⟨_, hns.at (fun o q => (gk d M.dne).trans q), fun f => relO_one rv f⟩
    have J : Inv X pins σ (upd H1 d (.xd [(f, v)])) ⟨G', g, dr, tk', os⟩ := I1.laid (t' := tk') old M.dbig ob
    refine ⟨e, oe, fv, ⟨G', g, dr, tk', os⟩, _, .ref C, some d, rfl, J, fun b o q => ?_, ge, hoe, ⟨hc, hd⟩, hdat, h1, ?_, rfl, I1.bare, raises_own T0.exC T0.tyC, q1 d (I1.hok.fresh M.dbig)⟩
    · by_cases hb : b = e
      · have q' : G'.get? b = some o := q
        rw [hb, ge] at q'; cases q'
      · exact (gk b hb).symm.trans q
    · rw [upd_ne (Ne.symm M.dne)]
      exact I1.hok.fresh M.new
end
/-! ### raise C(e), raise C() -/
def sRaise1 (n f : Str) (g : Ev → Sto → R (List D)) : Ev → Sto → SR := fun ρ S => (g ρ S).toS ρ fun ds S1 => match ds with
  | [d] => .er ⟨.own n, [(f, d)]⟩ ρ S1
  | _ => .stuck
theorem RepF.one {K : PySem.W.Frag} {ι : List Addr} {H : Hp} {f : Str} {d : D} {v : V} (h : RepV K ι H d v) : RepF K ι H [(f, d)] [(f, v)] := by
  rw [RepF]; exact ⟨v, [], rfl, h, by rw [RepF]⟩
theorem ds_raise1 {X : Cx} {W : WX} {C fI : Addr} {n qual f : Str} {a : Expr} {g : Ev → Sto → R (List D)} {p pos pos2 : Pos} {k : Nat} (hc : X.calm = true) (tk : Takes X W) (T0 : XCls X.K n C) (T : XInit X.K C fI qual f) (hr : Room k X.A) (hm : X.mg n = some (.ref C)) (ha : DA X W [a] g) (hg : Gl X n := by rfl) (hdb : (n == ("__debug__" : Str)) = false := by decide)
    (he : starEach (a :: []) X.env = (false, eval a X.env) :: starEach [] X.env := by rfl) (hpl : (backTo pos (starEach [] X.env)).any (·.1) = false := by rfl) :
    DS X W (.Raise (some (.Call (.Name n p) [a] [] pos)) none pos2) (sRaise1 n f g) := by
  refine PS.imp (ps_raise hc tk (pmk_x T0 T hr hm ha hg hdb he hpl)) fun E σ H ⟨ι, ρ, S, hE, hS, h⟩ => ⟨ι, ρ, S, hE, hS, (PostS.bind h hE).mono fun ds S1 ι1 H1 G1 s1 h1 vs rs => ?_⟩
  split at h1
  · rename_i d
    obtain ⟨v, rfl, rv⟩ := RepL.one_inv rs
    refine ⟨v, rfl, fun dd hd => ?_⟩
    have G2 : Grow ι1 H1 ι1 (upd H1 dd (.xd [(f, v)])) := Grow.upd hd
    exact h1 ι1 _ σ (.ref C) (some dd) G2 (s1.upd hd) ((hE.grow G1).grow G2) ⟨⟨C, rfl, T0.ns⟩, .inr ⟨dd, [(f, v)], rfl, s1.free hd, upd_same, RepF.one (RepV.grow G2 _ _ rv)⟩⟩
  · exact h1.elim
section
variable {X : Cx} {C : Addr} {bmB : List Value} {newId : String}
/-- n(), n without an __init__ of its own -/
theorem pmk_x0 {n : Str} {p pos : Pos} (T0 : XCls X.K n C) (XB : XBase newId bmB) (q : PySem.W.excIn X.K C bmB newId = true) (hm : X.mg n = some (.ref C)) (hg : Gl X n)
    (hdb : (n == ("__debug__" : Str)) = false) : PMk X (.Call (.Name n p) [] [] pos) (fun _ H Q => Q (.ref C) none H) := by
  intro pins s σ H Q I h
  obtain ⟨B, initId, FB⟩ := XB.fb
  refine wpAny_Call_Name_kw (ld_glob I hg hm ?_ hdb)
  refine PySem.W.callWith_K0 I.kIn T0.kC ?_
  show wpAny _ _ (call (.ref C) []) _ _ _
  obtain ⟨bm, N, nm, qn, bs, hdct, sn, sub, ab, col, dd, k0, k1, k2, k3, k5, mN, hC, hN, hni, T⟩ := exc_obj I.kIn q
  refine wpAny_call_exc_subT FB T hC hN hni (fun h' e hm => ?_) (by show 0 ≤ sizeLine; exact Nat.zero_le _)
  exact mk_of I hm (raises_own T0.exC T0.tyC) h (I.hok.gone hm.new)
end
def sRaise0 (n : Str) : Ev → Sto → SR := fun ρ S => .er ⟨.own n, []⟩ ρ S
theorem ds_raise0 {X : Cx} {W : WX} {C : Addr} {n : Str} {bmB : List Value} {newId : String} {p pos pos2 : Pos} (hc : X.calm = true) (tk : Takes X W) (T0 : XCls X.K n C) (XB : XBase newId bmB) (q : PySem.W.excIn X.K C bmB newId = true) (hm : X.mg n = some (.ref C)) (hg : Gl X n := by rfl) (hdb : (n == ("__debug__" : Str)) = false := by decide) :
    DS X W (.Raise (some (.Call (.Name n p) [] [] pos)) none pos2) (sRaise0 n) := by
  refine PS.imp (ps_raise hc tk (pmk_x0 T0 XB q hm hg hdb)) fun E σ H ⟨ι, ρ, S, hE, hS, h⟩ => ?_
  exact h ι H σ (.ref C) none (Grow.refl _ _) hS hE ⟨⟨C, rfl, T0.ns⟩, .inl ⟨rfl, rfl⟩⟩
end DL

/-! Caught errors as values: which class, their fields; try .. except. -/
namespace DL
open PySem PySem.Spec L2
open PyProof.Rows hiding St
/-! ### the table of classes: name, value, the names along its mro -/
abbrev XTab := List (Cn × List Cn)
def repB (K : PySem.W.Frag) (c : Cn) (v : Value) : Bool := match c with
  | .own n => decide (PySem.W.nsIn K mainGlobals n = some (some v)) && (match v with
    | .ref _ => true
    | _ => false)
  | .blt n => v == .type n
def xattrB (K : PySem.W.Frag) (v : Value) : Bool := match v with
  | .ref C => (PySem.W.clsIn K C).isSome && (decide (PySem.W.findIn K (.ref C) "__getattribute__" = some (some (.builtin "BaseException.__getattribute__"))) && (decide (PySem.W.findIn K (.ref C) "__getattr__" = some none) && (decide (PySem.W.subIn K (.ref C) (.type "BaseException") = some true)
    && (decide (PySem.W.findIn K (.ref C) "__class__" = some (some (.builtin "object.__class__"))) && (decide (PySem.W.mroIn K C (.type "object") = some true) && (PySem.W.hasDictIn K C && (decide (PySem.W.specialIn K (.builtin "object.__class__") "__get__" = some (some (.builtin "getset_descriptor.__get__")))
    && decide (PySem.W.takesIn K (.builtin "object.__class__") = some true))))))))
  | _ => true
def tabB (K : PySem.W.Frag) (T : List (Cn × Value × List Cn)) : Bool := T.all fun q => repB K q.1 q.2.1 && (xattrB K q.2.1 && (decide (PySem.W.subIn K q.2.1 (.type "BaseException") = some true) && (decide (q.1 ∈ q.2.2) && T.all fun r => decide (PySem.W.kitCls K q.2.1 r.2.1 = some (decide (r.1 ∈ q.2.2))))))
def tabOf (T : List (Cn × Value × List Cn)) : XTab := T.map fun q => (q.1, q.2.2)
structure XAttr (K : PySem.W.Frag) (C : Addr) : Prop where
  cl : (PySem.W.clsIn K C).isSome = true
  ga : PySem.W.findIn K (.ref C) "__getattribute__" = some (some (.builtin "BaseException.__getattribute__"))
  gg : PySem.W.findIn K (.ref C) "__getattr__" = some none
  ex : PySem.W.subIn K (.ref C) (.type "BaseException") = some true
  ca : PySem.W.findIn K (.ref C) "__class__" = some (some (.builtin "object.__class__"))
  mo : PySem.W.mroIn K C (.type "object") = some true
  hd : PySem.W.hasDictIn K C = true
  hn : PySem.W.specialIn K (.builtin "object.__class__") "__get__" = some (some (.builtin "getset_descriptor.__get__"))
  ht : PySem.W.takesIn K (.builtin "object.__class__") = some true
structure TabOk (K : PySem.W.Frag) (tab : XTab) : Prop where
  at_ : ∀ c m C, (c, m) ∈ tab → RepC K c (.ref C) → XAttr K C
  sub : ∀ c m c' m' v v', (c, m) ∈ tab → (c', m') ∈ tab → RepC K c v → RepC K c' v' → PySem.W.kitCls K v v' = some (decide (c' ∈ m))
  exb : ∀ c m v, (c, m) ∈ tab → RepC K c v → PySem.W.subIn K v (.type "BaseException") = some true
  slf : ∀ c m, (c, m) ∈ tab → c ∈ m
theorem repC_of {K : PySem.W.Frag} {c : Cn} {v u : Value} (h : repB K c v = true) (r : RepC K c u) : u = v := by
  cases c with
  | own n =>
    unfold repB at h
    rw [Bool.and_eq_true] at h
    obtain ⟨C, rfl, e⟩ := r
    have := of_decide_eq_true h.1
    rw [e] at this
    exact Option.some.inj (Option.some.inj this)
  | blt n =>
    have e : v = .type n := beq_iff_eq.mp h
    rw [e]; exact r
theorem tab_ok {K : PySem.W.Frag} {T : List (Cn × Value × List Cn)} (h : tabB K T = true) : TabOk K (tabOf T) := by
  have all := List.all_eq_true.mp h
  have back : ∀ {c m}, (c, m) ∈ tabOf T → ∃ v, (c, v, m) ∈ T := fun {c m} hm => by
    obtain ⟨⟨c', v, m'⟩, hq, e⟩ := List.mem_map.mp hm
    cases e
    exact ⟨v, hq⟩
  have facts : ∀ {c v m}, (c, v, m) ∈ T → repB K c v = true ∧ xattrB K v = true ∧ PySem.W.subIn K v (.type "BaseException") = some true ∧ c ∈ m ∧ ∀ r ∈ T, PySem.W.kitCls K v r.2.1 = some (decide (r.1 ∈ m)) := fun {c v m} hm => by
    have := all _ hm
    simp only [Bool.and_eq_true, decide_eq_true_eq, List.all_eq_true] at this
    exact ⟨this.1, this.2.1, this.2.2.1, this.2.2.2.1, fun r hr => this.2.2.2.2 r hr⟩
  constructor
  · intro c m C hm r
    obtain ⟨v, hv⟩ := back hm
    obtain ⟨f1, f2, _⟩ := facts hv
    have e := repC_of f1 r
    subst e
    unfold xattrB at f2
    simp only [Bool.and_eq_true, decide_eq_true_eq] at f2
    obtain ⟨g1, g2, g3, g4, g5, g6, g7, g8, g9⟩ := f2
    exact ⟨g1, g2, g3, g4, g5, g6, g7, g8, g9⟩
  · intro c m c' m' v v' hm hm' r r'
    obtain ⟨u, hu⟩ := back hm
    obtain ⟨u', hu'⟩ := back hm'
    obtain ⟨f1, _, _, _, f2⟩ := facts hu
    obtain ⟨f1', _⟩ := facts hu'
    rw [repC_of f1 r, repC_of f1' r']
    exact f2 _ hu'
  · intro c m v hm r
    obtain ⟨u, hu⟩ := back hm
    obtain ⟨f1, _, f3, _⟩ := facts hu
    rw [repC_of f1 r]; exact f3
  · intro c m hm
    obtain ⟨u, hu⟩ := back hm
    exact (facts hu).2.2.2.1
/-- is an error of the class c one of c'? -/
def isX (tab : XTab) (c c' : Cn) : Option Bool := (tab.lookup c).bind fun m => (tab.lookup c').map fun _ => decide (c' ∈ m)
def isXs (tab : XTab) (c : Cn) : List Cn → Option Bool
  | [] => some false
  | c' :: r => (isX tab c c').bind fun b => if b = true then some true else isXs tab c r
theorem lookup_mem {α β : Type} [BEq α] [LawfulBEq α] {l : List (α × β)} {a : α} {b : β} (h : l.lookup a = some b) : (a, b) ∈ l := by
  induction l with
  | nil => cases h
  | cons q l ih =>
    obtain ⟨x, y⟩ := q
    by_cases e : a = x
    · subst e
      simp [List.lookup] at h
      subst h
      exact List.mem_cons_self
    · have : (a == x) = false := by simpa using e
      simp [List.lookup, this] at h
      exact List.mem_cons_of_mem _ (ih h)
theorem isX_some {tab : XTab} {c c' : Cn} {b : Bool} (h : isX tab c c' = some b) : ∃ m m', (c, m) ∈ tab ∧ (c', m') ∈ tab ∧ b = decide (c' ∈ m) := by
  unfold isX at h
  cases e : tab.lookup c with
  | none => rw [e] at h; cases h
  | some m =>
    cases e' : tab.lookup c' with
    | none => rw [e, e'] at h; cases h
    | some m' =>
      rw [e, e'] at h; cases h
      exact ⟨m, m', lookup_mem e, lookup_mem e', rfl⟩
theorem isX_kit {K : PySem.W.Frag} {tab : XTab} {c c' : Cn} {b : Bool} {v v' : Value} (T : TabOk K tab) (h : isX tab c c' = some b) (r : RepC K c v) (r' : RepC K c' v') : PySem.W.kitOne K v v' = some b := by
  obtain ⟨m, m', h1, h2, rfl⟩ := isX_some h
  unfold PySem.W.kitOne
  have k := T.sub c m c' m' v v' h1 h2 r r'
  split
  · rename_i e
    have e := beq_iff_eq.mp e
    subst e
    have k0 := T.sub c m c m v v h1 h1 r r
    rw [k] at k0
    rw [Option.some.inj k0, decide_eq_true (T.slf c m h1)]
  · exact k
theorem isX_exm {K : PySem.W.Frag} {tab : XTab} {c c' : Cn} {b : Bool} {v v' : Value} (T : TabOk K tab) (h : isX tab c c' = some b) (r : RepC K c v) (r' : RepC K c' v') : PySem.W.exmOne K v v' = some b := by
  obtain ⟨m, m', h1, h2, rfl⟩ := isX_some h
  unfold PySem.W.exmOne
  rw [if_pos (by rw [T.exb c' m' v' h2 r']; rfl)]
  exact T.sub c m c' m' v v' h1 h2 r r'
/-! ### an error that is held -/
theorem exv_at {P : Program} {w : World} {H : Hp} {h : Heap} {a : Addr} {cls : Value} {d : Option Addr} (hok : HOk P w H h) (e : H a = some (exv a cls d)) : ∃ (oe : Obj) (vs : Array Value), h.get? a = some oe ∧ oe.cls = cls ∧ oe.dict = d ∧ oe.data = .fields vs := by
  have x : ObjOk P w H h a (.ext fun h => ∃ (oe : Obj) (vs : Array Value), h.get? a = some oe ∧ oe.cls = cls ∧ oe.dict = d ∧ oe.data = .fields vs) := hok a _ e
  exact x.1
theorem exv_inst {X : Cx} {pins : List (Addr × Obj)} {σ : L2.St} {H : Hp} {s : Shared} {a C : Addr} {d : Option Addr} (I : Inv X pins σ H s) (e : H a = some (exv a (.ref C) d)) (hd : d = none ∨ ∃ dd vs, d = some dd ∧ H dd = some (.xd vs)) :
    ∃ ox od, PySem.W.InstAt s.heap a ox C od ∧ (∀ dd, d = some dd → ∃ o, od = some o ∧ s.heap.get? dd = some o) := by
  obtain ⟨oe, vs, h1, h2, h3, h4⟩ := exv_at I.hok e
  rcases hd with rfl | ⟨dd, fs, rfl, hx⟩
  · exact ⟨oe, none, ⟨h1, h2, by unfold PySem.W.notCls; rw [h4], by rw [h3]; trivial⟩, fun dd z => nomatch z⟩
  · obtain ⟨mA, hns, _⟩ := (show ObjOk X.prog X.w H s.heap dd (.xd fs) from I.hok dd _ hx)
    obtain ⟨od, ho, _⟩ := lookIn_ns hns
    exact ⟨oe, some od, ⟨h1, h2, by unfold PySem.W.notCls; rw [h4], by rw [h3]; exact ho⟩, fun dd z => by cases z; exact ⟨od, rfl, ho⟩⟩
theorem exc_at {K : PySem.W.Frag} {ι : List Addr} {H : Hp} {c : Cn} {fs : List (Str × D)} {x : V} (r : RepV K ι H (.exc c fs) x) : ∃ a cls dd, x = .ref a ∧ H a = some (exv a cls dd) ∧ RepC K c cls ∧ ((dd = none ∧ fs = []) ∨ ∃ d vs, dd = some d ∧ H d = some (.xd vs) ∧ RepF K ι H fs vs) := by
  rw [RepV] at r
  obtain ⟨a, cls, dd, rfl, _, h1, h2, h3⟩ := r
  refine ⟨a, cls, dd, rfl, h1, h2, ?_⟩
  rcases h3 with h3 | ⟨d, vs, e1, _, e3, e4⟩
  · exact .inl h3
  · exact .inr ⟨d, vs, e1, e3, e4⟩
/-- isinstance(e, C), isinstance(e, (C, ..)) of an error that is held -/
def rIsX (K : PySem.W.Frag) (tab : XTab) : List V → Hp → VK → Prop := fun xs H Q => ∃ (a : Addr) (C : Addr) (dd : Option Addr) (c : Cn) (t : V), xs = [.ref a, t] ∧ H a = some (exv a (.ref C) dd) ∧ (dd = none ∨ ∃ d vs, dd = some d ∧ H d = some (.xd vs)) ∧ RepC K c (.ref C) ∧
  ((∃ c' b, isX tab c c' = some b ∧ (∀ u, RelV t u → RepC K c' u) ∧ Q (.bl b) H) ∨ (∃ p vs cs b, t = .ref p ∧ SqT K H p vs ∧ isXs tab c cs = some b ∧ cs ≠ [] ∧ (∀ us, Vals vs us → Paired (RepC K) cs us) ∧ Q (.bl b) H))
theorem isXs_kit {K : PySem.W.Frag} {tab : XTab} {c : Cn} {v : Value} (T : TabOk K tab) (r : RepC K c v) : ∀ {cs : List Cn} {us : List Value} {b : Bool}, Paired (RepC K) cs us → isXs tab c cs = some b → PySem.W.kitAny K v us = some b
  | [], _, b, .nil, h => by cases h; rfl
  | c' :: cs, _, b, .cons (b := u) r' t, h => by
    unfold isXs at h
    cases e : isX tab c c' with
    | none => rw [e] at h; cases h
    | some b' =>
      rw [e] at h
      have k := isX_kit T e r r'
      unfold PySem.W.kitAny
      rw [k]
      cases b' with
      | true => simp at h; subst h; rfl
      | false => simp at h; exact isXs_kit T r t h
theorem isX_tab {tab : XTab} {c c' : Cn} {b : Bool} (h : isX tab c c' = some b) : ∃ m, (c, m) ∈ tab := by
  obtain ⟨m, m', h1, _⟩ := isX_some h
  exact ⟨m, h1⟩
theorem call_isX {X : Cx} {tab : XTab} (T : TabOk X.K tab) : CallR X (.builtin "isinstance") (rIsX X.K tab) := by
  have nz : ∀ c C, RepC X.K c (.ref C) → (∃ m, (c, m) ∈ tab) → XAttr X.K C := fun c C r ⟨m, hm⟩ => T.at_ c m C hm r
  intro pins s σ H xs us Q I r h
  obtain ⟨a, C, dd, c, t, rfl, ha, hd, rc, q⟩ := h
  obtain ⟨u1, u2, rfl, r1, r2⟩ := vals2 r
  cases (show u1 = Value.ref a from r1)
  obtain ⟨ox, od, J, _⟩ := exv_inst I ha hd
  rcases q with ⟨c', b, e, hu, q⟩ | ⟨p, vs, cs, b, rfl, hs, e, hne, hu, q⟩
  · have AT := nz c C rc (isX_tab e)
    have Z : PySem.W.KitX X.K (.ref a) (.ref C) (fun h => PySem.W.InstAt h a ox C od) := PySem.W.kitx_exc AT.cl AT.ga AT.gg AT.ex AT.ca AT.hn AT.ht AT.mo
    exact PySem.W.kia_one Z I.kIn J (isX_kit T e rc (hu _ r2)) (fun z => nomatch z) fun tk => ⟨.bl b, H, I.tok tk, rfl, q⟩
  · cases (show u2 = Value.ref p from r2)
    obtain ⟨its, rv, ⟨⟨oc, od', dt, sl⟩, h1, h2, n, h3⟩, _⟩ := I.tuple hs
    simp only at h2 h3
    subst h2 h3
    cases cs with
    | nil => exact absurd rfl hne
    | cons c' cs =>
      have hc : ∃ m, (c, m) ∈ tab := by
        unfold isXs at e
        cases e' : isX tab c c' with
        | none => rw [e'] at e; cases e
        | some b' => exact isX_tab e'
      have AT := nz c C rc hc
      have Z : PySem.W.KitX X.K (.ref a) (.ref C) (fun h => PySem.W.InstAt h a ox C od) := PySem.W.kitx_exc AT.cl AT.ga AT.gg AT.ex AT.ca AT.hn AT.ht AT.mo
      exact PySem.W.kia_tup Z I.kIn J h1 (isXs_kit T rc (hu its rv) e) (fun z => nomatch z) fun tk => ⟨.bl b, H, I.tok tk, rfl, q⟩

/-! ### e.f -/
theorem RepF.look {K : PySem.W.Frag} {ι : List Addr} {H : Hp} {f : Str} {d : D} : ∀ {fs : List (Str × D)} {vs : List (Str × V)}, RepF K ι H fs vs → fs.lookup f = some d → ∃ v, vs.lookup f = some v ∧ RepV K ι H d v
  | [], _, r, e => by cases e
  | (k, x) :: fs, _, r, e => by
    rw [RepF] at r
    obtain ⟨v, us, rfl, rv, rs⟩ := r
    by_cases h : f = k
    · subst h
      simp [List.lookup] at e
      subst e
      exact ⟨v, by simp [List.lookup], rv⟩
    · have hb : (f == k) = false := by simpa using h
      simp [List.lookup, hb] at e
      obtain ⟨v', h1, h2⟩ := RepF.look rs e
      exact ⟨v', by simp [List.lookup, hb]; exact h1, h2⟩
/-- fields that no class of the table has as an attribute of its own -/
def NoAt (K : PySem.W.Frag) (tab : XTab) (f : Str) : Prop := ∀ c m C, (c, m) ∈ tab → RepC K c (.ref C) → PySem.W.findIn K (.ref C) f = some none
def tAtX (K : PySem.W.Frag) (tab : XTab) (f : Str) (te : TE) : TE := fun σ H Q => te σ H fun x H1 => ∃ (a C : Addr) (c : Cn) (m : List Cn) (dd : Addr) (fs : List (Str × V)) (v : V), x = .ref a ∧ H1 a = some (exv a (.ref C) (some dd)) ∧ (c, m) ∈ tab ∧ RepC K c (.ref C) ∧ H1 dd = some (.xd fs) ∧ fs.lookup f = some v ∧ Q v H1
theorem pe_atX {X : Cx} {tab : XTab} {e : Expr} {te : TE} {pos : Pos} {f : Str} (T : TabOk X.K tab) (hno : NoAt X.K tab f) (he : PE X e te) (hb : attributeBase e f X.env (eval e X.env) = eval e X.env := by rfl) :
    PE X (.Attribute e f pos) (tAtX X.K tab f te) := by
  refine ⟨fun pins s σ H Q I h => ?_⟩
  refine attr_of hb (thn (he.run pins s σ H _ I h) fun u s1 hh => ?_)
  obtain ⟨x, H1, I1, rx, a, C, c, m, dd, fs, v, rfl, ea, hm, rc, ed, l, q⟩ := hh
  obtain rfl : u = Value.ref a := rx
  have AT := T.at_ c m C hm rc
  obtain ⟨ox, od, J, hod⟩ := exv_inst I1 ea (.inr ⟨dd, fs, rfl, ed⟩)
  obtain ⟨o, rfl, ho⟩ := hod dd rfl
  obtain ⟨mA, hns, hr⟩ := (show ObjOk X.prog X.w H1 s1.heap dd (.xd fs) from I1.hok dd _ ed)
  obtain ⟨o', ho', hl⟩ := lookIn_ns hns
  rw [ho] at ho'
  cases ho'
  obtain ⟨u, hu, ru⟩ := RelO.some_of (v := v) (o := mA f) (by rw [← l]; exact hr f)
  exact HandSPX.exc_get I1.kIn J AT.ga AT.gg AT.ex (PySem.W.findObj_own AT.hd (hno c m C hm rc) rfl (by rw [hl, hu])) (handed_of ru) ⟨v, H1, I1.tok _, ru, q⟩
def dAtX (tab : XTab) (f : Str) (d : D) (S : Sto) : R D := match d with
  | .exc (.own n) fs => if (tab.lookup (.own n)).isSome = true then (match fs.lookup f with
    | some v => .ok v S
    | none => .stuck) else .stuck
  | _ => .stuck
def isOwn : Cn → Bool
  | .own _ => true
  | .blt _ => false
def eAtX (tab : XTab) (f : Str) (g : Ev → Sto → R D) : Ev → Sto → R D := fun ρ S => (g ρ S).bind fun d S1 => dAtX tab f d S1
theorem de_atX {X : Cx} {W : WX} {tab : XTab} {e : Expr} {pos : Pos} {f : Str} {g : Ev → Sto → R D} (T : TabOk X.K tab) (hno : NoAt X.K tab f) (he : DE X W e g) (hb : attributeBase e f X.env (eval e X.env) = eval e X.env := by rfl) :
    DE X W (.Attribute e f pos) (eAtX tab f g) := by
  refine PE.imp (pe_atX T hno he hb) fun σ H Q ⟨ι, ρ, S, hE, hS, h⟩ => ⟨ι, ρ, S, hE, hS, (Post.bind h).mono fun d S1 ι1 H1 G1 s1 h1 x rx => ?_⟩
  unfold dAtX at h1
  split at h1
  · rename_i n fs
    split at h1
    · rename_i hc
      split at h1
      · rename_i v hv
        obtain ⟨a, cls, dd, rfl, ea, rc, hd⟩ := exc_at rx
        obtain ⟨m, hm⟩ := Option.isSome_iff_exists.mp hc
        rcases hd with ⟨_, rfl⟩ | ⟨d, vs, rfl, hx, rf⟩
        · cases hv
        · obtain ⟨u, hu, ru⟩ := RepF.look rf hv
          obtain ⟨C, rfl, e⟩ := id rc
          exact ⟨a, C, .own n, m, d, vs, u, rfl, ea, lookup_mem hm, rc, hx, hu, h1.here s1 _ ru⟩
      · exact h1.elim
    · exact h1.elim
  · exact h1.elim
end DL

/-! isinstance of all kinds; try .. except .. as. -/
namespace DL
open PySem PySem.Spec L2
open PyProof.Rows hiding St
def clsD : D → Option Cn
  | .fn n => some (.own n)
  | .ty n => some (.blt n)
  | _ => none
def clsDs : List D → Option (List Cn)
  | [] => some []
  | d :: ds => (clsD d).bind fun c => (clsDs ds).map fun cs => c :: cs
def kitBs (t : String) : List Cn → Option Bool
  | [] => some false
  | .blt c :: r => (kitB t c).bind fun b => if b = true then some true else kitBs t r
  | .own _ :: _ => none
def bIsi2 (tab : XTab) : Fn := fun ds S => match ds with
  | [.exc (.own n) _, .tup ts] => (match clsDs ts with
    | some (c :: cs) => (match isXs tab (.own n) (c :: cs) with
      | some b => .ok (.bl b) S
      | none => .stuck)
    | _ => .stuck)
  | [.exc (.own n) _, t] => (match clsD t with
    | some c => (match isX tab (.own n) c with
      | some b => .ok (.bl b) S
      | none => .stuck)
    | none => .stuck)
  | [d, .tup ts] => (match clsDs ts, tyOf S d with
    | some cs, some t => (match kitBs t cs with
      | some b => .ok (.bl b) S
      | none => .stuck)
    | _, _ => .stuck)
  | ds => bIsi ds S
def rIsi2 (K : PySem.W.Frag) (tab : XTab) : List V → Hp → VK → Prop := fun xs H Q => rIsX K tab xs H Q ∨ (rIsiT K xs H Q ∨ rIsiK K xs H Q) ∨ rIsi K xs H Q
theorem c_isi2 {X : Cx} {tab : XTab} (T : TabOk X.K tab) : CallR X (.builtin "isinstance") (rIsi2 X.K tab) := CallR.or (call_isX T) (CallR.or (CallR.or call_isiT call_isiK) call_isi)
theorem clsD_rep {K : PySem.W.Frag} {ι : List Addr} {H : Hp} {d : D} {v : V} {c : Cn} (r : RepV K ι H d v) (e : clsD d = some c) : ∀ u, RelV v u → RepC K c u := by
  cases d with
  | fn n => cases e; rw [RepV] at r; obtain ⟨a, rfl, h⟩ := r; exact fun u ru => ⟨a, ru, h⟩
  | ty n => cases e; rw [RepV] at r; subst r; exact fun u ru => ru
  | _ => cases e
theorem clsDs_rep {K : PySem.W.Frag} {ι : List Addr} {H : Hp} : ∀ {ds : List D} {vs : List V} {cs : List Cn}, RepL K ι H ds vs → clsDs ds = some cs → ∀ us, Vals vs us → Paired (RepC K) cs us
  | [], vs, cs, r, e, us, rv => by rw [RepL] at r; cases e; subst r; cases rv; exact .nil
  | d :: ds, vs, cs, r, e, us, rv => by
    rw [RepL] at r
    obtain ⟨v, ws, rfl, a, b⟩ := r
    rw [clsDs] at e
    cases h : clsD d with
    | none => rw [h] at e; cases e
    | some c =>
      rw [h] at e
      cases h2 : clsDs ds with
      | none => rw [h2] at e; cases e
      | some cs' =>
        rw [h2] at e; cases e
        cases rv with
        | cons r1 r2 => exact .cons (clsD_rep a h _ r1) (clsDs_rep b h2 _ r2)
theorem kitBs_any {K : PySem.W.Frag} {t : String} : ∀ {cs : List Cn} {us : List Value} {b : Bool}, Paired (RepC K) cs us → kitBs t cs = some b → PySem.W.kitAny K (.type t) us = some b
  | [], _, b, .nil, h => by cases h; rfl
  | .own n :: cs, _, b, .cons _ _, h => by cases h
  | .blt n :: cs, _, b, .cons (b := u) r p, h => by
    cases (show u = Value.type n from r)
    unfold kitBs at h
    cases e : kitB t n with
    | none => rw [e] at h; cases h
    | some b' =>
      rw [e] at h
      unfold PySem.W.kitAny
      rw [kit_ty e]
      cases b' with
      | true => simp at h; subst h; rfl
      | false => simp at h; exact kitBs_any p h
theorem kitBs_cls {K : PySem.W.Frag} {t : String} {ι : List Addr} {H : Hp} : ∀ {ds : List D} {vs : List V} {cs : List Cn} {us : List Value}, RepL K ι H ds vs → clsDs ds = some cs → Vals vs us → Paired ClsV vs us
  | [], vs, cs, us, r, e, rv => by rw [RepL] at r; subst r; cases rv; exact .nil
  | d :: ds, vs, cs, us, r, e, rv => by
    rw [RepL] at r
    obtain ⟨v, ws, rfl, a, b⟩ := r
    rw [clsDs] at e
    cases h : clsD d with
    | none => rw [h] at e; cases e
    | some c =>
      rw [h] at e
      cases h2 : clsDs ds with
      | none => rw [h2] at e; cases e
      | some cs' =>
        cases rv with
        | cons r1 r2 =>
          refine .cons ?_ (kitBs_cls (t := t) b h2 r2)
          cases d with
          | fn n => rw [RepV] at a; obtain ⟨q, rfl, _⟩ := a; cases (show _ = Value.ref q from r1); exact .own q
          | ty n => rw [RepV] at a; subst a; cases (show _ = Value.type n from r1); exact .ty n
          | _ => cases h
theorem k_isi2 {K : PySem.W.Frag} {tab : XTab} : CallK K (rIsi2 K tab) (bIsi2 tab) := by
  intro W σ ι H S vs ds Q s rl h
  unfold bIsi2 at h
  split at h
  · rename_i n fs ts
    obtain ⟨v, u, rfl, rv, ru⟩ := RepL.two_inv rl
    split at h
    · rename_i c cs hc
      split at h
      · rename_i b hb
        obtain ⟨a, cls, dd, rfl, ha, rc, hd⟩ := exc_at rv
        obtain ⟨C, rfl, _⟩ := id rc
        obtain ⟨p, us, rfl, q, ru'⟩ := tup_at ru
        refine .inl ⟨a, C, dd, .own n, .ref p, rfl, ha, ?_, rc, .inr ⟨p, us, c :: cs, b, rfl, q, hb, by simp, clsDs_rep ru' hc, h.here s _ bl_rep⟩⟩
        rcases hd with ⟨e, _⟩ | ⟨d, ws, e, hx, _⟩
        · exact .inl e
        · exact .inr ⟨d, ws, e, hx⟩
      · exact h.elim
    · exact h.elim
  · rename_i n fs t _
    obtain ⟨v, u, rfl, rv, ru⟩ := RepL.two_inv rl
    split at h
    · rename_i c hc
      split at h
      · rename_i b hb
        obtain ⟨a, cls, dd, rfl, ha, rc, hd⟩ := exc_at rv
        obtain ⟨C, rfl, _⟩ := id rc
        refine .inl ⟨a, C, dd, .own n, u, rfl, ha, ?_, rc, .inl ⟨c, b, hb, clsD_rep ru hc, h.here s _ bl_rep⟩⟩
        rcases hd with ⟨e, _⟩ | ⟨d, ws, e, hx, _⟩
        · exact .inl e
        · exact .inr ⟨d, ws, e, hx⟩
      · exact h.elim
    · exact h.elim
  · rename_i d ts _
    obtain ⟨v, u, rfl, rv, ru⟩ := RepL.two_inv rl
    split at h
    · rename_i cs t hc ht
      split at h
      · rename_i b hb
        rw [RepV] at ru
        obtain ⟨p, us, rfl, tt, ru'⟩ := ru
        have ty := ty_at s rv ht
        refine .inr (.inl ?_)
        rcases tt with ⟨_, tt⟩ | tt
        · have : ∃ ws, Vals us ws := by
            have key : ∀ {ds : List D} {us : List V} {cs : List Cn}, RepL K ι H ds us → clsDs ds = some cs → ∃ ws, Vals us ws := by
              intro ds
              induction ds with
              | nil => intro us cs r e; rw [RepL] at r; subst r; exact ⟨[], .nil⟩
              | cons d ds ih =>
                intro us cs r e
                rw [RepL] at r
                obtain ⟨v, ws, rfl, a, b⟩ := r
                rw [clsDs] at e
                cases h : clsD d with
                | none => rw [h] at e; cases e
                | some c =>
                  rw [h] at e
                  cases h2 : clsDs ds with
                  | none => rw [h2] at e; cases e
                  | some cs' =>
                    obtain ⟨zs, hz⟩ := ih b h2
                    cases d with
                    | fn n => rw [RepV] at a; obtain ⟨q, rfl, _⟩ := a; exact ⟨.ref q :: zs, .cons rfl hz⟩
                    | ty n => rw [RepV] at a; subst a; exact ⟨.type n :: zs, .cons rfl hz⟩
                    | _ => cases h
            exact key ru' hc
          obtain ⟨ws, hw⟩ := this
          exact .inl ⟨v, p, us, .type t, ws, b, rfl, tt, kitBs_cls (t := t) ru' hc hw, ty, kitBs_any (clsDs_rep ru' hc ws hw) hb, h.here s _ bl_rep⟩
        · rcases tt with tt | ⟨o, its, n, h1, h2, h3, h4, h5⟩
          · exact (no_rd tt).elim
          · obtain ⟨oc, od, dt, sl⟩ := o
            dsimp only at h2 h3
            subst h2 h3
            refine .inr ⟨v, p, od, its.toList, n, sl, .type t, b, rfl, by simpa using h1, ty, kitBs_any (clsDs_rep ru' hc _ h5) hb, h.here s _ bl_rep⟩
      · exact h.elim
    · exact h.elim
  · exact .inr (.inr (k_isi W σ ι H S vs _ Q s rl h))
end DL

/-! try: .. except C as n: .., the error a value. -/
namespace DL
open PySem PySem.Spec L2
open PyProof.Rows hiding St
theorem flying_keeps {base h h' : Heap} {l : List Env} {e : Addr} {Z : Obj → Prop} (x : HandSPX.FlyingZ base l e Z h) (k : ∀ b o, h.get? b = some o → h'.get? b = some o) : HandSPX.FlyingZ base l e Z h' := by
  obtain ⟨k1, k2, k3, oe, vs, T, oT, ts, he, hz, hd, h1, hnT, hTe, hT, hdT, h3⟩ := x
  exact ⟨fun b o q => k b o (k1 b o q), k2, k3.of_keeps fun b o hb _ => ⟨o, k b o hb, rfl⟩, oe, vs, T, oT, ts, k _ _ he, hz, hd, h1, hnT, hTe, k _ _ hT, hdT, h3⟩
section
variable {X : Cx} {pins : List (Addr × Obj)} {σ : L2.St} {H : Hp} {s : Shared} {a : Addr}
theorem exv_ok {P : Program} {w : World} {h : Heap} {oe : Obj} {vs : Array Value} {cls : Value} {d : Option Addr} (ha : h.get? a = some oe) (hz : Zc cls d oe) (hd : oe.data = .fields vs) : ObjOk P w H h a (exv a cls d) :=
  ⟨⟨oe, vs, ha, hz.1, hz.2, hd⟩, ⟨oe, ha⟩, fun h1 h2 z k => by
    obtain ⟨o, ws, e1, e2, e3, e4⟩ := z
    exact ⟨o, ws, k _ e1, e2, e3, e4⟩⟩
/-- an error that came by is taken among the tracked things -/
theorem adopt {oe : Obj} {vs : Array Value} {cls : Value} {d : Option Addr} (I : Inv X pins σ H s) (ha : s.heap.get? a = some oe) (hz : Zc cls d oe) (hd : oe.data = .fields vs) (na : H a = none) (n0 : X.s_0.heap.get? a = none) (nL : a ≠ X.env.locals)
    (np : ∀ p ∈ X.pn ++ pins, p.1 ≠ a) : Inv X pins σ (upd H a (exv a cls d)) s := by
  have ne0 : ∀ {b : Addr} {o : Obj}, X.s_0.heap.get? b = some o → b ≠ a := fun {b o} e z => by rw [z, n0] at e; cases e
  have neH : ∀ {b : Addr} {u : HO}, H b = some u → b ≠ a := fun {b u} e z => by rw [z, na] at e; cases e
  refine ⟨I.ok, I.os, I.bare, ⟨I.base.keep, I.base.slot, fun b o e n x => ?_, I.base.there, fun b xs e => ?_, fun b o u e => ?_, fun b ps e => ?_⟩, I.loc, I.cell, ?_, fun x c e => ?_, fun p hp => ?_, fun b o e => ?_, I.len⟩
  · rw [upd_ne (ne0 e)]; exact I.base.free b o e n x
  · have q := I.base.tups b xs e
    rw [upd_ne (neH q)]; exact q
  · have q := I.base.frzs b o u e
    rw [upd_ne (neH q)]; exact q
  · obtain ⟨more, q⟩ := I.base.tbls b ps e
    exact ⟨more, by rw [upd_ne (neH q)]; exact q⟩
  · rw [upd_ne (Ne.symm nL)]; exact I.free
  · have hne : c ≠ a := fun z => by
      obtain ⟨v, o, e1, e2⟩ := I.cell x c e
      rw [z, ha] at e1
      have e1 := Option.some.inj e1
      subst e1
      rw [hd] at e2
      first | cases e2 | cases e2.1 | cases e2.2
    rw [upd_ne hne]; exact I.freeC x c e
  · obtain ⟨p1, p2, p3, p4, p5⟩ := I.pin p hp
    exact ⟨p1, by rw [upd_ne (np p hp)]; exact p2, p3, p4, p5⟩
  · by_cases hb : b = a
    · subst hb
      rw [upd_same] at e
      cases e
      exact exv_ok ha hz hd
    · rw [upd_ne hb] at e
      exact (I.hok b o e).stay (fun c u _ q => q) (fun c q => by rw [upd_ne (neH q)]; exact q) fun c xs q => by rw [upd_ne (neH q)]; exact q
theorem suite0 (I : Inv X pins σ H s) (a : Addr) : Inv (X.suite a (X.pn ++ pins)) [] σ H s :=
  ⟨I.ok.suite _ _, I.os, I.bare, I.base, I.loc, I.cell, I.free, I.freeC, fun p hp => I.pin p (by rw [List.append_nil] at hp; exact hp), I.hok, I.len⟩
theorem unsuite0 {pn' : List (Addr × Obj)} (I : Inv (X.suite a (X.pn ++ pins)) pn' σ H s) (ok : X.Ok) : Inv X pins σ H s :=
  ⟨ok, I.os, I.bare, I.base, I.loc, I.cell, I.free, I.freeC, fun p hp => I.pin p (List.mem_append_left _ hp), I.hok, I.len⟩
end
/-- what an except clause's expression answers -/
def XTest (X : Cx) (tab : XTab) (te : Expr) (cs : List Cn) : Prop := ∀ (a : Addr) (pn pins : List (Addr × Obj)) (σ : L2.St) (H : Hp) (s : Shared) (cls : Value) (c : Cn) (b : Bool) (Q : Value → Shared → Prop) (E : Value → Shared → Prop), Inv (X.suite a pn) pins σ H s →
  PySem.W.Looks (model X.prog X.w) s.heap (typeOf (.ref a)) cls → RepC X.K c cls → isXs tab c cs = some b →
  (∀ v h', (∀ b o, s.heap.get? b = some o → h'.get? b = some o) → PySem.W.Looks (model X.prog X.w) h' (excMatches (.ref a) v) b → Q v { s with heap := h' }) → wpAny (model X.prog X.w) (X.A.mark (some (.ref a))) (eval te X.env) Q E s
def NamesC (X : Cx) (x : Str) (c : Cn) : Prop := ∃ v, Names X x v ∧ RepC X.K c v
theorem ld_names {X : Cx} {a : Addr} {pn pins : List (Addr × Obj)} {σ : L2.St} {H : Hp} {s : Shared} {x : Str} {np : Pos} {v : Value} {Q : Value → Shared → Prop} {E : Value → Shared → Prop} (I : Inv (X.suite a pn) pins σ H s) (hc : Names X x v) (q : Q v s) :
    wpAny (model X.prog X.w) (X.A.mark (some (.ref a))) (eval (.Name x np) X.env) Q E s := by
  obtain ⟨hg, hdbg, hm | ⟨hm, hv, hnn⟩⟩ := hc
  · exact ld_glob (X := X.suite a pn) I hg hm q hdbg
  · exact ld_blt (X := X.suite a pn) I hg hm hv q hnn hdbg
theorem xt_one {X : Cx} {tab : XTab} {x : Str} {np : Pos} {c' : Cn} (T : TabOk X.K tab) (hc : NamesC X x c') : XTest X tab (.Name x np) [c'] := by
  intro a pn pins σ H s cls c b Q E I LT rc e q
  obtain ⟨v, hn, rv⟩ := hc
  have e' : isX tab c c' = some b := by
    unfold isXs at e
    cases h : isX tab c c' with
    | none => rw [h] at e; cases e
    | some b' =>
      rw [h] at e
      cases b' with
      | true => simp at e; rw [e]
      | false => simp [isXs] at e; rw [e]
  refine ld_names I hn ?_
  have := q v s.heap (fun _ _ z => z) (PySem.W.exm_one I.kIn LT (isX_exm T e' rc rv))
  exact this
theorem xt_two {X : Cx} {tab : XTab} {x1 x2 : Str} {p1 p2 pos : Pos} {kk : Nat} {c1 c2 : Cn} (T : TabOk X.K tab) (h1 : NamesC X x1 c1) (h2 : NamesC X x2 c2) (ht : (tab.lookup c2).isSome = true)
    (hs : starEach [.Name x1 p1, .Name x2 p2] X.env = [(false, eval (.Name x1 p1) X.env), (false, eval (.Name x2 p2) X.env)] := by rfl) : XTest X tab (.Tuple [.Name x1 p1, .Name x2 p2] kk pos) [c1, c2] := by
  intro a pn pins σ H s cls c b Q E I LT rc e q
  obtain ⟨v1, n1, r1⟩ := h1
  obtain ⟨v2, n2, r2⟩ := h2
  obtain ⟨b1, e1⟩ : ∃ b1, isX tab c c1 = some b1 := by
    unfold isXs at e
    cases h : isX tab c c1 with
    | none => rw [h] at e; cases e
    | some b' => exact ⟨b', rfl⟩
  obtain ⟨b2, e2⟩ : ∃ b2, isX tab c c2 = some b2 := by
    obtain ⟨m', hm'⟩ := Option.isSome_iff_exists.mp ht
    unfold isX at e1 ⊢
    cases h : tab.lookup c with
    | none => rw [h] at e1; cases e1
    | some m => rw [hm']; exact ⟨_, rfl⟩
  have eb : b = (b1 || b2) := by
    unfold isXs isXs isXs at e
    rw [e1, e2] at e
    cases b1 <;> cases b2 <;> simp at e <;> simp [← e]
  subst eb
  have ea : PySem.W.exmAny X.K cls [v1, v2] = some (b1 || b2) := by
    unfold PySem.W.exmAny PySem.W.exmAny PySem.W.exmAny
    rw [isX_exm T e1 rc r1, isX_exm T e2 rc r2]
    simp
  refine wpAny_Tuple_spliced ?_
  rw [hs]
  show wpAny _ _ (spliced [(false, eval (.Name x1 p1) X.env), (false, eval (.Name x2 p2) X.env)]) _ _ s
  refine Calls.spliced_cons (ld_names I n1 (Calls.spliced_cons (ld_names I n2 (Calls.spliced_nil ⟨by show 2 ≤ sizeLine; decide, ?_⟩))))
  have kp : ∀ b o, s.heap.get? b = some o → (s.heap.push { cls := .type "tuple", data := .seq [v1, v2].toArray }).get? b = some o := fun b o z => Heap.get?_push_of_some _ z
  refine q _ _ kp (PySem.W.exm_tup2 (I.kIn.keeps kp) (LT.keeps kp) (Heap.get?_push_size _ rfl) ea)
/-- what the clause wishes of an error of the body -/
def wTry (K : PySem.W.Frag) (tab : XTab) (cs : List Cn) (i : Nat) (ts : TS) (Wout : WX) (D : Ends) : WX := fun cls d σ H =>
  ∃ c b, RepC K c cls ∧ isXs tab c cs = some b ∧ (b = true → ∀ a, H a = none → ts { nx := fun σ' H' => D.nx (σ'.set i none) H', rt := D.rt, bk := fun σ' H' => D.bk (σ'.set i none) H', ct := fun σ' H' => D.ct (σ'.set i none) H' } (σ.set i (some (.ref a))) (upd H a (exv a cls d))) ∧
    (b = false → Wout cls d σ H)
section
variable {X : Cx} {n : Str} {tab : XTab} {cs : List Cn} {i : Nat} {body suite : List Stmt} {b₀ : Stmt} {te : Expr} {pos pos' : Pos} {tb : WX → TS} {ts : TS} {Wout : WX}
theorem ps_tryV (hs : X.stack = X.env :: X.outer) (hf : X.env.frame = some X.env.locals) (hex : X.ex = []) (hN : X.N.Nodup) (hi : X.N[i]? = some n) (hln : X.env.kindOf n = some .local) (ht : XTest X tab te cs) (tk : Takes X Wout)
    (hb : ∀ (W : WX) (pn : List (Addr × Obj)) (xe : Value → Shared → Prop), Takes (X.tr pn xe) W → PassesOwn (model X.prog X.w) X.A X.env xe → PSs (X.tr pn xe) body (tb W))
    (hsu : ∀ (a : Addr) (pn : List (Addr × Obj)), PSs (X.suite a pn) (b₀ :: suite) ts) :
    PS X (.Try body [.ExceptHandler (some te) (some n) (b₀ :: suite) pos'] [] [] pos) (fun D σ H => tb (wTry X.K tab cs i ts Wout D) D σ H) := by
  refine ⟨fun pins s σ H D I h => ?_⟩
  have ok := I.ok
  have hfr : X.A.frames = some (X.env :: X.outer) := by rw [ok.frames, hs]
  have hloc : Loc X.env.scope n := .inl hln
  refine wpAny_Try_except ?_
  refine wpAny_mono ((hb (wTry X.K tab cs i ts Wout D) (X.pn ++ pins) (fun e s₁ => wpAny (model X.prog X.w) X.A (noteFrame e X.env) (fun _ s₂ => wpAny (model X.prog X.w) X.A (setFlight e none) (fun _ s₃ =>
    wpAny (model X.prog X.w) X.A (handleBy e X.env [.ExceptHandler (some te) (some n) (b₀ :: suite) pos']) (SP X pins D) X.xe s₃) X.xe s₂) X.xe s₁) (fun u s' xx => ?_) PassesOwn.looking).run [] s σ H D (I.toTry _) h) (fun f s1 hsp => ?_) (fun e s1 he => he)
  · obtain ⟨a, B, sI, pins', σ', H', cls, d, rfl, J', nb, up, sky, na, os, ag, c, b, rc, hb1, hyes, hno⟩ := xx
    have J : Inv X pins σ' H' sI := J'.ofTry ok
    have sky' : Sky B (X.env :: X.outer) a (Zc cls d) X.env.locals s'.heap := by rw [← hs]; exact sky
    show wpAny (model X.prog X.w) X.A (noteFrame (.ref a) X.env) _ _ _
    refine Sky.land Zc.steady hfr hf sky' fun h3 fl3 up3 => ?_
    have J3 : Inv X pins σ' H' { s' with heap := h3 } := J.landed nb fl3.1 (up.trans up3) os ag
    obtain ⟨oe3, vs3, he3, hz3, hd3⟩ := fl3.there
    have nfr : a ∉ frs (X.env :: X.outer) := fun hm => by
      obtain ⟨_, o', e', hnf⟩ := fl3.2.2.1.mem hm
      rw [he3] at e'; cases e'
      exact hnf _ hd3
    have nI : sI.heap.get? a = none := by
      cases e : sI.heap.get? a with
      | none => rfl
      | some o =>
        have := nb a o e (by rw [hs]; exact nfr)
        rw [fl3.2.1] at this; cases this
    have n0 : X.s_0.heap.get? a = none := by
      cases e : X.s_0.heap.get? a with
      | none => rfl
      | some o =>
        obtain ⟨o', e'⟩ := J.base.there a o e (by rw [hex]; simp)
        rw [nI] at e'; cases e'
    have np : ∀ p ∈ X.pn ++ pins, p.1 ≠ a := fun p hp z => by
      have := (J.pin p hp).1
      rw [z, nI] at this; cases this
    have nL : a ≠ X.env.locals := fun z => nfr (List.mem_filterMap.mpr ⟨X.env, List.mem_cons_self, by rw [hf, z]⟩)
    have S3 := suite0 J3 a
    refine wpAny_handleBy_cons (codeAny_handlers_test ?_) (by intro q; cases q)
    have LT : PySem.W.Looks (model X.prog X.w) h3 (typeOf (.ref a)) cls := fun A Q E s k q => wpAny_typeOf_ref (k _ _ he3) (by rw [hz3.1]; exact q)
    refine ht a _ _ _ _ _ cls c b _ _ S3 LT rc hb1 fun v h3' k3 LM => LM.here ?_
    have fl3' := flying_keeps fl3 k3
    have up3' : sI.heap.UpToSlots h3' := (up.trans up3).trans fun b o e _ => ⟨o.slots, k3 b o e⟩
    cases b with
    | true =>
      refine codeAny_handlers_suite_as ?_
      refine HandSPX.lands_againZ fl3' fun h4 fl4 up4 => ?_
      have J4 : Inv X pins σ' H' { s' with heap := h4 } := J.landed nb fl4.1 (up3'.trans up4) os ag
      obtain ⟨oe4, vs4, he4, hz4, hd4⟩ := fl4.there
      have J5 : Inv X pins σ' (upd H' a (exv a cls d)) { s' with heap := h4 } := adopt J4 he4 hz4 hd4 na n0 nL np
      have S4 := suite0 J5 a
      refine store_ok (X := X.suite a (X.pn ++ pins)) (v := .ref a) S4 hN hi hloc rfl (fun s5 S5 => ?_) (.inr hln)
      refine wpAny_mono ((hsu a (X.pn ++ pins)).run [] s5 _ _ _ S5 (hyes rfl a na)) (fun f s6 hsp => ?_) (fun _ _ z => False.elim z)
      have end_ : ∀ {σ6 : L2.St} {H6 : Hp} {Q : Shared → Prop}, Inv (X.suite a (X.pn ++ pins)) [] σ6 H6 s6 → (∀ s7, Inv X pins (σ6.set i none) H6 s7 → Q s7) →
          wpAny (model X.prog X.w) X.A (do bindName X.env n .none; unbindBehindTheSuite X.env n pos') (fun _ s7 => Q s7) X.xe s6 := fun {σ6 H6 Q} S6 hq => gone_ok (unsuite0 S6 ok) hN hi hln hq
      cases f with
      | next =>
        obtain ⟨σ6, H6, S6, q6⟩ := hsp
        exact end_ S6 fun s7 J7 => ⟨_, _, J7, q6⟩
      | brk =>
        obtain ⟨σ6, H6, S6, q6⟩ := hsp
        exact end_ S6 fun s7 J7 => ⟨_, _, J7, q6⟩
      | cont =>
        obtain ⟨σ6, H6, S6, q6⟩ := hsp
        exact end_ S6 fun s7 J7 => ⟨_, _, J7, q6⟩
      | ret u =>
        obtain ⟨v6, σ6, H6, S6, r6, q6⟩ := hsp
        exact end_ S6 fun s7 J7 => ⟨_, _, _, J7, r6, q6⟩
    | false =>
      show wpAny _ X.A (handleBy (.ref a) X.env []) _ _ _
      refine wpAny_handleBy_nil ?_
      obtain ⟨k1, k2, k3', oe, vs, T, oT, ts', he, hz, hd, h1, hr⟩ := id fl3'
      unfold PySem.passOn
      refine wpAny_bind (wpAny_field he hd h1 ?_)
      rw [if_neg (show ¬ ((Value.ref T == Value.none) = true) from by simp)]
      have fin : wpAny (model X.prog X.w) X.A (setFlight (.ref a) X.env.frame) (fun _ s4 => wpAny (model X.prog X.w) X.A (throw (.ref a) : Sem Flow) (SP X pins D) X.xe s4) X.xe { s' with heap := h3' } := by
        rw [hf]
        refine HandSPX.setFlight_upZ fl3' fun h4 hh4 up4 => wpAny_throw (tk _ _ ?_)
        exact ⟨a, B, sI, pins, σ', H', cls, d, rfl, J, nb, up3'.trans up4, .inr (.inr (by rw [hs]; exact hh4)), na, os, ag, hno rfl⟩
      first
        | exact wpAny_bind (wpAny_pure (wpAny_bind fin))
        | exact wpAny_bind fin
  · cases f with
    | next =>
      obtain ⟨σ', H', J', q⟩ := hsp
      exact wpAny_execs_nil ⟨σ', H', J'.ofTry ok, q⟩
    | brk =>
      obtain ⟨σ', H', J', q⟩ := hsp
      exact ⟨σ', H', J'.ofTry ok, q⟩
    | cont =>
      obtain ⟨σ', H', J', q⟩ := hsp
      exact ⟨σ', H', J'.ofTry ok, q⟩
    | ret u =>
      obtain ⟨v, σ', H', J', r, q⟩ := hsp
      exact ⟨v, σ', H', J'.ofTry ok, r, q⟩
end
end DL

/-! try as a function; defs called within an except suite; defs as values. -/
namespace DL
open PySem PySem.Spec L2
open PyProof.Rows hiding St
def sTry (tab : XTab) (cs : List Cn) (i : Nat) (B Su : Ev → Sto → SR) : Ev → Sto → SR := fun ρ S => match B ρ S with
  | .er e ρ1 S1 => (match isXs tab e.cls cs with
    | some true => (match Su (ρ1.set i (some (.exc e.cls e.fs))) S1 with
      | .nx ρ2 S2 => .nx (ρ2.set i none) S2
      | .bk ρ2 S2 => .bk (ρ2.set i none) S2
      | .ct ρ2 S2 => .ct (ρ2.set i none) S2
      | .rt d S2 => .rt d S2
      | .er _ _ _ => .stuck
      | .stuck => .stuck)
    | some false => .er e ρ1 S1
    | none => .stuck)
  | r => r
theorem ds_try (i : Nat) {X : Cx} {W : WX} {n : Str} {tab : XTab} {cs : List Cn} {body suite : List Stmt} {b₀ : Stmt} {te : Expr} {pos pos' : Pos} {B Su : Ev → Sto → SR} (hN : X.N.Nodup) (ht : XTest X tab te cs) (tk : Takes X W)
    (hb : ∀ (W' : WX) (pn : List (Addr × Obj)) (xe : Value → Shared → Prop), Takes (X.tr pn xe) W' → PassesOwn (model X.prog X.w) X.A X.env xe → DSs (X.tr pn xe) W' body B)
    (hsu : ∀ (a : Addr) (pn : List (Addr × Obj)), DSs (X.suite a pn) W0 (b₀ :: suite) Su)
    (hs : X.stack = X.env :: X.outer := by rfl) (hf : X.env.frame = some X.env.locals := by rfl) (hex : X.ex = [] := by rfl) (hi : X.N[i]? = some n := by rfl) (hln : X.env.kindOf n = some .local := by rfl) :
    DS X W (.Try body [.ExceptHandler (some te) (some n) (b₀ :: suite) pos'] [] [] pos) (sTry tab cs i B Su) := by
  refine PS.imp (ps_tryV (tb := fun W' => rdS X.K W' B) (ts := rdS X.K W0 Su) hs hf hex hN hi hln ht tk hb hsu) fun E σ H ⟨ι, ρ, S, hE, hS, h⟩ => ⟨ι, ρ, S, hE, hS, ?_⟩
  unfold sTry at h
  cases hB : B ρ S with
  | nx ρ1 S1 => rw [hB] at h; exact h
  | rt d S1 => rw [hB] at h; exact h
  | bk ρ1 S1 => rw [hB] at h; exact h
  | ct ρ1 S1 => rw [hB] at h; exact h
  | stuck => rw [hB] at h; exact h
  | er e ρ1 S1 =>
    rw [hB] at h
    replace h : PostS X.K W E ι H (match isXs tab e.cls cs with
      | some true => (match Su (ρ1.set i (some (.exc e.cls e.fs))) S1 with
        | .nx ρ2 S2 => .nx (ρ2.set i none) S2
        | .bk ρ2 S2 => .bk (ρ2.set i none) S2
        | .ct ρ2 S2 => .ct (ρ2.set i none) S2
        | .rt d S2 => .rt d S2
        | .er _ _ _ => .stuck
        | .stuck => .stuck)
      | some false => .er e ρ1 S1
      | none => .stuck) := h
    intro ι' H' σ' cls dd G s' e' rx
    cases hx : isXs tab e.cls cs with
    | none => rw [hx] at h; exact h.elim
    | some b =>
      refine ⟨e.cls, b, rx.1, hx, fun hb a na => ?_, fun hb => ?_⟩
      · subst hb
        rw [hx] at h
        have Gu : Grow ι' H' ι' (upd H' a (exv a cls dd)) := Grow.upd na
        have r : RepV X.K ι' (upd H' a (exv a cls dd)) (.exc e.cls e.fs) (.ref a) := by
          rw [RepV]
          refine ⟨a, cls, dd, rfl, s'.free na, upd_same, rx.1, ?_⟩
          rcases rx.2 with r2 | ⟨d, vs, e1, e2, e3, e4⟩
          · exact .inl r2
          · exact .inr ⟨d, vs, e1, e2, by rw [upd_ne (ne_of_none e3 na)]; exact e3, RepF.grow Gu _ _ e4⟩
        refine ⟨ι', _, S1, (e'.grow Gu).set r i, s'.upd na, ?_⟩
        have h := PostS.grow h (G.trans Gu)
        cases hS : Su (ρ1.set i (some (.exc e.cls e.fs))) S1 with
        | nx ρ2 S2 => rw [hS] at h; exact fun ι3 H3 σ3 G3 s3 e3 => h ι3 H3 _ G3 s3 (e3.drop none i)
        | bk ρ2 S2 => rw [hS] at h; exact fun ι3 H3 σ3 G3 s3 e3 => h ι3 H3 _ G3 s3 (e3.drop none i)
        | ct ρ2 S2 => rw [hS] at h; exact fun ι3 H3 σ3 G3 s3 e3 => h ι3 H3 _ G3 s3 (e3.drop none i)
        | rt d S2 => rw [hS] at h; exact h
        | er x ρ2 S2 => rw [hS] at h; exact h.elim
        | stuck => rw [hS] at h; exact h
      · subst hb
        rw [hx] at h
        exact h ι' H' σ' cls dd G s' e' rx
/-! ### defs called within an except suite -/
def FnDH (gd : Bool) (P : Program) (w : World) (K : PySem.W.Frag) (mg : Str → Option Value) (base : Heap) (k : Nat) (f : Addr) (F : Fn) : Prop :=
  ∀ (A : Around) (outer : List Env) (s : Shared) (H : Hp) (us : List Value) (vs : List V) (Q : VK) (E : XK), L2H.RoomH k A → (gd = true → A.guards = some []) → Env0 P w K mg base A outer s H → Vals vs us → spD K F vs H Q E →
    codeAny (model P w) A (.call (.ref f) ⟨us, []⟩) (CR (L2.CX P w) outer P w H s Q E) s
theorem FnDH.cold {gd : Bool} {P : Program} {w : World} {K : PySem.W.Frag} {mg : Str → Option Value} {base : Heap} {k : Nat} {f : Addr} {F : Fn} (h : FnDH gd P w K mg base k f F) : FnD gd P w K mg base k f F :=
  fun A outer s H us vs Q E hr => h A outer s H us vs Q E (L2H.roomH_of hr)
/-- the context of a def's body where an exception may be handled -/
abbrev hotOf (X : Cx) : Cx := { X with calm := false }
theorem inv_hot {CX : CXT} {P : Program} {w : World} {K : PySem.W.Frag} {mg : Str → Option Value} {base : Heap} {N ps : List Str} {qual : Str} {scope : Scope} {f : Addr} {cd : Value} {A : Around} {outer : List Env} {s s1 : Shared} {H : Hp} {E : XK} {us : List Value} {vs : List V}
    (S : FnScope N ps scope) (e0 : Env0 P w K mg base A outer s H) (hl : vs.length = ps.length) (r : Vals vs us)
    (x : InCallC s s.heap.objs.size (bindL (envOfC qual scope s.heap.objs.size f cd).kindOf (ps.zip us) fun _ => none) (cellsFrom (s.heap.objs.size + 1) scope.names []) (bindC (envOfC qual scope s.heap.objs.size f cd).kindOf (ps.zip us) fun _ => none) s1) :
    Inv (hotOf (cxOf CX P w K mg base N qual scope f cd A outer s H E)) [] (start N vs) H s1 := by
  have e1 : Env0 P w K mg base { A with handled := none } outer s H := ⟨e0.frames, e0.mod, e0.bs, e0.bsz, e0.funs, e0.frf, e0.hok, e0.bare⟩
  have I := inv_start (CX := CX) (E := E) (A := { A with handled := none }) (qual := qual) (f := f) (cd := cd) S rfl e1 hl r x
  have ok := I.ok
  exact ⟨⟨ok.mod, ok.kind, ok.glob, ok.blt, ok.above, ok.inj, ok.has, ok.cab, (fun z => Bool.noConfusion (show false = true from z)), Around.frames_deeper e0.frames, ok.stk, ok.exf, ok.bs, ok.bsz, ok.noex, ok.exfs, ok.funs, ok.frf⟩,
    I.os, I.bare, I.base, I.loc, I.cell, I.free, I.freeC, I.pin, I.hok, I.len⟩
theorem fnDH_of {gd : Bool} {P : Program} {w : World} {K : PySem.W.Frag} {mg : Str → Option Value} {base : Heap} {k : Nat} {f : Addr} {fd : FuncData} {N ps : List Str} {x qual : Str} {st : Stmt} {cl : Sto → D → Sto → R D} {B : Ev → Sto → SR} (F : Fun K x qual st f fd) (sc : FnScope N ps (defScope st)) (hb : Binds K fd ps []) (hcl : ClOk cl)
    (hbody : ∀ (cdv : Value) (A : Around) (outer : List Env) (s : Shared) (H : Hp) (E : XK), L2H.RoomH k (A.deeper (envOfC qual (defScope st) s.heap.objs.size f cdv)) → (gd = true → A.guards = some []) →
      Takes (hotOf (cxOf (L2.CX P w) P w K mg base N qual (defScope st) f cdv A outer s H E)) (fun cls d _ H' => E cls d H') →
      DSs (hotOf (cxOf (L2.CX P w) P w K mg base N qual (defScope st) f cdv A outer s H E)) (fun cls d _ H' => E cls d H') (defBody st) B) : FnDH gd P w K mg base (k + 1) f (fnC cl N.length ps.length B) := by
  intro A outer s H us vs Q E hr hgd e0 rv hsp
  obtain ⟨oc, od, kV, doc, pm, an, cdv, ct, osl, efd, lk, hcd⟩ := F.ex
  obtain ⟨hl, rd⟩ := body_read (N := N) hcl hsp
  have hlu : us.length = ps.length := by rw [← rv.length]; exact hl
  have kept : ∀ b o, base.get? b = some o → s.heap.get? b = some o := fun b o e => (e0.bs b o e).1
  have KX : K.In s.heap := e0.mod.kin.keeps kept
  have bd := hb s us KX (by rw [List.append_nil]; exact hlu)
  rw [List.append_nil, efd] at bd
  rw [efd] at lk
  have hkind : ∀ y ∈ ps.zip us, (defScope st).names.lookup y.1 = some .local ∨ ((defScope st).names.lookup y.1 = some .cell ∧
      ((cellsFrom (s.heap.objs.size + 1) (defScope st).names []).lookup y.1).isSome = true) := by
    rintro ⟨n, v⟩ hy
    exact (sc.par n (List.of_mem_zip hy).1).imp id fun q => ⟨q, PySem.W.cellsFrom_some _ _ _ (.inl q)⟩
  refine codeAny_call_function hr.depth (KX _ _ lk) rfl sc.co sc.gen rfl
    (PySem.W.codeRec_of KX hcd) (bd _ _ _ _ (wpAny_newFunctionEnv_cells sc.kind hkind fun env he s1 ic => ?_))
  subst he
  refine ⟨(e0.mod.nolimit.keeps kept).keeps ic.toInCall.keep, codeAny_func ?_⟩
  have I := inv_hot (CX := L2.CX P w) (P := P) (w := w) (E := E) sc e0 hl rv ic
  have body := hbody cdv A outer s H E (hr.deeper _) hgd (takes_of rfl rfl rfl rfl)
  refine wpAny_mono (body.run [] s1 (start N vs) H _ I rd) (fun fl s' hs => ?_) fun e s' hs => hs
  cases fl with
  | ret u =>
    obtain ⟨v, σ', H', J, r', q⟩ := hs
    exact ⟨v, H', J.os, J.bare, J.base, J.hok, r', q⟩
  | next =>
    obtain ⟨σ', H', J, q⟩ := hs
    exact ⟨V.non, H', J.os, J.bare, J.base, J.hok, rfl, q⟩
  | brk => obtain ⟨_, _, _, q⟩ := hs; exact False.elim q
  | cont => obtain ⟨_, _, _, q⟩ := hs; exact False.elim q
section
variable {X : Cx} {W : WX} {gd : Bool} {k : Nat} {f : Addr} {F : Fn} {x : Str} {p pos : Pos} {e : Expr} {es : List Expr} {g : Ev → Sto → R (List D)}
theorem run_fnDH {pins : List (Addr × Obj)} {σ : L2.St} {H : Hp} {s : Shared} {Q : VK} {us : List Value} {vs : List V} (hF : FnDH gd X.prog X.w X.K X.mg X.base k f F) (hr : L2H.RoomH k X.A) (hG : gd = true → X.A.guards = some []) (tk : Takes X W)
    (I : Inv X pins σ H s) (r : Vals vs us) (h : spD X.K F vs H Q (WE W σ)) : wpAny (model X.prog X.w) X.A (call (.ref f) us) (EP X pins σ Q) X.xe s := by
  refine wpAny_call (codeAny_mono (hF X.A X.stack s H us vs Q (WE W σ) hr hG I.env0 r h) fun res s' hq => ?_)
  cases res with
  | error er => exact passAt tk σ pins H s er s' I hq
  | ok fl =>
    cases fl with
    | ret u => exact I.after hq
    | next => exact False.elim hq
    | brk => exact False.elim hq
    | cont => exact False.elim hq
theorem de_callDH (hF : FnDH gd X.prog X.w X.K X.mg X.base k f F) (hr : L2H.RoomH k X.A) (hG : gd = true → X.A.guards = some []) (tk : Takes X W) (hm : X.mg x = some (.ref f)) (hk : PySem.W.keepIn X.K (.ref f) = true) (ha : DA X W (e :: es) g) (hg : Gl X x := by rfl) (hdb : (x == ("__debug__" : Str)) = false := by decide)
    (he : starEach (e :: es) X.env = (false, eval e X.env) :: starEach es X.env := by rfl) (hpl : (backTo pos (starEach es X.env)).any (·.1) = false := by rfl) : DE X W (.Call (.Name x p) (e :: es) [] pos) (eCall F g) := by
  refine ⟨fun pins s σ H Q I ⟨ι, ρ, S, hE, hS, h⟩ => ?_⟩
  refine wpAny_Call_Name_kw (ld_glob I hg hm ?_ hdb)
  have rd : rdA X.K W g σ H fun vs H1 => spD X.K F vs H1 Q (WE W σ) := ⟨ι, ρ, S, hE, hS, (Post.bind h).mono fun ds S1 ι1 H1 G1 s1 h1 vs rs => ⟨ι1, S1, ds, rs, s1, PostX.of h1⟩⟩
  exact PySem.W.callWith_K (h₀ := X.base) I.ok.mod.kin hk (thn (ha.run pos pins s σ H _ I rd) fun us s1 ⟨vs, H1, I1, r1, q1⟩ => ⟨I1.kIn, run_fnDH hF hr hG tk I1 r1 q1⟩) he hpl
/-! ### a def held by a local name -/
def eCallV (tbl : List (Str × Fn)) (f : Ev → Sto → R D) (g : Ev → Sto → R (List D)) : Ev → Sto → R D := fun ρ S => (f ρ S).bind fun d S1 => match d with
  | .fn n => (match tbl.lookup n with
    | some F => (g ρ S1).bind fun ds S2 => F ds S2
    | none => .stuck)
  | _ => .stuck
/-- what the table says is so -/
def TblOk (gd : Bool) (P : Program) (w : World) (K : PySem.W.Frag) (mg : Str → Option Value) (base : Heap) (k : Nat) (tbl : List (Str × Fn)) : Prop := ∀ n F, (n, F) ∈ tbl → ∃ f, PySem.W.nsIn K mainGlobals n = some (some (.ref f)) ∧ PySem.W.keepIn K (.ref f) = true ∧ FnD gd P w K mg base k f F
theorem tbl_nil {gd : Bool} {P : Program} {w : World} {K : PySem.W.Frag} {mg : Str → Option Value} {base : Heap} {k : Nat} : TblOk gd P w K mg base k [] := fun n F h => by simp at h
theorem tbl_cons {gd : Bool} {P : Program} {w : World} {K : PySem.W.Frag} {mg : Str → Option Value} {base : Heap} {k : Nat} {tbl : List (Str × Fn)} {n : Str} {f : Addr} {F : Fn} (h1 : PySem.W.nsIn K mainGlobals n = some (some (.ref f))) (h2 : PySem.W.keepIn K (.ref f) = true) (h3 : FnD gd P w K mg base k f F) (t : TblOk gd P w K mg base k tbl) :
    TblOk gd P w K mg base k ((n, F) :: tbl) := fun m G h => by
  rcases List.mem_cons.mp h with e | h
  · cases e; exact ⟨f, h1, h2, h3⟩
  · exact t m G h
theorem de_callV (i : Nat) {tbl : List (Str × Fn)} (hT : TblOk gd X.prog X.w X.K X.mg X.base k tbl) (hr : Room k X.A) (hG : gd = true → X.A.guards = some []) (tk : Takes X W) (ha : DA X W (e :: es) g) (hN : X.N[i]? = some x := by rfl) (hv : Vis X.env.scope x := by first | exact Or.inl rfl | exact Or.inr (Or.inl rfl) | exact Or.inr (Or.inr rfl))
    (hdb : (x == ("__debug__" : Str)) = false := by decide) (hcd : (x == ("__classdict__" : Str)) = false := by decide)
    (he : starEach (e :: es) X.env = (false, eval e X.env) :: starEach es X.env := by rfl) (hpl : (backTo pos (starEach es X.env)).any (·.1) = false := by rfl) : DE X W (.Call (.Name x p) (e :: es) [] pos) (eCallV tbl (eVar i) g) := by
  refine ⟨fun pins s σ H Q I ⟨ι, ρ, S, hE, hS, h⟩ => ?_⟩
  unfold eCallV eVar at h
  cases hd : ρ[i]? with
  | none => rw [hd] at h; exact h.elim
  | some o =>
    cases o with
    | none => rw [hd] at h; exact h.elim
    | some d =>
      rw [hd] at h
      replace h : Post X.K W σ ι H (match d with
        | .fn n => (match tbl.lookup n with
          | some F => (g ρ S).bind fun ds S2 => F ds S2
          | none => .stuck)
        | _ => .stuck) fun d _ ι' H' => ∀ v, RepV X.K ι' H' d v → Q v H' := h
      cases d with
      | fn n =>
        replace h : Post X.K W σ ι H (match tbl.lookup n with
          | some F => (g ρ S).bind fun ds S2 => F ds S2
          | none => .stuck) fun d _ ι' H' => ∀ v, RepV X.K ι' H' d v → Q v H' := h
        cases hl : tbl.lookup n with
        | none => rw [hl] at h; exact h.elim
        | some F =>
          rw [hl] at h
          obtain ⟨v, hv', rv⟩ := hE.get hd
          rw [RepV] at rv
          obtain ⟨a, rfl, ha'⟩ := rv
          obtain ⟨f, h1, h2, h3⟩ := hT n F (lookup_mem hl)
          rw [ha'] at h1
          cases h1
          refine wpAny_Call_Name_kw (thn ((pe_var (pos := p) hN hv hdb hcd).run pins s σ H (fun v H1 => v = .ref a ∧ H1 = H) I ⟨.ref a, hv', rfl, rfl⟩) fun u s1 ⟨v, H1, I1, r1, q1⟩ => ?_)
          obtain ⟨rfl, rfl⟩ := q1
          cases r1
          have rd : rdA X.K W g σ H1 fun vs H2 => spD X.K F vs H2 Q (WE W σ) := ⟨ι, ρ, S, hE, hS, (Post.bind h).mono fun ds S1 ι1 H1 G1 s1 h1 vs rs => ⟨ι1, S1, ds, rs, s1, PostX.of h1⟩⟩
          exact PySem.W.callWith_K (h₀ := X.base) I.ok.mod.kin h2 (thn (ha.run pos pins s1 σ _ _ I1 rd) fun us s2 ⟨vs, H2, I2, r, q⟩ => ⟨I2.kIn, run_fnD h3 hr hG tk I2 r q⟩) he hpl
      | _ => exact (show False from h).elim
end
/-- a def or a class as a value -/
theorem de_fn {X : Cx} {W : WX} {x : Str} {f : Addr} {pos : Pos} (hg : Gl X x) (hm : X.mg x = some (.ref f)) (hn : PySem.W.nsIn X.K mainGlobals x = some (some (.ref f))) (hd : (x == ("__debug__" : Str)) = false := by decide) : DE X W (.Name x pos) (eC (.fn x)) :=
  de_glob hg hm ⟨.ref f, rfl, fun ι H => by rw [RepV]; exact ⟨f, rfl, hn⟩⟩ hd
end DL

/-! Dict displays with written keys, list(range(..)), repr within an except suite. -/
namespace DL
open PySem PySem.Spec L2
open PyProof.Rows hiding St
/-! ### {} and {k: v, ..} -/
def eDict0 : Ev → Sto → R D := fun _ S => .ok (.fd []) S
theorem rep_fd {K : PySem.W.Frag} {ι : List Addr} {H : Hp} {kvs : List (Key × D)} {ks : List (Key × V)} {p : Addr} (n : p ∉ ι) (h : H p = some (.dK ks)) (r : RepK K ι H kvs ks) : RepV K ι H (.fd kvs) (.ref p) := by
  rw [RepV]; exact ⟨p, ks, rfl, n, h, r⟩
theorem de_dict0 {X : Cx} {W : WX} {pos : Pos} : DE X W (.Dict [] [] pos) eDict0 := by
  refine PE.imp pe_dnewK fun σ H Q ⟨ι, ρ, S, hE, hS, h⟩ p hp => ?_
  exact h ι _ (Grow.upd hp) (hS.upd hp) _ (rep_fd (hS.free hp) upd_same (by rw [RepK]))
/-- written pairs, the values constants -/
def DPc (X : Cx) (pos : Pos) (keys : List (Option Expr)) (values : List Expr) (kvs : List (Key × D)) : Prop := ∃ vs : List (Key × V), PPs X pos keys values (vs.map fun q => (tC (kV q.1), tC q.2)) ∧ ∀ ι H, RepK X.K ι H kvs vs
theorem dpc_nil {X : Cx} {pos : Pos} : DPc X pos [] [] [] := ⟨[], pps_nil, fun _ _ => by rw [RepK]⟩
theorem dpc_cons {X : Cx} {pos : Pos} {k v : Expr} {ks : List (Option Expr)} {vs : List Expr} {key : Key} {d : D} {y : V} {kvs : List (Key × D)} (hk : PE X k (tC (kV key))) (hv : PE X v (tC y)) (r : ∀ ι H, RepV X.K ι H d y) (hr : DPc X pos ks vs kvs) :
    DPc X pos (some k :: ks) (v :: vs) ((key, d) :: kvs) := by
  obtain ⟨ws, h1, h2⟩ := hr
  exact ⟨(key, y) :: ws, pps_cons hk hv h1, fun ι H => by rw [RepK]; exact ⟨y, ws, rfl, r ι H, h2 ι H⟩⟩
theorem pairs_c {Q : List (V × V) → Hp → Prop} {σ : L2.St} {H : Hp} : ∀ (ws : List (Key × V)) (acc : List (V × V)), Q (acc ++ ws.map fun q => (kV q.1, q.2)) H → tPairs (ws.map fun q => (tC (kV q.1), tC q.2)) σ H fun ps H' => Q (acc ++ ps) H'
  | [], acc, h => by simpa [tPairs] using h
  | q :: ws, acc, h => by
    have := pairs_c (Q := Q) (σ := σ) (H := H) ws (acc ++ [(kV q.1, q.2)]) (by simpa using h)
    show tPairs _ σ H fun ps H3 => Q (acc ++ ((kV q.1, q.2) :: ps)) H3
    simpa using this
theorem merge_nodup : ∀ (l acc : List (Key × V)), ((acc ++ l).map (·.1)).Nodup → mergeK acc l = acc ++ l
  | [], acc, _ => by simp [mergeK]
  | (k, v) :: l, acc, h => by
    have hk : (acc.any fun kv => decide (kv.1 = k)) = false := by
      rw [Bool.eq_false_iff]
      intro z
      obtain ⟨q, hq, e⟩ := List.any_eq_true.mp z
      have e := of_decide_eq_true e
      rw [List.map_append, List.map_cons] at h
      have := (List.nodup_append.mp h).2.2 q.1 (List.mem_map.mpr ⟨q, hq, rfl⟩) k List.mem_cons_self
      exact this e
    have e1 : putK acc k v = acc ++ [(k, v)] := by unfold putK; rw [hk]; rfl
    have : mergeK acc ((k, v) :: l) = mergeK (putK acc k v) l := rfl
    rw [this, e1, merge_nodup l (acc ++ [(k, v)]) (by simpa using h)]
    simp
theorem RepK.keys {K : PySem.W.Frag} {ι : List Addr} {H : Hp} : ∀ {kvs : List (Key × D)} {vs : List (Key × V)}, RepK K ι H kvs vs → vs.map (·.1) = kvs.map (·.1)
  | [], _, h => by rw [RepK] at h; subst h; rfl
  | (k, d) :: kvs, _, h => by
    rw [RepK] at h
    obtain ⟨v, r, rfl, a, b⟩ := h
    rw [List.map_cons, List.map_cons, RepK.keys b]
theorem de_dispC {X : Cx} {W : WX} {pos : Pos} {keys : List (Option Expr)} {values : List Expr} {kvs : List (Key × D)} (h : DPc X pos keys values kvs) (hn : (kvs.map (·.1)).Nodup := by decide) (h15 : keys.length ≤ 15 := by decide) (he : kvs.length ≤ 15 := by decide) (hall : keys.all (·.isSome) = true := by rfl) (hl : keys.length = values.length := by rfl) (h0 : keys ≠ [] := by intro z; cases z) :
    DE X W (.Dict keys values pos) (eC (.fd kvs)) := by
  obtain ⟨ws, h1, h2⟩ := h
  refine PE.imp (pe_disp h1 hall hl h0 h15) fun σ H Q ⟨ι, ρ, S, hE, hS, h⟩ p hp => ?_
  have hk := RepK.keys (h2 ι H)
  have hlen : ws.length = kvs.length := by have := congrArg List.length hk; simpa using this
  have := pairs_c (Q := fun ps H2 => H2 p = some (.dK []) ∧ ∃ kvs : List (Key × V), ps = kvs.map (fun kv => (kV kv.1, kv.2)) ∧ kvs.length ≤ 15 ∧ Q (.ref p) (upd H2 p (.dK (mergeK [] kvs)))) (σ := σ) (H := upd H p (.dK [])) ws [] ⟨upd_same, ws, by simp, by rw [hlen]; exact he, ?_⟩
  · simpa using this
  · rw [merge_nodup ws [] (by rw [List.nil_append, hk]; exact hn), List.nil_append, upd_upd]
    exact h ι _ (Grow.upd hp) (hS.upd hp) _ (rep_fd (hS.free hp) upd_same (h2 ι _))
/-! ### list(range(n)) -/
theorem rgV_rep {K : PySem.W.Frag} {ι : List Addr} {H : Hp} (a b : Int) : RepL K ι H (rangeD a (b - a).toNat) (rgV a b) := by
  unfold rangeD rgV
  generalize (b - a).toNat = n
  have key : ∀ l : List Nat, RepL K ι H (l.map fun k => D.int (a + (k : Nat))) (l.map fun i => V.int (a + (i : Nat))) := by
    intro l
    induction l with
    | nil => exact RepL.nil
    | cons x l ih => exact RepL.cons int_rep ih
  exact key _
noncomputable def eListRg (mk : List D → Sto → R D) (f : Ev → Sto → R D) : Ev → Sto → R D := fun ρ S => (f ρ S).bind fun d S1 => (iOf d S1).bind fun n S2 => ifp (RgOk 0 n) (mk (rangeD 0 n.toNat) S2) .stuck
theorem de_listRg {X : Cx} {W : WX} {mk : List D → Sto → R D} {a : Expr} {p p2 pos pos2 : Pos} {f : Ev → Sto → R D} (m : MkOk mk) (hc : X.calm = true) (hm : X.mg "list" = none) (hm2 : X.mg "range" = none) (ha : DE X W a f) (hg : Gl X "list" := by rfl) (hg2 : Gl X "range" := by rfl)
    (na : starEach [a] X.env = (false, eval a X.env) :: starEach [] X.env := by rfl) (nb : starEach [.Call (.Name "range" p2) [a] [] pos2] X.env = (false, eval (.Call (.Name "range" p2) [a] [] pos2) X.env) :: starEach [] X.env := by rfl) :
    DE X W (.Call (.Name "list" p) [.Call (.Name "range" p2) [a] [] pos2] [] pos) (eListRg mk f) := by
  refine PE.imp (pe_listRg hc hg hm (prg_1 hg2 hm2 ha na) nb) fun σ H Q ⟨ι, ρ, S, hE, hS, h⟩ => ⟨ι, ρ, S, hE, hS, (Post.bind h).mono fun d S1 ι1 H1 G1 s1 h1 v rv => ?_⟩
  cases d with
  | int n =>
    replace h1 : Post X.K W σ ι1 H1 (ifp (RgOk 0 n) (mk (rangeD 0 n.toNat) S1) .stuck) fun d _ ι' H' => ∀ v, RepV X.K ι' H' d v → Q v H' := h1
    unfold ifp at h1
    split at h1
    · rename_i hr
      refine ⟨n, int_at rv, hr, fun q hq => ?_⟩
      have e : n.toNat = (n - 0).toNat := by rw [Int.sub_zero]
      rw [e] at h1
      exact m _ _ _ _ _ _ _ _ _ h1 s1 (rgV_rep 0 n) q hq
    · exact h1.elim
  | _ => exact (show False from h1).elim
/-! ### repr, wherever there is room -/
theorem c_reprU {X : Cx} (hu : X.A.units + 100 < cLine) (hg : X.A.guards = some []) (hb : ∃ o, X.base.get? sysModules = some o) : CallR X (.builtin "repr") (rRepr X.K) := by
  intro pins s σ H xs us Q I rv h
  obtain ⟨ι, S, d, x, p, rfl, sm, r, e, ⟨h1, h2, h3⟩, q⟩ := h
  cases rv with
  | cons r1 r2 =>
    cases r2
    rename_i u
    obtain ⟨as, rd, na⟩ := pyS_reads I hb sm r r1 e
    show wpAny _ _ (call (.builtin "repr") [u]) _ _ _
    have fin : ∀ (h' : Heap) (t : Tok) (tk : Nat), (∀ b o, s.heap.get? b = some o → h'.get? b = some o) → EP X pins σ Q (.str p.shown t) { s with heap := h', toks := tk } := fun h' t tk hk => ⟨.str p.shown, H, I.kept hk, ⟨_, rfl⟩, q⟩
    cases rd with
    | none => exact P.repr_of_none (fin _ _ _ fun _ _ e => e)
    | bool b => exact P.repr_of_bool (fin _ _ _ fun _ _ e => e)
    | int i t => exact P.repr_of_int (by simpa [PyData.showable] using h1) (fin _ _ _ fun _ _ e => e)
    | str z t => exact P.repr_of_str (fin _ _ _ fun _ _ e => e) h2
    | list a1 a2 a3 a4 => exact repr_of_reads' (.list a1 a2 a3 a4) h1 (fun _ => na) hg (by omega) (fun _ _ e => e) (fun h' t tk hk => fin h' t tk hk) h2
    | tuple a1 a2 a3 a4 => exact repr_of_reads' (.tuple a1 a2 a3 a4) h1 (fun _ => na) hg (by omega) (fun _ _ e => e) (fun h' t tk hk => fin h' t tk hk) h2
    | dict a1 a2 a3 a4 a5 => exact repr_of_reads' (.dict a1 a2 a3 a4 a5) h1 (fun _ => na) hg (by omega) (fun _ _ e => e) (fun h' t tk hk => fin h' t tk hk) h2
end DL

/-! Small things for the printed texts. -/
theorem L2.Room.roomy {k : Nat} {A : PySem.Around} (r : L2.Room k A) : A.units + 100 < PySem.cLine := by have := r.un; omega
theorem L2H.RoomH.roomy {k : Nat} {A : PySem.Around} (r : L2H.RoomH k A) : A.units + 100 < PySem.cLine := by have := r.un; omega
theorem L2H.RoomH.units {k : Nat} {A : PySem.Around} (r : L2H.RoomH k A) : A.units + 64 < PySem.cLine := by have := r.un; omega
namespace DL
open PySem PySem.Spec L2
open PyProof.Rows hiding St
theorem roomH_m {j k : Nat} {A : Around} {h : Option Value} (r : Room k A) (hj : j ≤ k) : L2H.RoomH j (A.mark h) := ⟨by have := r.dp; show A.depth + 3 * j + 5 < _; omega, by have := r.un; show A.units + 16 * j + 200 < _; omega⟩
def noAtB (K : PySem.W.Frag) (T : List (Cn × Value × List Cn)) (f : Str) : Bool := T.all fun q => match q.2.1 with
  | .ref C => decide (PySem.W.findIn K (.ref C) f = some none)
  | _ => true
theorem noAt_ok {K : PySem.W.Frag} {T : List (Cn × Value × List Cn)} {f : Str} (h : tabB K T = true) (hn : noAtB K T f = true) : NoAt K (tabOf T) f := fun c m C hm r => by
  obtain ⟨⟨c', v, m'⟩, hq, e⟩ := List.mem_map.mp hm
  cases e
  have h1 := List.all_eq_true.mp h _ hq
  simp only [Bool.and_eq_true] at h1
  have ev := repC_of h1.1 r
  have h2 := List.all_eq_true.mp hn _ hq
  have ev : Value.ref C = v := ev
  subst ev
  exact of_decide_eq_true h2
end DL

/-! Calls with a starred argument. -/
namespace DL
open PySem PySem.Spec L2
open PyProof.Rows hiding St
section
variable {X : Cx} {W : WX} {gd : Bool} {k : Nat} {f : Addr} {F : Fn} {x : Str} {e : Expr} {es : List Expr} {p sp_ pos : Pos} {g : Ev → Sto → R (List D)} {f0 : Ev → Sto → R D}
theorem de_callS1 (hF : FnD gd X.prog X.w X.K X.mg X.base k f F) (hr : Room k X.A) (hG : gd = true → X.A.guards = some []) (tk : Takes X W) (hm : X.mg x = some (.ref f)) (hk : PySem.W.keepIn X.K (.ref f) = true) (ha : DE X W e f0) (hg : Gl X x := by rfl) (hdb : (x == ("__debug__" : Str)) = false := by decide)
    (hst : starEach [.Starred e sp_] X.env = [(true, eval e X.env)] := by rfl) : DE X W (.Call (.Name x p) [.Starred e sp_] [] pos) (eCall F (aStar f0 aNil)) := by
  refine ⟨fun pins s σ H Q I ⟨ι, ρ, S, hE, hS, h⟩ => ?_⟩
  refine wpAny_Call_Name_kw (ld_glob I hg hm ?_ hdb)
  have rd : rdE X.K W f0 σ H fun y H1 => ∃ a xs, y = V.ref a ∧ (SqT X.K H1 a xs ∨ SqL X.K H1 a xs) ∧ spD X.K F xs H1 Q (WE W σ) := ⟨ι, ρ, S, hE, hS, (Post.bind (Post.bind h)).mono fun d S1 ι1 H1 G1 s1 h1 v rv => by
    obtain ⟨ds, p, vs, rfl, q, rl, h2⟩ := sOf_bind h1 s1 rv
    have h3 := h2.here s1
    rw [List.append_nil] at h3
    exact ⟨p, vs, rfl, q.symm, ι1, S1, ds, rl, s1, PostX.of h3⟩⟩
  refine PySem.W.callWith_S (h₀ := X.base) I.ok.mod.kin hk (thn (ha.run pins s σ H _ I rd) fun v s1 ⟨y, H1, I1, ry, a, xs, ey, hxs, q⟩ => ?_) hst
  subst ey
  obtain rfl : v = Value.ref a := ry
  exact StX.star_any I1 hxs fun us s2 I2 rv => ⟨I2.kIn, run_fnD hF hr hG tk I2 rv q⟩
theorem de_callS2 (hF : FnD gd X.prog X.w X.K X.mg X.base k f F) (hr : Room k X.A) (hG : gd = true → X.A.guards = some []) (tk : Takes X W) (hm : X.mg x = some (.ref f)) (hk : PySem.W.keepIn X.K (.ref f) = true) (ha : DA X W (e :: es) g) (hg : Gl X x := by rfl) (hdb : (x == ("__debug__" : Str)) = false := by decide)
    (he : starEach (e :: es) X.env = (false, eval e X.env) :: starEach es X.env := by rfl) (hst : (backTo pos (starEach es X.env)).any (·.1) = true := by rfl) : DE X W (.Call (.Name x p) (e :: es) [] pos) (eCall F g) := by
  refine ⟨fun pins s σ H Q I ⟨ι, ρ, S, hE, hS, h⟩ => ?_⟩
  refine wpAny_Call_Name_kw (ld_glob I hg hm ?_ hdb)
  have rd : rdA X.K W g σ H fun vs H1 => spD X.K F vs H1 Q (WE W σ) := ⟨ι, ρ, S, hE, hS, (Post.bind h).mono fun ds S1 ι1 H1 G1 s1 h1 vs rs => ⟨ι1, S1, ds, rs, s1, PostX.of h1⟩⟩
  exact PySem.W.callWith_S2 (h₀ := X.base) I.ok.mod.kin hk (thn (ha.run pos pins s σ H _ I rd) fun us s1 ⟨vs, H1, I1, r1, q1⟩ => ⟨I1.kIn, run_fnD hF hr hG tk I1 r1 q1⟩) he hst
end
end DL

/-! enumerate of a list or of a tuple. -/
namespace DL
open PySem PySem.Spec L2
open PyProof.Rows hiding St
open Builtin in
set_option maxHeartbeats 1000000 in
theorem meets_enumerate_new1 {v : Value} {o : Obj} {H : Heap → Prop} (B : Begins v o H) :
    Meets (Builtin.«enumerate.__new__» ⟨[.type "enumerate", v], []⟩) (fun _ R s => H s.heap ∧
      R (.ok (.ret (.ref (s.heap.push o).objs.size))) { s with heap := (s.heap.push o).push { cls := .type "enumerate", data := .fields #[.none, .bool false, .ref s.heap.objs.size, rawInt 0, .none, .none] } }) :=
  .of_wp fun prog w A R s h => by
    obtain ⟨hp, g, d, tk, os⟩ := s; obtain ⟨h1, h⟩ := h
    have hsub := sub_enumerate
    have q1 : ∀ {A' : Around} {E : Value → Shared → Prop} {Q : Value → Shared → Prop}, Q (.ref hp.objs.size) ⟨hp.push o, g, d, tk, os⟩ → wpAny (model prog w) A' (pyIter v) Q E ⟨hp, g, d, tk, os⟩ :=
      fun q => B.iter prog w _ _ ⟨hp, g, d, tk, os⟩ _ h1 q
    wp_walk using q1
    refine wpAny_stack_any fun st => wpAny_pure ?_
    split
    · rename_i c _ _ _ _ _
      cases (c == Value.type "enumerate")
      · wp_walk using q1
        exact ⟨_, rfl, h⟩
      · wp_walk using q1
        exact ⟨_, rfl, h⟩
    · wp_walk using q1
      exact ⟨_, rfl, h⟩
section
variable {prog : Program} {w : World} {A : Around} {E : Value → Shared → Prop} {s : Shared}
theorem enum_begins1 {v : Value} {o : Obj} {H : Heap → Prop} {Q : Value → Shared → Prop} (B : Begins v o H) (h1 : H s.heap)
    (h : ∀ h', IsEnum h' (s.heap.objs.size + 1) s.heap.objs.size 0 .none → h'.get? s.heap.objs.size = some o → h'.objs.size = s.heap.objs.size + 2 →
      (∀ b o, s.heap.get? b = some o → h'.get? b = some o) → Q (.ref (s.heap.objs.size + 1)) { s with heap := h' }) :
    wpAny (model prog w) A (call (.type "enumerate") [v]) Q E s := by
  refine callType_new F.called_enumerate (by decide) (F.typeCall_enumerate_1 _) (F.newCall_enumerate_1 _) (fun obj => F.args_object_init_2 obj _) F.entry_enumerate_new
    (meets_enumerate_new1 B) ⟨h1, ?_⟩
  have hz : (s.heap.push o).objs.size = s.heap.objs.size + 1 := Heap.size_push ..
  show _ ∧ _
  rw [hz]
  have he : IsEnum ((s.heap.push o).push { cls := .type "enumerate", data := .fields #[.none, .bool false, .ref s.heap.objs.size, rawInt 0, .none, .none] }) (s.heap.objs.size + 1) s.heap.objs.size 0 .none := by
    have := Heap.get?_push_size (s.heap.push o) (o := { cls := .type "enumerate", data := .fields #[.none, .bool false, .ref s.heap.objs.size, rawInt 0, .none, .none] }) rfl
    rw [hz] at this; exact this
  refine ⟨⟨_, he, rfl⟩, h _ he (Heap.get?_push_of_some _ (Heap.get?_push_size _ B.free)) (by rw [Heap.size_push, hz]) fun b o x => Heap.get?_push_of_some _ (Heap.get?_push_of_some _ x)⟩
theorem wpAny_pyNext_enum_endT {e it t : Addr} {i : Nat} {items : Array Value} {old : Value} {Q : Option Value → Shared → Prop} (hh : A.handled = none)
    (he : IsEnum s.heap e it i old) (hit : s.heap.IsTupleIter it t i) (hl : s.heap.IsTuple t items) (hx : items[i]? = none)
    (hQ : ∀ h', Heap.ExtBut it s.heap h' → Q none { s with heap := h' }) : wpAny (model prog w) A (pyNext (.ref e)) Q E s := by
  have hT : s.TypeIs (.ref e) "enumerate" := ⟨_, he, rfl⟩
  unfold pyNext
  refine wpAny_bind (wpAny_attempt (wpAny_callSpecial?_slot (name := Str.ofString "__next__") hT F.slot_enumerate_next
    (wpAny_call_entry F.slot_enumerate_next hT F.entry_enumerate_next ?_ (F.args_enumerate_next_1 _))))
  show wpAny _ _ (field (.ref e) 2 >>= _) _ _ _
  refine wpAny_bind (wpAny_field he rfl (x := .ref it) rfl ?_)
  refine wpAny_bind (wpAny_nextOf_tuple_end hh hit hl hx fun h' x he' hx' => ?_)
  obtain ⟨o, ho, hc⟩ := hx'
  refine wpAny_bind (wpAny_isInstance (T := "StopIteration") (b := true) ⟨o, ho, hc⟩ isSubtype_stop ?_)
  exact wpAny_pure (hQ _ he')
end
/-- the tuple at a, each item in a new pair -/
def IteT (K : PySem.W.Frag) (a : Addr) : It :=
  ⟨fun i H => ∃ (xs : List V) (x : V), SqT K H a xs ∧ xs[i]? = some x, fun i H v H' => ∃ T x, v = .ref T ∧ H T = none ∧ H' = upd H T (.tup [.int (i : Nat), x]) ∧ ∀ xs, SqT K H a xs → xs[i]? = some x, fun i H => ∃ xs : List V, SqT K H a xs ∧ xs.length ≤ i⟩
theorem turn_enumT {P : Program} {w : World} {K : PySem.W.Frag} {elts : List Expr} {kk : Nat} {tpos : Pos} (a e it : Addr) :
    Turn P w K (.Tuple elts kk tpos) (IteT K a) [e, it] e (fun i h => (∃ old, IsEnum h e it ((i : Nat) : Int) old) ∧ h.IsTupleIter it a i ∧ e ≠ it) where
  mem := by simp
  obj := fun i h st b hb => by
    obtain ⟨⟨old, he⟩, ⟨o, ho, hc, hd⟩, _⟩ := st
    have e' : b = e ∨ b = it := by simpa using hb
    rcases e' with z | z
    · rw [z]; exact ⟨_, he, fun v q => nomatch q⟩
    · rw [z]; exact ⟨o, ho, fun v q => by rw [hd] at q; cases q⟩
  keep := fun i h h' st k => let ⟨⟨old, he⟩, hi, hne⟩ := st; ⟨⟨old, k e (by simp) _ he⟩, hi.at fun o q => k it (by simp) o q, hne⟩
  item := by
    intro X hP hw hK hc i pins s σ H E I hf st hg
    subst hP hw hK
    obtain ⟨⟨old, he⟩, hit, hne⟩ := st
    obtain ⟨xs, x, hq, hx⟩ := hg
    obtain ⟨its, rv, p, hz⟩ := I.tuple hq
    obtain ⟨u, hu, ru⟩ := rv.get hx
    have hel : e < s.heap.objs.size := Heap.lt_size he
    have hil : it < s.heap.objs.size := by obtain ⟨_, q, _⟩ := hit; exact Heap.lt_size q
    have hta : a ≠ it := by
      intro hh
      obtain ⟨o, ho, hc1, _⟩ := hit
      obtain ⟨o', ho', hc2, _⟩ := p
      rw [hh, ho] at ho'
      cases ho'
      rw [hc1] at hc2
      exact absurd (congrArg (fun v => match v with | Value.type n => n | _ => "") hc2) (by decide)
    have hte : e ≠ a := by
      intro hh
      obtain ⟨o', ho', hc2, _⟩ := p
      rw [← hh] at ho'
      have he2 : s.heap.get? e = _ := he
      rw [he2] at ho'
      cases ho'
      have hc3 : Value.type "enumerate" = Value.type "tuple" := hc2
      exact absurd (congrArg (fun v => match v with | Value.type n => n | _ => "") hc3) (by decide)
    have D := Draws.tuple (prog := X.prog) (w := X.w) (A := X.A.in1) (I.ok.hd hc) it a hta its.toArray
    have hi : its.toArray[i]? = some u := by simpa using hu
    have hlt : i < its.toArray.size := by
      rcases Nat.lt_or_ge i its.toArray.size with h | h
      · exact h
      · rw [Array.getElem?_eq_none h] at hi; cases hi
    refine wpAny_pyNext_enum_itemD D he ⟨hit, p⟩ hlt hne (by simp [hne, hte]) fun y h' tk hP ho hit' hT hsz hk => ?_
    have hy : y = u := by
      have : its.toArray[i]? = some y := hP
      rw [hi] at this; cases this; rfl
    subst hy
    refine ⟨_, rfl, wpAny_letOwnedTupleGo_enum (s := { s with heap := h', toks := tk + 1 }) ho fun h'' he' sb => ?_⟩
    have hT2 : h''.get? s.heap.objs.size = some { cls := .type "tuple", data := .seq #[.int i tk, y] } := (sb.2 _ (Nat.ne_of_gt hel)).trans hT
    have new : ObjOk X.prog X.w (upd H s.heap.objs.size (.tup [.int (i : Nat), x])) h'' s.heap.objs.size (.tup [.int (i : Nat), x]) :=
      ⟨by show 2 ≤ sizeLine; decide, [.int i tk, y], .cons ⟨_, rfl⟩ (.cons ru .nil), ⟨_, hT2, rfl, _, rfl⟩⟩
    have I1 : Inv X pins σ (upd H s.heap.objs.size (.tup [.int (i : Nat), x])) { s with heap := h'', toks := tk + 1 } :=
      I.turnedNew (ch := [e, it]) (fun b ob hb q => (sb.2 b (fun z => hb (by simp [z]))).trans (hk b ob (fun z => hb (by simp [z])) (fun z => hb (by simp [z])) q)) hf (Nat.le_refl _) new
    refine ⟨.ref s.heap.objs.size, _, I1, rfl, ⟨_, x, rfl, I.hok.fresh (Nat.le_refl _), rfl, fun ys hy => by rw [I.tuple_inj hy hq]; exact hx⟩, ⟨⟨y, ?_⟩, hit'.1.at fun o q => (sb.2 it (Ne.symm hne)).trans q, hne⟩, fun b hb => ?_⟩
    · have e1 : ((i + 1 : Nat) : Int) = (i : Int) + 1 := by omega
      rw [e1]; exact he'
    · have hb' : b < s.heap.objs.size := by
        have e' : b = e ∨ b = it := by simpa using hb
        rcases e' with z | z
        · rw [z]; exact hel
        · rw [z]; exact hil
      rw [upd_ne (Nat.ne_of_lt hb')]
      exact (hf b hb).1
  done := by
    intro X hP hw hK hc i pins s σ H E I hf st hg
    subst hP hw hK
    obtain ⟨⟨old, he⟩, hit, hne⟩ := st
    obtain ⟨xs, hq, hx⟩ := hg
    obtain ⟨its, rv, p, hz⟩ := I.tuple hq
    obtain ⟨f0, f1, f2, f3, f4, f5⟩ := hf it (by simp)
    have hl := rv.length
    exact wpAny_pyNext_enum_endT (I.ok.hd hc) he hit p (by simp; omega) fun h' eb => ⟨rfl, I.turned (t' := s.toks) (fun b o hb q => eb b o hb q) f0 f1 f3 f4 f5⟩
  self := fun A i s Q E st h => let ⟨⟨_, he⟩, _⟩ := st; wpAny_pyIter_enum he h
def iEnumA (K : PySem.W.Frag) (ta : TA) : TI := fun σ H R => ta σ H fun vs H1 => ∃ a xs, vs = [.ref a] ∧ ((SqT K H1 a xs ∧ R (IteT K a) H1) ∨ (SqL K H1 a xs ∧ R (Ite K a) H1))
theorem pi_enumA {X : Cx} {e : Expr} {ta : TA} {p pos tpos : Pos} {elts : List Expr} {kk : Nat} (hg : Gl X "enumerate") (hm : X.mg "enumerate" = none) (ha : PA X [e] ta) (hs : starEach [e] X.env = [(false, eval e X.env)] := by rfl) :
    PI X (.Tuple elts kk tpos) (.Call (.Name "enumerate" p) [e] [] pos) (iEnumA X.K ta) := by
  refine ⟨fun pins s σ H R I h => ?_⟩
  refine Call_ (ld_blt I hg hm boot_enumerate (PyProof.Rows.callWith_type1 (thn (ha.run pos pins s σ H _ I h) fun us s1 ⟨vs, H1, I1, r1, q1⟩ => ?_) hs rfl))
  obtain ⟨a, xs, ex, q⟩ := q1
  subst ex
  cases r1 with
  | cons r rr =>
    cases rr
    cases r
    rcases q with ⟨hq, q⟩ | ⟨hq, q⟩
    · obtain ⟨its, rv, p', hz⟩ := I1.tuple hq
      refine enum_begins1 (begins_tuple a its.toArray) p' fun h' he hit hsz hk => wpAny_pyIter_enum he ?_
      have I2 : Inv X pins σ H1 { s1 with heap := h' } := I1.kept (t' := s1.toks) hk
      refine ⟨s1.heap.objs.size + 1, [s1.heap.objs.size + 1, s1.heap.objs.size], _, _, H1, rfl, I2, turn_enumT a (s1.heap.objs.size + 1) s1.heap.objs.size, ⟨⟨.none, he⟩, ⟨_, hit, rfl, rfl⟩, Nat.succ_ne_self _⟩, fun b hb => ?_, q⟩
      have e' : b = s1.heap.objs.size + 1 ∨ b = s1.heap.objs.size := by simpa using hb
      have hle : s1.heap.objs.size ≤ b := by
        rcases e' with z | z
        · rw [z]; exact Nat.le_add_right _ _
        · rw [z]; exact Nat.le_refl _
      exact I1.fpOk hle (I1.hok.fresh hle)
    · obtain ⟨its, rv, p', hz⟩ := I1.list hq
      refine call_enumerate_list p'.isList fun h' he hit hsz hk => wpAny_pyIter_enum he ?_
      have I2 : Inv X pins σ H1 { s1 with heap := h' } := I1.kept (t' := s1.toks) hk
      refine ⟨s1.heap.objs.size + 1, [s1.heap.objs.size + 1, s1.heap.objs.size], _, _, H1, rfl, I2, turn_enum a (s1.heap.objs.size + 1) s1.heap.objs.size, ⟨⟨.none, he⟩, hit, Nat.succ_ne_self _⟩, fun b hb => ?_, q⟩
      have e' : b = s1.heap.objs.size + 1 ∨ b = s1.heap.objs.size := by simpa using hb
      have hle : s1.heap.objs.size ≤ b := by
        rcases e' with z | z
        · rw [z]; exact Nat.le_add_right _ _
        · rw [z]; exact Nat.le_refl _
      exact I1.fpOk hle (I1.hok.fresh hle)
/-! ### its meaning -/
def enumD (k : Nat) : List D → List D
  | [] => []
  | d :: ds => .tup [.int k, d] :: enumD (k + 1) ds
theorem enumD_len : ∀ (k : Nat) (ds : List D), (enumD k ds).length = ds.length
  | _, [] => rfl
  | k, d :: ds => by rw [enumD, List.length_cons, enumD_len, List.length_cons]
theorem enumD_get : ∀ {k i : Nat} {ds : List D} {d : D}, (enumD k ds)[i]? = some d → ∃ x, ds[i]? = some x ∧ d = .tup [.int ((k + i : Nat) : Int), x]
  | k, i, [], d, h => by simp [enumD] at h
  | k, 0, x :: ds, d, h => by
    simp only [enumD, List.getElem?_cons_zero, Option.some.injEq] at h
    exact ⟨x, rfl, h.symm⟩
  | k, i + 1, x :: ds, d, h => by
    simp only [enumD, List.getElem?_cons_succ] at h
    obtain ⟨y, hy, e⟩ := enumD_get h
    refine ⟨y, by simpa using hy, ?_⟩
    rw [e]
    have : k + 1 + i = k + (i + 1) := by omega
    rw [this]
def iEnumD (g : Ev → Sto → R (List D)) : Ev → Sto → R Src := fun ρ S => (g ρ S).bind fun ds S1 => match ds with
  | [d] => (srcOf d S1).bind fun q S2 => .ok (enumD 0 q.1, q.2) S2
  | _ => .stuck
theorem di_enum {X : Cx} {W : WX} {e : Expr} {g : Ev → Sto → R (List D)} {p pos tpos : Pos} {elts : List Expr} {kk : Nat} (hg : Gl X "enumerate") (hm : X.mg "enumerate" = none) (ha : DA X W [e] g) (hs : starEach [e] X.env = [(false, eval e X.env)] := by rfl) :
    DI X W (.Tuple elts kk tpos) (.Call (.Name "enumerate" p) [e] [] pos) (iEnumD g) := by
  refine PI.imp (pi_enumA hg hm ha hs) fun σ H Rr ⟨ι, ρ, S, hE, hS, q⟩ => ⟨ι, ρ, S, hE, hS, (Post.bind q).mono fun ds S1 ι1 H1 G1 s1 h1 vs rs => ?_⟩
  split at h1
  · rename_i d
    obtain ⟨v, rfl, rv⟩ := RepL.one_inv rs
    cases e : srcOf d S1 with
    | ok q S2 =>
      rw [e] at h1
      obtain ⟨rfl, a, rfl, st, hq⟩ := src_stands e s1 rv
      have h2 := h1.here s1
      rcases st with st | st
      · obtain ⟨us, q1, r1⟩ := st ι1 H1 _ (Grow.refl _ _) s1 hq
        refine ⟨a, us, rfl, .inl ⟨q1, h2 _ fun ι2 H2 S3 G2 s2 g2 => ?_⟩⟩
        obtain ⟨ws, q3, r3⟩ := st ι2 H2 S3 G2 s2 g2
        refine ⟨fun i hi => ⟨ws, q3, by rw [← RepL.length _ _ r3]; rw [enumD_len] at hi; exact hi⟩, fun i d hd => ?_⟩
        obtain ⟨x, hx, rfl⟩ := enumD_get hd
        obtain ⟨vx, hvx, rx⟩ := RepL.get _ _ r3 i x hx
        refine ⟨⟨ws, vx, q3, hvx⟩, fun z H3 hz => ?_⟩
        obtain ⟨T, x', rfl, hT, rfl, hx'⟩ := hz
        have e1 := hx' ws q3
        rw [hvx] at e1
        cases e1
        rw [Nat.zero_add]
        exact ⟨Grow.upd hT, s2.upd hT, rep_tup s2 hT (RepL.cons int_rep (RepL.one rx))⟩
      · obtain ⟨us, q1, r1⟩ := st ι1 H1 _ (Grow.refl _ _) s1 hq
        refine ⟨a, us, rfl, .inr ⟨q1, h2 _ fun ι2 H2 S3 G2 s2 g2 => ?_⟩⟩
        obtain ⟨ws, q3, r3⟩ := st ι2 H2 S3 G2 s2 g2
        refine ⟨fun i hi => ⟨ws, q3, by rw [← RepL.length _ _ r3]; rw [enumD_len] at hi; exact hi⟩, fun i d hd => ?_⟩
        obtain ⟨x, hx, rfl⟩ := enumD_get hd
        obtain ⟨vx, hvx, rx⟩ := RepL.get _ _ r3 i x hx
        refine ⟨⟨ws, vx, q3, hvx⟩, fun z H3 hz => ?_⟩
        obtain ⟨T, x', rfl, hT, rfl, hx'⟩ := hz
        have e1 := hx' ws q3
        rw [hvx] at e1
        cases e1
        rw [Nat.zero_add]
        exact ⟨Grow.upd hT, s2.upd hT, rep_tup s2 hT (RepL.cons int_rep (RepL.one rx))⟩
    | er x S2 => rw [e] at h1; exact absurd e (by unfold srcOf; split <;> first | (intro z; cases z) | (split <;> (intro z; cases z)))
    | stuck => rw [e] at h1; exact h1.elim
  · exact h1.elim
end DL

/-! A tuple against the empty tuple, whatever lies in it. -/
namespace DL
open PySem PySem.Spec L2
open PyProof.Rows hiding St
def rEqZ (K : PySem.W.Frag) (neg : Bool) : R2 := fun x y H Q => ∃ a b xs, x = V.ref a ∧ y = V.ref b ∧ SqT K H a xs ∧ SqT K H b [] ∧ Q (.bl (if neg then !xs.isEmpty else xs.isEmpty)) H
theorem op_eqZ {X : Cx} (hu : X.A.units + 64 < cLine) : OpR X (compareOp .Eq) (rEqZ X.K false) := by
  intro pins s σ H x y v u Q I rx ry h
  obtain ⟨a, b, xs, rfl, rfl, ha, hb, q⟩ := h
  cases (show v = Value.ref a from rx)
  cases (show u = Value.ref b from ry)
  obtain ⟨us, r1, p1, _⟩ := I.tuple ha
  obtain ⟨ws, r2, p2, _⟩ := I.tuple hb
  cases r2
  refine SeqAt.RcAt.tuples (e := fun _ => true) p1 p2 (by omega) (fun j h1 h2 => absurd h2 (by simp)) X.prog X.w _ _ ?_
  have e : ((List.range (min us.toArray.size (#[] : Array Value).size)).all (fun _ => true) && us.toArray.size == (#[] : Array Value).size) = xs.isEmpty := by
    have hl := r1.length
    cases xs with
    | nil => cases us with
      | nil => rfl
      | cons u us => simp at hl
    | cons x xs => cases us with
      | nil => simp at hl
      | cons u us => simp
  exact ⟨.bl xs.isEmpty, H, I, by show Value.bool _ = Value.bool _; rw [← e], q⟩
theorem op_neZ {X : Cx} (hu : X.A.units + 64 < cLine) : OpR X (compareOp .NotEq) (rEqZ X.K true) := by
  intro pins s σ H x y v u Q I rx ry h
  obtain ⟨a, b, xs, rfl, rfl, ha, hb, q⟩ := h
  cases (show v = Value.ref a from rx)
  cases (show u = Value.ref b from ry)
  obtain ⟨us, r1, p1, _⟩ := I.tuple ha
  obtain ⟨ws, r2, p2, _⟩ := I.tuple hb
  cases r2
  refine SeqAt.RcNeAt.tuples (e := fun _ => true) p1 p2 (by omega) (fun j h1 h2 => absurd h2 (by simp)) X.prog X.w _ _ ?_
  have e : ((List.range (min us.toArray.size (#[] : Array Value).size)).all (fun _ => true) && us.toArray.size == (#[] : Array Value).size) = xs.isEmpty := by
    have hl := r1.length
    cases xs with
    | nil => cases us with
      | nil => rfl
      | cons u us => simp at hl
    | cons x xs => cases us with
      | nil => simp at hl
      | cons u us => simp
  exact ⟨.bl (!xs.isEmpty), H, I, by show Value.bool _ = Value.bool _; rw [← e], q⟩
def dEqZ (neg : Bool) (a b : D) (S : Sto) : R D := match a, b with
  | .tup xs, .tup [] => .ok (.bl (if neg then !xs.isEmpty else xs.isEmpty)) S
  | a, b => dEq neg a b S
theorem or_eqZ {X : Cx} (hu : X.A.units + 64 < cLine) : OpR X (compareOp .Eq) (fun x y H Q => rEqZ X.K false x y H Q ∨ (rEq x y H Q ∨ rEqD X.K x y H Q)) := OpR.or (op_eqZ hu) (or_eq hu)
theorem or_neZ {X : Cx} (hu : X.A.units + 64 < cLine) : OpR X (compareOp .NotEq) (fun x y H Q => rEqZ X.K true x y H Q ∨ (rNe x y H Q ∨ rNeD X.K x y H Q)) := OpR.or (op_neZ hu) (or_ne hu)
theorem empty_rep {K : PySem.W.Frag} {ι : List Addr} {H : Hp} {ds : List D} {vs : List V} (r : RepL K ι H ds vs) : vs.isEmpty = ds.isEmpty := by
  have := RepL.length _ _ r
  cases ds <;> cases vs <;> simp_all
theorem k_eqZ {K : PySem.W.Frag} : OpK K (fun x y H Q => rEqZ K false x y H Q ∨ (rEq x y H Q ∨ rEqD K x y H Q)) (dEqZ false) := by
  intro W σ ι H S x y a b Q s rx ry h
  unfold dEqZ at h
  split at h
  · obtain ⟨p, vs, rfl, hp, rp⟩ := tup_at rx
    obtain ⟨q, us, rfl, hq, rq⟩ := tup_at ry
    have hu : us = [] := List.eq_nil_of_length_eq_zero (by rw [← RepL.length _ _ rq]; rfl)
    subst hu
    refine .inl ⟨p, q, vs, rfl, rfl, hp, hq, ?_⟩
    have := h.here s _ bl_rep
    simpa [empty_rep rp] using this
  · exact .inr (k_eqD W σ ι H S x y _ _ Q s rx ry h)
theorem k_neZ {K : PySem.W.Frag} : OpK K (fun x y H Q => rEqZ K true x y H Q ∨ (rNe x y H Q ∨ rNeD K x y H Q)) (dEqZ true) := by
  intro W σ ι H S x y a b Q s rx ry h
  unfold dEqZ at h
  split at h
  · obtain ⟨p, vs, rfl, hp, rp⟩ := tup_at rx
    obtain ⟨q, us, rfl, hq, rq⟩ := tup_at ry
    have hu : us = [] := List.eq_nil_of_length_eq_zero (by rw [← RepL.length _ _ rq]; rfl)
    subst hu
    refine .inl ⟨p, q, vs, rfl, rfl, hp, hq, ?_⟩
    have := h.here s _ bl_rep
    simpa [empty_rep rp] using this
  · exact .inr (k_neD W σ ι H S x y _ _ Q s rx ry h)
end DL

/-! count of a list or of a tuple; index of data in a list. -/
namespace DL
open PySem PySem.Spec L2
open PyProof.Rows hiding St
section
variable {X : Cx}
def rCntL (K : PySem.W.Frag) : V → List V → Hp → VK → Prop := fun x xs H Q => ∃ (a : Addr) (y : V) (d : PyData) (ds : List PyData), x = V.ref a ∧ xs = [y] ∧ Dp K H (V.ref a) (.list ds) ∧ Dp K H y d ∧ SeqAt.shaped (.list ds) = true ∧ SeqAt.shaped d = true ∧ Q (.int (ds.countP fun z => PyData.eqv z d : Nat)) H
theorem mt_cntL (hu : X.A.units + 65 < cLine) : MtR X "list.count" (rCntL X.K) := by
  intro pins s σ H x xs v us Q I rx rxs h
  obtain ⟨a, y, d, ds, rfl, rfl, hl, hy, sl, sd, q⟩ := h
  cases rx
  obtain ⟨uy, rfl, ry⟩ := rxs.one
  obtain ⟨bs, r1⟩ := Dp.reads I d y uy hy ry
  have hroom : X.A.units + 1 + min (PyData.depthAll ds) d.depth < cLine := room_in_shaped sd hu
  cases hl with
  | lst hs ha =>
    obtain ⟨its, rv, p, hlen⟩ := I.list hs
    obtain ⟨as, h4⟩ := Dp.readsAll I ds _ its ha rv
    exact SeqAt.count_list_data (vs := its.toArray) p.isList (show ReadsAll s.heap its.toArray.toList ds as from h4) r1 (PyData.plainAll_of_canLay0 ds (SeqAt.canLay_of_shaped sl)) (PyData.plain_of_canLay0 d (SeqAt.canLay_of_shaped sd)) hroom ⟨.int _, H, I.tok _, ⟨_, rfl⟩, q⟩
end
def mCntL : Mt := fun o ds S => match ds with
  | [d] => (match pyS S o, pyS S d with
    | some (.list ps), some p => if SeqAt.shaped (.list ps) = true ∧ SeqAt.shaped p = true then .ok (.int (ps.countP fun z => PyData.eqv z p : Nat)) S else .stuck
    | _, _ => .stuck)
  | _ => .stuck
theorem k_cntL {K : PySem.W.Frag} : MtK K (rCntL K) mCntL := by
  intro W σ ι H S x vs a ds Q s rx rl h
  unfold mCntL at h
  split at h
  · rename_i d
    obtain ⟨u, rfl, ru⟩ := RepL.one_inv rl
    split at h
    · rename_i ps p e1 e2
      split at h
      · rename_i hl
        have hd := pyS_dp s rx e1 (noDict_shaped hl.1)
        obtain ⟨b, rfl⟩ : ∃ b, x = V.ref b := by cases hd; exact ⟨_, rfl⟩
        exact ⟨b, u, p, ps, rfl, rfl, hd, pyS_dp s ru e2 (noDict_shaped hl.2), hl.1, hl.2, h.here s _ int_rep⟩
      · exact h.elim
    · exact h.elim
  · exact h.elim
/-- the first place of an equal item -/
def mIdxD : Mt := fun o ds S => match ds with
  | [d] => (match pyS S o, pyS S d with
    | some (.list ps), some p => if SeqAt.shaped (.list ps) = true ∧ SeqAt.shaped p = true ∧ ps.findIdx (fun z => PyData.eqv z p) < ps.length then .ok (.int (ps.findIdx fun z => PyData.eqv z p : Nat)) S else .stuck
    | _, _ => .stuck)
  | _ => .stuck
theorem k_idxD {K : PySem.W.Frag} : MtK K (rIndexD K) mIdxD := by
  intro W σ ι H S x vs a ds Q s rx rl h
  unfold mIdxD at h
  split at h
  · rename_i d
    obtain ⟨u, rfl, ru⟩ := RepL.one_inv rl
    split at h
    · rename_i ps p e1 e2
      split at h
      · rename_i hl
        have hd := pyS_dp s rx e1 (noDict_shaped hl.1)
        obtain ⟨b, rfl⟩ : ∃ b, x = V.ref b := by cases hd; exact ⟨_, rfl⟩
        refine ⟨b, u, p, ps, _, _, rfl, rfl, hd, pyS_dp s ru e2 (noDict_shaped hl.2.1), hl.1, hl.2.1, List.getElem?_eq_getElem hl.2.2, List.findIdx_getElem (w := hl.2.2), ?_, h.here s _ int_rep⟩
        intro m z hm hz
        obtain ⟨h1, h2⟩ := List.getElem?_eq_some_iff.mp hz
        have := List.not_of_lt_findIdx hm
        rw [h2] at this
        simpa using this
      · exact h.elim
    · exact h.elim
  · exact h.elim
end DL

/-! try with two except clauses, both with a name. -/
namespace DL
open PySem PySem.Spec L2
open PyProof.Rows hiding St
section
variable {X : Cx} {n1 n2 : Str} {tab : XTab} {cs1 cs2 : List Cn} {i1 i2 : Nat} {body suite1 suite2 : List Stmt} {b1 b2 : Stmt} {te1 te2 : Expr} {pos pos1 pos2 : Pos} {tb : WX → TS} {ts1 ts2 : TS} {Wout : WX}
theorem ps_tryV2 (hs : X.stack = X.env :: X.outer) (hf : X.env.frame = some X.env.locals) (hex : X.ex = []) (hN : X.N.Nodup) (hi1 : X.N[i1]? = some n1) (hln1 : X.env.kindOf n1 = some .local) (hi2 : X.N[i2]? = some n2) (hln2 : X.env.kindOf n2 = some .local) (ht1 : XTest X tab te1 cs1) (ht2 : XTest X tab te2 cs2) (tk : Takes X Wout)
    (hb : ∀ (W : WX) (pn : List (Addr × Obj)) (xe : Value → Shared → Prop), Takes (X.tr pn xe) W → PassesOwn (model X.prog X.w) X.A X.env xe → PSs (X.tr pn xe) body (tb W))
    (hsu1 : ∀ (a : Addr) (pn : List (Addr × Obj)), PSs (X.suite a pn) (b1 :: suite1) ts1) (hsu2 : ∀ (a : Addr) (pn : List (Addr × Obj)), PSs (X.suite a pn) (b2 :: suite2) ts2) :
    PS X (.Try body [.ExceptHandler (some te1) (some n1) (b1 :: suite1) pos1, .ExceptHandler (some te2) (some n2) (b2 :: suite2) pos2] [] [] pos) (fun D σ H => tb (wTry X.K tab cs1 i1 ts1 (wTry X.K tab cs2 i2 ts2 Wout D) D) D σ H) := by
  refine ⟨fun pins s σ H D I h => ?_⟩
  have ok := I.ok
  have hfr : X.A.frames = some (X.env :: X.outer) := by rw [ok.frames, hs]
  refine wpAny_Try_except ?_
  refine wpAny_mono ((hb (wTry X.K tab cs1 i1 ts1 (wTry X.K tab cs2 i2 ts2 Wout D) D) (X.pn ++ pins) (fun e s₁ => wpAny (model X.prog X.w) X.A (noteFrame e X.env) (fun _ s₂ => wpAny (model X.prog X.w) X.A (setFlight e none) (fun _ s₃ =>
    wpAny (model X.prog X.w) X.A (handleBy e X.env [.ExceptHandler (some te1) (some n1) (b1 :: suite1) pos1, .ExceptHandler (some te2) (some n2) (b2 :: suite2) pos2]) (SP X pins D) X.xe s₃) X.xe s₂) X.xe s₁) (fun u s' xx => ?_) PassesOwn.looking).run [] s σ H D (I.toTry _) h) (fun f s1 hsp => ?_) (fun e s1 he => he)
  · obtain ⟨a, B, sI, pins', σ', H', cls, d, rfl, J', nb, up, sky, na, os, ag, hw⟩ := xx
    have J : Inv X pins σ' H' sI := J'.ofTry ok
    have sky' : Sky B (X.env :: X.outer) a (Zc cls d) X.env.locals s'.heap := by rw [← hs]; exact sky
    show wpAny (model X.prog X.w) X.A (noteFrame (.ref a) X.env) _ _ _
    have run : ∀ {n : Str} {cs : List Cn} {i : Nat} {suite : List Stmt} {b₀ : Stmt} {te : Expr} {pos' : Pos} {ts : TS} {Wn : WX} {hnd : List ExceptHandler}, X.N[i]? = some n → X.env.kindOf n = some .local → XTest X tab te cs → (∀ (a : Addr) (pn : List (Addr × Obj)), PSs (X.suite a pn) (b₀ :: suite) ts) →
        wTry X.K tab cs i ts Wn D cls d σ' H' → (Wn cls d σ' H' → ∀ h3', HandSPX.FlyingZ B (X.env :: X.outer) a (Zc cls d) h3' → sI.heap.UpToSlots h3' → wpAny (model X.prog X.w) X.A (handleBy (.ref a) X.env hnd) (SP X pins D) X.xe { s' with heap := h3' }) →
        ∀ h3, HandSPX.FlyingZ B (X.env :: X.outer) a (Zc cls d) h3 → sI.heap.UpToSlots h3 → wpAny (model X.prog X.w) X.A (handleBy (.ref a) X.env (.ExceptHandler (some te) (some n) (b₀ :: suite) pos' :: hnd)) (SP X pins D) X.xe { s' with heap := h3 } := by
      intro n cs i suite b₀ te pos' ts Wn hnd hi hln ht hsu hw cont h3 fl3 up
      have hloc : Loc X.env.scope n := .inl hln
      obtain ⟨c, b, rc, hb1, hyes, hno⟩ := hw
      have J3 : Inv X pins σ' H' { s' with heap := h3 } := J.landed nb fl3.1 up os ag
      obtain ⟨oe3, vs3, he3, hz3, hd3⟩ := fl3.there
      have nfr : a ∉ frs (X.env :: X.outer) := fun hm => by
        obtain ⟨_, o', e', hnf⟩ := fl3.2.2.1.mem hm
        rw [he3] at e'; cases e'
        exact hnf _ hd3
      have nI : sI.heap.get? a = none := by
        cases e : sI.heap.get? a with
        | none => rfl
        | some o =>
          have := nb a o e (by rw [hs]; exact nfr)
          rw [fl3.2.1] at this; cases this
      have n0 : X.s_0.heap.get? a = none := by
        cases e : X.s_0.heap.get? a with
        | none => rfl
        | some o =>
          obtain ⟨o', e'⟩ := J.base.there a o e (by rw [hex]; simp)
          rw [nI] at e'; cases e'
      have np : ∀ p ∈ X.pn ++ pins, p.1 ≠ a := fun p hp z => by
        have := (J.pin p hp).1
        rw [z, nI] at this; cases this
      have nL : a ≠ X.env.locals := fun z => nfr (List.mem_filterMap.mpr ⟨X.env, List.mem_cons_self, by rw [hf, z]⟩)
      have S3 := suite0 J3 a
      refine wpAny_handleBy_cons (codeAny_handlers_test ?_) (by intro q; cases q)
      have LT : PySem.W.Looks (model X.prog X.w) h3 (typeOf (.ref a)) cls := fun A Q E s k q => wpAny_typeOf_ref (k _ _ he3) (by rw [hz3.1]; exact q)
      refine ht a _ _ _ _ _ cls c b _ _ S3 LT rc hb1 fun v h3' k3 LM => LM.here ?_
      have fl3' := flying_keeps fl3 k3
      have up3' : sI.heap.UpToSlots h3' := up.trans fun b o e _ => ⟨o.slots, k3 b o e⟩
      cases b with
      | true =>
        refine codeAny_handlers_suite_as ?_
        refine HandSPX.lands_againZ fl3' fun h4 fl4 up4 => ?_
        have J4 : Inv X pins σ' H' { s' with heap := h4 } := J.landed nb fl4.1 (up3'.trans up4) os ag
        obtain ⟨oe4, vs4, he4, hz4, hd4⟩ := fl4.there
        have J5 : Inv X pins σ' (upd H' a (exv a cls d)) { s' with heap := h4 } := adopt J4 he4 hz4 hd4 na n0 nL np
        have S4 := suite0 J5 a
        refine store_ok (X := X.suite a (X.pn ++ pins)) (v := .ref a) S4 hN hi hloc rfl (fun s5 S5 => ?_) (.inr hln)
        refine wpAny_mono ((hsu a (X.pn ++ pins)).run [] s5 _ _ _ S5 (hyes rfl a na)) (fun f s6 hsp => ?_) (fun _ _ z => False.elim z)
        have end_ : ∀ {σ6 : L2.St} {H6 : Hp} {Q : Shared → Prop}, Inv (X.suite a (X.pn ++ pins)) [] σ6 H6 s6 → (∀ s7, Inv X pins (σ6.set i none) H6 s7 → Q s7) →
            wpAny (model X.prog X.w) X.A (do bindName X.env n .none; unbindBehindTheSuite X.env n pos') (fun _ s7 => Q s7) X.xe s6 := fun {σ6 H6 Q} S6 hq => gone_ok (unsuite0 S6 ok) hN hi hln hq
        cases f with
        | next =>
          obtain ⟨σ6, H6, S6, q6⟩ := hsp
          exact end_ S6 fun s7 J7 => ⟨_, _, J7, q6⟩
        | brk =>
          obtain ⟨σ6, H6, S6, q6⟩ := hsp
          exact end_ S6 fun s7 J7 => ⟨_, _, J7, q6⟩
        | cont =>
          obtain ⟨σ6, H6, S6, q6⟩ := hsp
          exact end_ S6 fun s7 J7 => ⟨_, _, J7, q6⟩
        | ret u =>
          obtain ⟨v6, σ6, H6, S6, r6, q6⟩ := hsp
          exact end_ S6 fun s7 J7 => ⟨_, _, _, J7, r6, q6⟩
      | false => exact cont (hno rfl) h3' fl3' up3'
    refine Sky.land Zc.steady hfr hf sky' fun h3 fl3 up3 => ?_
    refine run hi1 hln1 ht1 hsu1 hw (fun hw2 h4 fl4 up4 => ?_) h3 fl3 (up.trans up3)
    refine run hi2 hln2 ht2 hsu2 hw2 (fun hno h3' fl3' up3' => ?_) h4 fl4 up4
    refine wpAny_handleBy_nil ?_
    obtain ⟨k1, k2, k3', oe, vs, T, oT, ts', he, hz, hd, h1, hr⟩ := id fl3'
    unfold PySem.passOn
    refine wpAny_bind (wpAny_field he hd h1 ?_)
    rw [if_neg (show ¬ ((Value.ref T == Value.none) = true) from by simp)]
    have fin : wpAny (model X.prog X.w) X.A (setFlight (.ref a) X.env.frame) (fun _ s4 => wpAny (model X.prog X.w) X.A (throw (.ref a) : Sem Flow) (SP X pins D) X.xe s4) X.xe { s' with heap := h3' } := by
      rw [hf]
      refine HandSPX.setFlight_upZ fl3' fun h4 hh4 up4 => wpAny_throw (tk _ _ ?_)
      exact ⟨a, B, sI, pins, σ', H', cls, d, rfl, J, nb, up3'.trans up4, .inr (.inr (by rw [hs]; exact hh4)), na, os, ag, hno⟩
    first
      | exact wpAny_bind (wpAny_pure (wpAny_bind fin))
      | exact wpAny_bind fin
  · cases f with
    | next =>
      obtain ⟨σ', H', J', q⟩ := hsp
      exact wpAny_execs_nil ⟨σ', H', J'.ofTry ok, q⟩
    | brk =>
      obtain ⟨σ', H', J', q⟩ := hsp
      exact ⟨σ', H', J'.ofTry ok, q⟩
    | cont =>
      obtain ⟨σ', H', J', q⟩ := hsp
      exact ⟨σ', H', J'.ofTry ok, q⟩
    | ret u =>
      obtain ⟨v, σ', H', J', r, q⟩ := hsp
      exact ⟨v, σ', H', J'.ofTry ok, r, q⟩
end
def sCl (tab : XTab) (cs : List Cn) (i : Nat) (Su : Ev → Sto → SR) (nxt : Ex → Ev → Sto → SR) : Ex → Ev → Sto → SR := fun e ρ1 S1 => match isXs tab e.cls cs with
  | some true => (match Su (ρ1.set i (some (.exc e.cls e.fs))) S1 with
    | .nx ρ2 S2 => .nx (ρ2.set i none) S2
    | .bk ρ2 S2 => .bk (ρ2.set i none) S2
    | .ct ρ2 S2 => .ct (ρ2.set i none) S2
    | .rt d S2 => .rt d S2
    | .er _ _ _ => .stuck
    | .stuck => .stuck)
  | some false => nxt e ρ1 S1
  | none => .stuck
def sEr (e : Ex) (ρ : Ev) (S : Sto) : SR := .er e ρ S
def sTry2 (tab : XTab) (cs1 : List Cn) (i1 : Nat) (cs2 : List Cn) (i2 : Nat) (B Su1 Su2 : Ev → Sto → SR) : Ev → Sto → SR := fun ρ S => match B ρ S with
  | .er e ρ1 S1 => sCl tab cs1 i1 Su1 (sCl tab cs2 i2 Su2 sEr) e ρ1 S1
  | r => r
theorem cl_read {X : Cx} {W Wn : WX} {tab : XTab} {cs : List Cn} {i : Nat} {Su : Ev → Sto → SR} {nxt : Ex → Ev → Sto → SR} {e : Ex} {ρ1 : Ev} {S1 : Sto} {ι ι' : List Addr} {H H' : Hp} {σ' : L2.St} {cls : Value} {dd : Option Addr} {E : Ends} (h : PostS X.K W E ι H (sCl tab cs i Su nxt e ρ1 S1)) (G : Grow ι H ι' H') (s' : Sim X.K ι' H' S1) (e' : RepE X.K ι' H' σ' ρ1) (rx : RepX X.K ι' H' e cls dd)
    (hn : PostS X.K W E ι H (nxt e ρ1 S1) → Wn cls dd σ' H') : wTry X.K tab cs i (rdS X.K W0 Su) Wn E cls dd σ' H' := by
  unfold sCl at h
  cases hx : isXs tab e.cls cs with
  | none => rw [hx] at h; exact h.elim
  | some b =>
    refine ⟨e.cls, b, rx.1, hx, fun hb a na => ?_, fun hb => ?_⟩
    · subst hb
      rw [hx] at h
      have Gu : Grow ι' H' ι' (upd H' a (exv a cls dd)) := Grow.upd na
      have r : RepV X.K ι' (upd H' a (exv a cls dd)) (.exc e.cls e.fs) (.ref a) := by
        rw [RepV]
        refine ⟨a, cls, dd, rfl, s'.free na, upd_same, rx.1, ?_⟩
        rcases rx.2 with r2 | ⟨d, vs, e1, e2, e3, e4⟩
        · exact .inl r2
        · exact .inr ⟨d, vs, e1, e2, by rw [upd_ne (ne_of_none e3 na)]; exact e3, RepF.grow Gu _ _ e4⟩
      refine ⟨ι', _, S1, (e'.grow Gu).set r i, s'.upd na, ?_⟩
      have h := PostS.grow h (G.trans Gu)
      cases hS : Su (ρ1.set i (some (.exc e.cls e.fs))) S1 with
      | nx ρ2 S2 => rw [hS] at h; exact fun ι3 H3 σ3 G3 s3 e3 => h ι3 H3 _ G3 s3 (e3.drop none i)
      | bk ρ2 S2 => rw [hS] at h; exact fun ι3 H3 σ3 G3 s3 e3 => h ι3 H3 _ G3 s3 (e3.drop none i)
      | ct ρ2 S2 => rw [hS] at h; exact fun ι3 H3 σ3 G3 s3 e3 => h ι3 H3 _ G3 s3 (e3.drop none i)
      | rt d S2 => rw [hS] at h; exact h
      | er x ρ2 S2 => rw [hS] at h; exact h.elim
      | stuck => rw [hS] at h; exact h
    · subst hb
      rw [hx] at h
      exact hn h
theorem ds_try2 (i1 i2 : Nat) {X : Cx} {W : WX} {n1 n2 : Str} {tab : XTab} {cs1 cs2 : List Cn} {body suite1 suite2 : List Stmt} {b1 b2 : Stmt} {te1 te2 : Expr} {pos pos1 pos2 : Pos} {B Su1 Su2 : Ev → Sto → SR} (hN : X.N.Nodup) (ht1 : XTest X tab te1 cs1) (ht2 : XTest X tab te2 cs2) (tk : Takes X W)
    (hb : ∀ (W' : WX) (pn : List (Addr × Obj)) (xe : Value → Shared → Prop), Takes (X.tr pn xe) W' → PassesOwn (model X.prog X.w) X.A X.env xe → DSs (X.tr pn xe) W' body B)
    (hsu1 : ∀ (a : Addr) (pn : List (Addr × Obj)), DSs (X.suite a pn) W0 (b1 :: suite1) Su1) (hsu2 : ∀ (a : Addr) (pn : List (Addr × Obj)), DSs (X.suite a pn) W0 (b2 :: suite2) Su2)
    (hs : X.stack = X.env :: X.outer := by rfl) (hf : X.env.frame = some X.env.locals := by rfl) (hex : X.ex = [] := by rfl) (hi1 : X.N[i1]? = some n1 := by rfl) (hln1 : X.env.kindOf n1 = some .local := by rfl) (hi2 : X.N[i2]? = some n2 := by rfl) (hln2 : X.env.kindOf n2 = some .local := by rfl) :
    DS X W (.Try body [.ExceptHandler (some te1) (some n1) (b1 :: suite1) pos1, .ExceptHandler (some te2) (some n2) (b2 :: suite2) pos2] [] [] pos) (sTry2 tab cs1 i1 cs2 i2 B Su1 Su2) := by
  refine PS.imp (ps_tryV2 (tb := fun W' => rdS X.K W' B) (ts1 := rdS X.K W0 Su1) (ts2 := rdS X.K W0 Su2) hs hf hex hN hi1 hln1 hi2 hln2 ht1 ht2 tk hb hsu1 hsu2) fun E σ H ⟨ι, ρ, S, hE, hS, h⟩ => ⟨ι, ρ, S, hE, hS, ?_⟩
  unfold sTry2 at h
  cases hB : B ρ S with
  | nx ρ1 S1 => rw [hB] at h; exact h
  | rt d S1 => rw [hB] at h; exact h
  | bk ρ1 S1 => rw [hB] at h; exact h
  | ct ρ1 S1 => rw [hB] at h; exact h
  | stuck => rw [hB] at h; exact h
  | er e ρ1 S1 =>
    rw [hB] at h
    replace h : PostS X.K W E ι H (sCl tab cs1 i1 Su1 (sCl tab cs2 i2 Su2 sEr) e ρ1 S1) := h
    intro ι' H' σ' cls dd G s' e' rx
    refine cl_read h G s' e' rx fun h2 => ?_
    refine cl_read h2 G s' e' rx fun h3 => ?_
    exact h3 ι' H' σ' cls dd G s' e' rx
end DL

/-! list(range(a, b)). -/
namespace DL
open PySem PySem.Spec L2
open PyProof.Rows hiding St
noncomputable def eListRg2 (mk : List D → Sto → R D) (f g : Ev → Sto → R D) : Ev → Sto → R D := fun ρ S => (f ρ S).bind fun d S1 => (iOf d S1).bind fun lo S2 => (g ρ S2).bind fun d2 S3 => (iOf d2 S3).bind fun hi S4 => ifp (RgOk lo hi) (mk (rangeD lo (hi - lo).toNat) S4) .stuck
theorem de_listRg2 {X : Cx} {W : WX} {mk : List D → Sto → R D} {a b : Expr} {p p2 pos pos2 : Pos} {f g : Ev → Sto → R D} (m : MkOk mk) (hc : X.calm = true) (hm : X.mg "list" = none) (hm2 : X.mg "range" = none) (ha : DE X W a f) (hb : DE X W b g) (hg : Gl X "list" := by rfl) (hg2 : Gl X "range" := by rfl)
    (na : starEach [a, b] X.env = (false, eval a X.env) :: starEach [b] X.env := by rfl) (nb' : starEach [b] X.env = (false, eval b X.env) :: starEach [] X.env := by rfl) (nb : starEach [.Call (.Name "range" p2) [a, b] [] pos2] X.env = (false, eval (.Call (.Name "range" p2) [a, b] [] pos2) X.env) :: starEach [] X.env := by rfl) (hp : (backTo pos2 (starEach [b] X.env)).any (·.1) = false := by rfl) :
    DE X W (.Call (.Name "list" p) [.Call (.Name "range" p2) [a, b] [] pos2] [] pos) (eListRg2 mk f g) := by
  refine PE.imp (pe_listRg hc hg hm (prg_2 hg2 hm2 ha hb na nb' hp) nb) fun σ H Q ⟨ι, ρ, S, hE, hS, h⟩ => ⟨ι, ρ, S, hE, hS, (Post.bind h).mono fun d S1 ι1 H1 G1 s1 h1 v rv => ?_⟩
  cases d with
  | int lo =>
    replace h1 : Post X.K W σ ι1 H1 ((g ρ S1).bind fun d2 S3 => (iOf d2 S3).bind fun hi S4 => ifp (RgOk lo hi) (mk (rangeD lo (hi - lo).toNat) S4) .stuck) fun d _ ι' H' => ∀ v, RepV X.K ι' H' d v → Q v H' := h1
    refine ⟨ι1, ρ, S1, hE.grow G1, s1, (Post.bind h1).mono fun d2 S2 ι2 H2 G2 s2 h2 v2 rv2 => ?_⟩
    cases d2 with
    | int hi =>
      replace h2 : Post X.K W σ ι2 H2 (ifp (RgOk lo hi) (mk (rangeD lo (hi - lo).toNat) S2) .stuck) fun d _ ι' H' => ∀ v, RepV X.K ι' H' d v → Q v H' := h2
      unfold ifp at h2
      split at h2
      · rename_i hr
        exact ⟨lo, hi, int_at rv, int_at rv2, hr, fun q hq => m _ _ _ _ _ _ _ _ _ h2 s2 (rgV_rep lo hi) q hq⟩
      · exact h2.elim
    | _ => exact (show False from h2).elim
  | _ => exact (show False from h1).elim
end DL

/-! A dict against a whole number. -/
namespace DL
open PySem PySem.Spec L2
open PyProof.Rows hiding St
theorem int_ne_declines_dict (b : Int) (u : Tok) (l : Addr) (c : Value) (es : Array DictEntry) (ep : Nat) (dd : Option Addr) (sl : Array (Option Value)) :
    Meets (Builtin.«int.__ne__» ⟨[.int b u, .ref l], []⟩) (fun _ R s => s.heap.get? l = some { cls := c, dict := dd, data := .dict es ep, slots := sl } ∧ R (.ok (.ret .notImplemented)) s) :=
  .of_wp fun prog w A R s h => by obtain ⟨hp, g, d, tk, os⟩ := s; obtain ⟨hl, h⟩ := h; wp_walk using wpAny_loadPart' hl, wpAny_load hl; exact ⟨_, rfl, h⟩
theorem dict_ne_int {prog : Program} {w : World} {A : Around} {E : Value → Shared → Prop} {s : Shared} {l : Addr} {o : Obj} {es : Array DictEntry} {ep : Nat} {b : Int} {u : Tok} {Q : Value → Shared → Prop} (ho : s.heap.get? l = some o) (hx : o.ExactDict) (hd : o.data = .dict es ep) (hu : A.units < cLine)
    (h : Q (.bool true) s) : wpAny (model prog w) A (compareOp .NotEq (.ref l) (.int b u)) Q E s := by
  have ty : s.TypeIs (.ref l) "dict" := ⟨o, ho, hx.1⟩
  refine SeqAt.rc_ne_decline_or (k := false) (Ta := "dict") (Tb := "int") ty (typeIs_int s b u) (by decide) PySem.F.sub_int_dict PySem.F.slot_dict_ne PySem.F.slot_int_ne_refl ?_ ?_ (fun _ hq => wpAny_of_eq (rfl : isSame (.ref l) (.int b u) = pure false) hq) (.inr hu) h
  · intro Q' hq
    refine wpAny_call_entry PySem.F.slot_dict_ne ty PySem.F.entry_dict_ne ?_ (PySem.F.args_dict_ne_2 _ _)
    show wpAny _ _ (Builtin.Dict.dictSlotArgs "__ne__" ⟨[.ref l, .int b u], []⟩ >>= _) _ _ s
    refine wpAny_bind ?_
    unfold Builtin.Dict.dictSlotArgs
    refine wpAny_bind (wpAny_notOrdered_dict ty ?_)
    show wpAny _ _ (pure (Value.ref l, Value.int b u)) _ _ s
    refine wpAny_pure ?_
    refine wpAny_bind (wpAny_isInstance (T := "int") (typeIs_int s b u) PySem.F.sub_int_dict ?_)
    simp only [Bool.not_false, if_true]
    refine wpAny_bind (wpAny_rule ?_)
    exact wpAny_pure ⟨_, rfl, hq⟩
  · intro Q' hq
    obtain ⟨c, dd, dt, sl⟩ := o
    simp only at hd
    subst hd
    exact call_meets PySem.F.slot_int_ne_refl (typeIs_int s b u) PySem.F.entry_int_ne (PySem.F.args_int_ne_2 _ _) (int_ne_declines_dict b u l c es ep dd sl) ⟨ho, hq⟩
def rNeDI : R2 := fun x y H Q => ∃ a ks i, x = V.ref a ∧ H a = some (.dK ks) ∧ y = .int i ∧ Q (.bl true) H
theorem op_neDI {X : Cx} (hu : X.A.units + 64 < cLine) : OpR X (compareOp .NotEq) rNeDI := by
  intro pins s σ H x y v u Q I rx ry h
  obtain ⟨a, ks, i, rfl, ha, rfl, q⟩ := h
  cases (show v = Value.ref a from rx)
  obtain ⟨t, rfl⟩ := ry
  obtain ⟨_, _, vs, _, o, es, ep, ho, hx, hd, _⟩ := (show ObjOk X.prog X.w H s.heap a (.dK ks) from I.hok a _ ha)
  exact dict_ne_int ho hx hd (by omega) ⟨.bl true, H, I, rfl, q⟩
def dNeV (a b : D) (S : Sto) : R D := match a, b with
  | .fd _, .int _ => .ok (.bl true) S
  | a, b => dEq true a b S
theorem or_neV {X : Cx} (hu : X.A.units + 64 < cLine) : OpR X (compareOp .NotEq) (fun x y H Q => rNeDI x y H Q ∨ (rNe x y H Q ∨ rNeD X.K x y H Q)) := OpR.or (op_neDI hu) (or_ne hu)
theorem k_neV {K : PySem.W.Frag} : OpK K (fun x y H Q => rNeDI x y H Q ∨ (rNe x y H Q ∨ rNeD K x y H Q)) dNeV := by
  intro W σ ι H S x y a b Q s rx ry h
  unfold dNeV at h
  split at h
  · rename_i kvs i
    rw [RepV] at rx
    obtain ⟨p, ks, rfl, _, hp, _⟩ := rx
    exact .inl ⟨p, ks, i, rfl, hp, int_at ry, h.here s _ bl_rep⟩
  · exact .inr (k_neD W σ ι H S x y a b Q s rx ry h)
end DL

/-! a, b = a list or a tuple; a = b = e. -/
namespace DL
open PySem PySem.Spec L2
open PyProof.Rows hiding St
section
variable {X : Cx} {W : WX} {pos : Pos} {e : Expr}
theorem PG.or {tg : Expr} {t u : TG} (h : PG X tg t) (h' : PG X tg u) : PG X tg (fun v σ H Q => t v σ H Q ∨ u v σ H Q) := ⟨fun pins s σ H v w Q I r q => by
  rcases q with q | q
  · exact h.run pins s σ H v w Q I r q
  · exact h'.run pins s σ H v w Q I r q⟩
theorem seqOf_fl (ds : List D) (S : Sto) : seqOf S (.fl ds) = some ds := rfl
theorem seqOf_tup (ds : List D) (S : Sto) : seqOf S (.tup ds) = some ds := rfl
theorem seqOf_ti (l : List Int) (S : Sto) : seqOf S (ti l) = some (l.map D.int) := rfl
def tSq (n : Nat) (U : Tgs) : Tg := fun d ρ S => match seqOf S d with
  | some ds => if ds.length = n then U ds ρ S else none
  | _ => none
theorem dg_sq {es : List Expr} {k : Nat} {U : Tgs} {n : Nat} (hc : X.calm = true) (h : DGs X es U) (hn : (assignEach es X.env).length = n := by rfl) (hst : (assignEach es X.env).findIdx? (·.1) = none := by rfl) : DG X (.Tuple es k pos) (tSq n U) :=
  PG.imp (PG.or (pg_tup hc h hn hst) (pg_unl hc h hn hst)) fun v σ H Q ⟨ι, ρ, S, d, ρ', S', hE, hS, r, e, h⟩ => by
    unfold tSq at e
    cases hq : seqOf S d with
    | none => rw [hq] at e; cases e
    | some ds =>
      rw [hq] at e
      simp only at e
      by_cases hl : ds.length = n
      · rw [if_pos hl] at e
        obtain ⟨p, vs, rfl, q, rl⟩ := seq_at hS r hq
        rcases q with q | q
        · exact .inr ⟨p, vs, rfl, q, by rw [← RepL.length _ _ rl]; exact hl, ι, ρ, S, ds, ρ', S', hE, hS, rl, e, h⟩
        · exact .inl ⟨p, vs, rfl, q, by rw [← RepL.length _ _ rl]; exact hl, ι, ρ, S, ds, ρ', S', hE, hS, rl, e, h⟩
      · rw [if_neg hl] at e; cases e
/-- two names -/
def sSet2 (i j : Nat) (f : Ev → Sto → R D) : Ev → Sto → SR := fun ρ S => (f ρ S).toS ρ fun d S1 => .nx ((ρ.set i (some d)).set j (some d)) S1
theorem ds_set2 (i j : Nat) {x y : Str} {px py : Pos} {f : Ev → Sto → R D} (hN : X.N.Nodup) (he : DE X W e f) (hi : X.N[i]? = some x := by rfl) (hj : X.N[j]? = some y := by rfl) (hx : Loc X.env.scope x := by first | exact .inl rfl | exact .inr rfl) (hy : Loc X.env.scope y := by first | exact .inl rfl | exact .inr rfl)
    (hf : X.fn x = true ∨ X.env.scope.names.lookup x = some .local := by first | exact .inl rfl | exact .inr rfl | assumption) (hf2 : X.fn y = true ∨ X.env.scope.names.lookup y = some .local := by first | exact .inl rfl | exact .inr rfl | assumption)
    (ha : (assignEach [.Name x px, .Name y py] X.env).map (·.2) = [assign (.Name x px) X.env, assign (.Name y py) X.env] := by rfl) (hw : swappedStores [.Name x px, .Name y py] e X.env = pure none := by rfl) : DS X W (.Assign [.Name x px, .Name y py] e pos) (sSet2 i j f) := by
  refine PS.imp (ps_asg2 he (pg_name hN hi hx hf) (pg_name hN hj hy hf2) ha hw) fun E σ H ⟨ι, ρ, S, hE, hS, h⟩ => ?_
  refine ⟨ι, ρ, S, hE, hS, (PostS.bind h hE).mono fun d S1 ι1 H1 G1 s1 h1 v rv => ?_⟩
  exact h1 ι1 H1 _ (Grow.refl _ _) s1 (((hE.grow G1).set rv i).set rv j)
end
end DL

/-! What the functions about rings answer, whatever the place is. -/
namespace DL
open PySem PySem.Spec L2
open PyProof.Rows hiding St
noncomputable def B__law_odd : Ev → Sto → SR :=
  (sSeq (sSet 1 (eFl (aCons (eC .non) (aCons (eC (.bl true)) (aCons (eC (.bl false)) (aCons (eNeg (eC (.int 1))) (aCons (eC (.int 0)) (aCons (eC (.int 1)) (aCons (eC (.int 2)) (aCons (eC (.int 5)) (aCons (eC (.int 6)) (aCons (eC (.int 24)) (aCons (eOp dPow (eC (.int 10)) (eC (.int 29))) (aCons (eC (.str "")) (aCons (eC (.str "0")) (aCons (eTup aNil) (aCons (eFl aNil) (aCons eDict0 (aCons (eTup (aCons (eC (.int 0)) aNil)) (aCons (eFl (aCons (eC (.int 0)) aNil)) (aCons (eTup (aCons (eC (.bl true)) aNil)) (aCons (eTup (aCons (eTup aNil) aNil)) (aCons (eC (.str "a")) aNil)))))))))))))))))))))))
    (sRet (eOp dIx (eOp dAdd (eVar 1) (eFl (aCons (eTup (aCons (eC (.int 0)) (aCons (eC (.int 2)) aNil))) (aCons (eC (.fd [((Sum.inr "a"), .int 1)])) (aCons (eTup (aCons (eC (.int 0)) (aCons (eC (.int 0)) (aCons (eC (.int 2)) aNil)))) aNil))))) (eCall F__law_draw (aCons (eVar 0) (aCons (eC (.int 24)) aNil))))))
noncomputable def F__law_odd : Fn := fnC close 2 1 B__law_odd

noncomputable def B__law_is_place : Ev → Sto → SR :=
  (sRet (eAndV (eCall bIsi (aCons (eVar 1) (aCons (eC (.ty "int")) aNil))) (eAndV (eNotV (eCall bIsi (aCons (eVar 1) (aCons (eC (.ty "bool")) aNil)))) (eChain dLe dLt (eC (.int 0)) (eVar 1) (eCall bLen (aCons (eVar 0) aNil))))))
noncomputable def F__law_is_place : Fn := fnC close 2 2 B__law_is_place

noncomputable def B_check_place : Ev → Sto → SR :=
  (sIf (eNot (eT (eCall F_is_integer (aCons (eVar 1) (aCons (eC (.int 0)) (aCons (eOp dSub (eCall bLen (aCons (eVar 0) aNil)) (eC (.int 1))) aNil)))))) (sRaise1 "NoPlace" "value" (aCons (eVar 1) aNil)) sNil)
noncomputable def F_check_place : Fn := fnC close 2 2 B_check_place

noncomputable def B_turned : Ev → Sto → SR :=
  (sSeq (sExp (eCall F_check_place (aCons (eVar 0) (aCons (eVar 1) aNil))))
    (sRet (eTup (aStar (eSl mkFl (eVar 0) (oSome (eVar 1)) oNone) (aStar (eSl mkFl (eVar 0) oNone (oSome (eVar 1))) aNil)))))
noncomputable def F_turned : Fn := fnC close 2 2 B_turned

noncomputable def B_need : Ev → Sto → SR :=
  (sRet (eCall F_need_of (aCons (eCall F_turned (aCons (eVar 0) (aCons (eVar 1) aNil))) aNil)))
noncomputable def F_need : Fn := fnC close 2 2 B_need

noncomputable def E1_beginnings (ρ : Ev) (S : Sto) : R D :=
  (eVar 1) ρ S
noncomputable def Q1_beginnings (ρ : Ev) (S : Sto) : R Bool :=
  (eT (eOp (dEq false) (eCall F_need (aCons (eVar 0) (aCons (eVar 1) aNil))) (eC (.int 0)))) ρ S
noncomputable def B_beginnings : Ev → Sto → SR :=
  (sRet (eCall bTuple (aCons (eLc finFl (iRange1 (aCons (eCall bLen (aCons (eVar 0) aNil)) aNil)) (tN 1) [1] Q1_beginnings E1_beginnings) aNil)))
noncomputable def F_beginnings : Fn := fnC close 2 1 B_beginnings

noncomputable def B_count_beginnings : Ev → Sto → SR :=
  (sRet (eCall bMax (aCons (eC (.int 0)) (aCons (eCall F_balance (aCons (eVar 0) aNil)) aNil))))
noncomputable def F_count_beginnings : Fn := fnC close 1 1 B_count_beginnings

noncomputable def B_heights : Ev → Sto → SR :=
  (sRet (eCall F_heights_of (aCons (eCall F_turned (aCons (eVar 0) (aCons (eVar 1) aNil))) aNil)))
noncomputable def F_heights : Fn := fnC close 2 2 B_heights

noncomputable def B_effect_of : Ev → Sto → SR :=
  (sSeq (sSet 1 (eCall F_need_of (aCons (eVar 0) aNil)))
    (sRet (eTup (aCons (eVar 1) (aCons (eOp dAdd (eVar 1) (eCall F_balance (aCons (eVar 0) aNil))) aNil)))))
noncomputable def F_effect_of : Fn := fnC close 2 1 B_effect_of

theorem srcOf_tup (ds : List D) (S : Sto) : srcOf (.tup ds) S = .ok (ds, yes) S := rfl
theorem srcOf_fl (ds : List D) (S : Sto) : srcOf (.fl ds) S = .ok (ds, yes) S := rfl
theorem srcOf_kl (ds : List D) (S : Sto) : srcOf (.kl ds) S = .ok (ds, yes) S := rfl
theorem srcOf_ti (l : List Int) (S : Sto) : srcOf (ti l) S = .ok (l.map D.int, yes) S := rfl
/-! ### loops -/
theorem forD_pure {T : Tg} {B Z : Ev → Sto → SR} {S : Sto} (I : Ev → Prop) : ∀ (ds : List D) (ρ : Ev), I ρ → (∀ d ∈ ds, ∀ ρ, I ρ → ∃ ρ1 ρ2, T d ρ S = some (ρ1, S) ∧ (B ρ1 S = .nx ρ2 S ∨ B ρ1 S = .ct ρ2 S) ∧ I ρ2) →
    ∃ ρ', I ρ' ∧ forD yes T B Z ds ρ S = Z ρ' S
  | [], ρ, h, _ => ⟨ρ, h, forD_nil trivial⟩
  | d :: ds, ρ, h, step => by
    obtain ⟨ρ1, ρ2, hT, hB, h2⟩ := step d List.mem_cons_self ρ h
    obtain ⟨ρ', h3, e⟩ := forD_pure I ds ρ2 h2 fun d' hd => step d' (List.mem_cons_of_mem _ hd)
    refine ⟨ρ', h3, ?_⟩
    rw [forD, if_pos (show yes S from trivial), hT]
    rcases hB with hB | hB <;> (simp only [hB]; exact e)
theorem forD_strm {T : Tg} {B Z : Ev → Sto → SR} {rest : Sto} (I : Ev → Prop) (cost : Nat) : ∀ (ds : List D) (ρ : Ev) (S : Sto) (n : Nat), I ρ → Strm S n rest → n + ds.length * cost < 2 ^ 60 →
    (∀ d ∈ ds, ∀ ρ S n, I ρ → Strm S n rest → n + cost < 2 ^ 60 → ∃ ρ1 ρ2 S2, T d ρ S = some (ρ1, S) ∧ (B ρ1 S = .nx ρ2 S2 ∨ B ρ1 S = .ct ρ2 S2) ∧ I ρ2 ∧ Strm S2 (n + cost) rest) →
    ∃ ρ' S', I ρ' ∧ Strm S' (n + ds.length * cost) rest ∧ forD yes T B Z ds ρ S = Z ρ' S'
  | [], ρ, S, n, h, hs, _, _ => ⟨ρ, S, h, by simpa using hs, forD_nil trivial⟩
  | d :: ds, ρ, S, n, h, hs, hn, step => by
    have e1 : n + (d :: ds).length * cost = n + cost + ds.length * cost := by simp [Nat.add_mul]; omega
    rw [e1] at hn ⊢
    obtain ⟨ρ1, ρ2, S2, hT, hB, h2, s2⟩ := step d List.mem_cons_self ρ S n h hs (by omega)
    obtain ⟨ρ', S', h3, s3, e⟩ := forD_strm I cost ds ρ2 S2 (n + cost) h2 s2 hn fun d' hd => step d' (List.mem_cons_of_mem _ hd)
    refine ⟨ρ', S', h3, s3, ?_⟩
    rw [forD, if_pos (show yes S from trivial), hT]
    rcases hB with hB | hB <;> (simp only [hB]; exact e)
/-! ### errors leave a def -/
theorem fnC_er {n m : Nat} {B : Ev → Sto → SR} {ds : List D} {S S' : Sto} {ρ : Ev} {e : Ex} (hm : ds.length = m) (h : B (startD n ds) S = .er e ρ S') (hc : S'.length = S.length) : fnC close n m B ds S = .er e S' := by
  unfold fnC
  rw [if_pos hm, h]
  show closeE S e S' = _
  unfold closeE
  rw [if_pos hc]
theorem fnC_nx {n m : Nat} {B : Ev → Sto → SR} {ds : List D} {S S' : Sto} {ρ : Ev} (hm : ds.length = m) (h : B (startD n ds) S = .nx ρ S') (hc : S'.length = S.length) : fnC close n m B ds S = .ok .non S' := by
  unfold fnC
  rw [if_pos hm, h]
  exact close_same hc
/-! ### plain values, and whether they are whole numbers -/
def pl : D → Bool
  | .non => true
  | .bl _ => true
  | .int _ => true
  | .str _ => true
  | .tup _ => true
  | .fl _ => true
  | .fd _ => true
  | _ => false
def isI (v : D) (lo hi : Int) : Bool := match v with
  | .int i => decide (lo ≤ i ∧ i ≤ hi)
  | _ => false
theorem kt1 : kitB "NoneType" "int" = some false := by decide +kernel
theorem kt2 : kitB "bool" "int" = some true := by decide +kernel
theorem kt3 : kitB "int" "int" = some true := by decide +kernel
theorem kt4 : kitB "str" "int" = some false := by decide +kernel
theorem kt5 : kitB "tuple" "int" = some false := by decide +kernel
theorem kt6 : kitB "list" "int" = some false := by decide +kernel
theorem kt7 : kitB "dict" "int" = some false := by decide +kernel
theorem ku2 : kitB "bool" "bool" = some true := by decide +kernel
theorem ku3 : kitB "int" "bool" = some false := by decide +kernel
theorem kv1 : kitB "NoneType" "tuple" = some false := by decide +kernel
theorem kv2 : kitB "bool" "tuple" = some false := by decide +kernel
theorem kv3 : kitB "int" "tuple" = some false := by decide +kernel
theorem kv4 : kitB "str" "tuple" = some false := by decide +kernel
theorem kv5 : kitB "tuple" "tuple" = some true := by decide +kernel
theorem kv6 : kitB "list" "tuple" = some false := by decide +kernel
theorem kv7 : kitB "dict" "tuple" = some false := by decide +kernel
def isInt0 : D → Bool
  | .int _ => true
  | .bl _ => true
  | _ => false
def isBl : D → Bool
  | .bl _ => true
  | _ => false
def isTup : D → Bool
  | .tup _ => true
  | _ => false
theorem isi_int {v : D} (h : pl v = true) (S : Sto) : bIsi [v, .ty "int"] S = .ok (.bl (isInt0 v)) S := by
  cases v <;> first | (simp [pl] at h; done) | (simp only [bIsi, tyOf, kt1, kt2, kt3, kt4, kt5, kt6, kt7, isInt0])
theorem isi_bool {v : D} (h : isInt0 v = true) (S : Sto) : bIsi [v, .ty "bool"] S = .ok (.bl (isBl v)) S := by
  cases v <;> first | (simp [isInt0] at h; done) | (simp only [bIsi, tyOf, ku2, ku3, isBl])
theorem isi_tup {v : D} (h : pl v = true) (S : Sto) : bIsi [v, .ty "tuple"] S = .ok (.bl (isTup v)) S := by
  cases v <;> first | (simp [pl] at h; done) | (simp only [bIsi, tyOf, kv1, kv2, kv3, kv4, kv5, kv6, kv7, isTup])
theorem dLe_i (i j : Int) (S : Sto) : dLe (.int i) (.int j) S = .ok (.bl (decide (i ≤ j))) S := rfl
theorem is_int_any {v : D} (h : pl v = true) (lo hi : Int) (S : Sto) : F_is_integer [v, .int lo, .int hi] S = .ok (.bl (isI v lo hi)) S := by
  refine fnC_rt rfl ?_ rfl
  unfold B_is_integer
  cases v with
  | int i =>
    have h1 := isi_int (v := .int i) rfl S
    have h2 := isi_bool (v := .int i) rfl S
    by_cases h3 : lo ≤ i
    · by_cases h4 : i ≤ hi
      · simp only [eVar, eC, eOp, eT, eAnd, eOr, eNot, eIf, eAndV, eOrV, eNotV, eCall, aNil, aCons, aStar, sOf, eTup, eFl, eLoc, eSl, oNone, oSome, iOf, eNeg, eChain, eMt, bOf, eDict0, eRev, eListRg, iZipD, sRaise1, sRaise0, eCallV, List.lookup, R.bind_ok, R.bind_er, R.bind_stuck, R.toS_ok, R.toS_er, R.toS_stuck, SR.next_nx, SR.next_rt, SR.next_er, SR.next_bk, SR.next_ct, SR.next_stuck, sNil, sSeq, sBrk, sCnt, sExp, sRet, sRetN, sIf, sSet, sAsg, sAug, sPar2, sPar3, tN, DL.tTup, DL.tNil, DL.tCons, DL.tSub, iSeq, srcOf, iRange1, iRange2, sFor, startD, List.map_cons, List.map_nil, List.length_cons, List.length_nil, List.replicate, List.cons_append, List.nil_append, List.getElem?_cons_zero, List.getElem?_cons_succ, List.set_cons_zero, List.set_cons_succ, dSub_int, dFdiv_int, dMod_int, dLt_int, dLe_int, dGt_int, dGe_int, dAddI_int, dSubI_int, dIsN_non, isN, dAdd_int, ll0, ll1, ll2, ll3, ll4, ll5, ll6, ll7, ll8, ll9, ll10, ll11, ll12, ll13, ll14, ll15, ll16, ll17, ll18, ll19, ll20, ll21, ll22, ll23, ll24, ll25, ll26, ll27, ll28, ll29, ll30, ll31, ll32, ll33, ll34, ll35, ll36, ll37, ll38, ll39, ll40, Nat.reduceSub, Nat.reduceAdd, Nat.reduceEqDiff, if_true, if_false, ifp_t, ifp_f, reduceIte, Bool.true_eq_false, Bool.false_eq_true, Option.map_some, Option.map_none, Option.bind_some, Option.bind_none, h1, h2, isInt0, isBl, h3, h4, decide_true, Bool.not_false, isI, and_self]
      · simp only [eVar, eC, eOp, eT, eAnd, eOr, eNot, eIf, eAndV, eOrV, eNotV, eCall, aNil, aCons, aStar, sOf, eTup, eFl, eLoc, eSl, oNone, oSome, iOf, eNeg, eChain, eMt, bOf, eDict0, eRev, eListRg, iZipD, sRaise1, sRaise0, eCallV, List.lookup, R.bind_ok, R.bind_er, R.bind_stuck, R.toS_ok, R.toS_er, R.toS_stuck, SR.next_nx, SR.next_rt, SR.next_er, SR.next_bk, SR.next_ct, SR.next_stuck, sNil, sSeq, sBrk, sCnt, sExp, sRet, sRetN, sIf, sSet, sAsg, sAug, sPar2, sPar3, tN, DL.tTup, DL.tNil, DL.tCons, DL.tSub, iSeq, srcOf, iRange1, iRange2, sFor, startD, List.map_cons, List.map_nil, List.length_cons, List.length_nil, List.replicate, List.cons_append, List.nil_append, List.getElem?_cons_zero, List.getElem?_cons_succ, List.set_cons_zero, List.set_cons_succ, dSub_int, dFdiv_int, dMod_int, dLt_int, dLe_int, dGt_int, dGe_int, dAddI_int, dSubI_int, dIsN_non, isN, dAdd_int, ll0, ll1, ll2, ll3, ll4, ll5, ll6, ll7, ll8, ll9, ll10, ll11, ll12, ll13, ll14, ll15, ll16, ll17, ll18, ll19, ll20, ll21, ll22, ll23, ll24, ll25, ll26, ll27, ll28, ll29, ll30, ll31, ll32, ll33, ll34, ll35, ll36, ll37, ll38, ll39, ll40, Nat.reduceSub, Nat.reduceAdd, Nat.reduceEqDiff, if_true, if_false, ifp_t, ifp_f, reduceIte, Bool.true_eq_false, Bool.false_eq_true, Option.map_some, Option.map_none, Option.bind_some, Option.bind_none, h1, h2, isInt0, isBl, h3, h4, decide_true, decide_false, Bool.not_false, isI, and_false]
    · simp only [eVar, eC, eOp, eT, eAnd, eOr, eNot, eIf, eAndV, eOrV, eNotV, eCall, aNil, aCons, aStar, sOf, eTup, eFl, eLoc, eSl, oNone, oSome, iOf, eNeg, eChain, eMt, bOf, eDict0, eRev, eListRg, iZipD, sRaise1, sRaise0, eCallV, List.lookup, R.bind_ok, R.bind_er, R.bind_stuck, R.toS_ok, R.toS_er, R.toS_stuck, SR.next_nx, SR.next_rt, SR.next_er, SR.next_bk, SR.next_ct, SR.next_stuck, sNil, sSeq, sBrk, sCnt, sExp, sRet, sRetN, sIf, sSet, sAsg, sAug, sPar2, sPar3, tN, DL.tTup, DL.tNil, DL.tCons, DL.tSub, iSeq, srcOf, iRange1, iRange2, sFor, startD, List.map_cons, List.map_nil, List.length_cons, List.length_nil, List.replicate, List.cons_append, List.nil_append, List.getElem?_cons_zero, List.getElem?_cons_succ, List.set_cons_zero, List.set_cons_succ, dSub_int, dFdiv_int, dMod_int, dLt_int, dLe_int, dGt_int, dGe_int, dAddI_int, dSubI_int, dIsN_non, isN, dAdd_int, ll0, ll1, ll2, ll3, ll4, ll5, ll6, ll7, ll8, ll9, ll10, ll11, ll12, ll13, ll14, ll15, ll16, ll17, ll18, ll19, ll20, ll21, ll22, ll23, ll24, ll25, ll26, ll27, ll28, ll29, ll30, ll31, ll32, ll33, ll34, ll35, ll36, ll37, ll38, ll39, ll40, Nat.reduceSub, Nat.reduceAdd, Nat.reduceEqDiff, if_true, if_false, ifp_t, ifp_f, reduceIte, Bool.true_eq_false, Bool.false_eq_true, Option.map_some, Option.map_none, Option.bind_some, Option.bind_none, h1, h2, isInt0, isBl, h3, decide_false, Bool.not_false, isI, false_and]
  | bl b =>
    have h1 := isi_int (v := .bl b) rfl S
    have h2 := isi_bool (v := .bl b) rfl S
    simp only [eVar, eC, eOp, eT, eAnd, eOr, eNot, eIf, eAndV, eOrV, eNotV, eCall, aNil, aCons, aStar, sOf, eTup, eFl, eLoc, eSl, oNone, oSome, iOf, eNeg, eChain, eMt, bOf, eDict0, eRev, eListRg, iZipD, sRaise1, sRaise0, eCallV, List.lookup, R.bind_ok, R.bind_er, R.bind_stuck, R.toS_ok, R.toS_er, R.toS_stuck, SR.next_nx, SR.next_rt, SR.next_er, SR.next_bk, SR.next_ct, SR.next_stuck, sNil, sSeq, sBrk, sCnt, sExp, sRet, sRetN, sIf, sSet, sAsg, sAug, sPar2, sPar3, tN, DL.tTup, DL.tNil, DL.tCons, DL.tSub, iSeq, srcOf, iRange1, iRange2, sFor, startD, List.map_cons, List.map_nil, List.length_cons, List.length_nil, List.replicate, List.cons_append, List.nil_append, List.getElem?_cons_zero, List.getElem?_cons_succ, List.set_cons_zero, List.set_cons_succ, dSub_int, dFdiv_int, dMod_int, dLt_int, dLe_int, dGt_int, dGe_int, dAddI_int, dSubI_int, dIsN_non, isN, dAdd_int, ll0, ll1, ll2, ll3, ll4, ll5, ll6, ll7, ll8, ll9, ll10, ll11, ll12, ll13, ll14, ll15, ll16, ll17, ll18, ll19, ll20, ll21, ll22, ll23, ll24, ll25, ll26, ll27, ll28, ll29, ll30, ll31, ll32, ll33, ll34, ll35, ll36, ll37, ll38, ll39, ll40, Nat.reduceSub, Nat.reduceAdd, Nat.reduceEqDiff, if_true, if_false, ifp_t, ifp_f, reduceIte, Bool.true_eq_false, Bool.false_eq_true, Option.map_some, Option.map_none, Option.bind_some, Option.bind_none, h1, h2, isInt0, isBl, Bool.not_true, isI]
  | non => simp only [eVar, eC, eOp, eT, eAnd, eOr, eNot, eIf, eAndV, eOrV, eNotV, eCall, aNil, aCons, aStar, sOf, eTup, eFl, eLoc, eSl, oNone, oSome, iOf, eNeg, eChain, eMt, bOf, eDict0, eRev, eListRg, iZipD, sRaise1, sRaise0, eCallV, List.lookup, R.bind_ok, R.bind_er, R.bind_stuck, R.toS_ok, R.toS_er, R.toS_stuck, SR.next_nx, SR.next_rt, SR.next_er, SR.next_bk, SR.next_ct, SR.next_stuck, sNil, sSeq, sBrk, sCnt, sExp, sRet, sRetN, sIf, sSet, sAsg, sAug, sPar2, sPar3, tN, DL.tTup, DL.tNil, DL.tCons, DL.tSub, iSeq, srcOf, iRange1, iRange2, sFor, startD, List.map_cons, List.map_nil, List.length_cons, List.length_nil, List.replicate, List.cons_append, List.nil_append, List.getElem?_cons_zero, List.getElem?_cons_succ, List.set_cons_zero, List.set_cons_succ, dSub_int, dFdiv_int, dMod_int, dLt_int, dLe_int, dGt_int, dGe_int, dAddI_int, dSubI_int, dIsN_non, isN, dAdd_int, ll0, ll1, ll2, ll3, ll4, ll5, ll6, ll7, ll8, ll9, ll10, ll11, ll12, ll13, ll14, ll15, ll16, ll17, ll18, ll19, ll20, ll21, ll22, ll23, ll24, ll25, ll26, ll27, ll28, ll29, ll30, ll31, ll32, ll33, ll34, ll35, ll36, ll37, ll38, ll39, ll40, Nat.reduceSub, Nat.reduceAdd, Nat.reduceEqDiff, if_true, if_false, ifp_t, ifp_f, reduceIte, Bool.true_eq_false, Bool.false_eq_true, Option.map_some, Option.map_none, Option.bind_some, Option.bind_none, isi_int (v := .non) rfl, isInt0, isI]
  | str x => simp only [eVar, eC, eOp, eT, eAnd, eOr, eNot, eIf, eAndV, eOrV, eNotV, eCall, aNil, aCons, aStar, sOf, eTup, eFl, eLoc, eSl, oNone, oSome, iOf, eNeg, eChain, eMt, bOf, eDict0, eRev, eListRg, iZipD, sRaise1, sRaise0, eCallV, List.lookup, R.bind_ok, R.bind_er, R.bind_stuck, R.toS_ok, R.toS_er, R.toS_stuck, SR.next_nx, SR.next_rt, SR.next_er, SR.next_bk, SR.next_ct, SR.next_stuck, sNil, sSeq, sBrk, sCnt, sExp, sRet, sRetN, sIf, sSet, sAsg, sAug, sPar2, sPar3, tN, DL.tTup, DL.tNil, DL.tCons, DL.tSub, iSeq, srcOf, iRange1, iRange2, sFor, startD, List.map_cons, List.map_nil, List.length_cons, List.length_nil, List.replicate, List.cons_append, List.nil_append, List.getElem?_cons_zero, List.getElem?_cons_succ, List.set_cons_zero, List.set_cons_succ, dSub_int, dFdiv_int, dMod_int, dLt_int, dLe_int, dGt_int, dGe_int, dAddI_int, dSubI_int, dIsN_non, isN, dAdd_int, ll0, ll1, ll2, ll3, ll4, ll5, ll6, ll7, ll8, ll9, ll10, ll11, ll12, ll13, ll14, ll15, ll16, ll17, ll18, ll19, ll20, ll21, ll22, ll23, ll24, ll25, ll26, ll27, ll28, ll29, ll30, ll31, ll32, ll33, ll34, ll35, ll36, ll37, ll38, ll39, ll40, Nat.reduceSub, Nat.reduceAdd, Nat.reduceEqDiff, if_true, if_false, ifp_t, ifp_f, reduceIte, Bool.true_eq_false, Bool.false_eq_true, Option.map_some, Option.map_none, Option.bind_some, Option.bind_none, isi_int (v := .str x) rfl, isInt0, isI]
  | tup x => simp only [eVar, eC, eOp, eT, eAnd, eOr, eNot, eIf, eAndV, eOrV, eNotV, eCall, aNil, aCons, aStar, sOf, eTup, eFl, eLoc, eSl, oNone, oSome, iOf, eNeg, eChain, eMt, bOf, eDict0, eRev, eListRg, iZipD, sRaise1, sRaise0, eCallV, List.lookup, R.bind_ok, R.bind_er, R.bind_stuck, R.toS_ok, R.toS_er, R.toS_stuck, SR.next_nx, SR.next_rt, SR.next_er, SR.next_bk, SR.next_ct, SR.next_stuck, sNil, sSeq, sBrk, sCnt, sExp, sRet, sRetN, sIf, sSet, sAsg, sAug, sPar2, sPar3, tN, DL.tTup, DL.tNil, DL.tCons, DL.tSub, iSeq, srcOf, iRange1, iRange2, sFor, startD, List.map_cons, List.map_nil, List.length_cons, List.length_nil, List.replicate, List.cons_append, List.nil_append, List.getElem?_cons_zero, List.getElem?_cons_succ, List.set_cons_zero, List.set_cons_succ, dSub_int, dFdiv_int, dMod_int, dLt_int, dLe_int, dGt_int, dGe_int, dAddI_int, dSubI_int, dIsN_non, isN, dAdd_int, ll0, ll1, ll2, ll3, ll4, ll5, ll6, ll7, ll8, ll9, ll10, ll11, ll12, ll13, ll14, ll15, ll16, ll17, ll18, ll19, ll20, ll21, ll22, ll23, ll24, ll25, ll26, ll27, ll28, ll29, ll30, ll31, ll32, ll33, ll34, ll35, ll36, ll37, ll38, ll39, ll40, Nat.reduceSub, Nat.reduceAdd, Nat.reduceEqDiff, if_true, if_false, ifp_t, ifp_f, reduceIte, Bool.true_eq_false, Bool.false_eq_true, Option.map_some, Option.map_none, Option.bind_some, Option.bind_none, isi_int (v := .tup x) rfl, isInt0, isI]
  | fl x => simp only [eVar, eC, eOp, eT, eAnd, eOr, eNot, eIf, eAndV, eOrV, eNotV, eCall, aNil, aCons, aStar, sOf, eTup, eFl, eLoc, eSl, oNone, oSome, iOf, eNeg, eChain, eMt, bOf, eDict0, eRev, eListRg, iZipD, sRaise1, sRaise0, eCallV, List.lookup, R.bind_ok, R.bind_er, R.bind_stuck, R.toS_ok, R.toS_er, R.toS_stuck, SR.next_nx, SR.next_rt, SR.next_er, SR.next_bk, SR.next_ct, SR.next_stuck, sNil, sSeq, sBrk, sCnt, sExp, sRet, sRetN, sIf, sSet, sAsg, sAug, sPar2, sPar3, tN, DL.tTup, DL.tNil, DL.tCons, DL.tSub, iSeq, srcOf, iRange1, iRange2, sFor, startD, List.map_cons, List.map_nil, List.length_cons, List.length_nil, List.replicate, List.cons_append, List.nil_append, List.getElem?_cons_zero, List.getElem?_cons_succ, List.set_cons_zero, List.set_cons_succ, dSub_int, dFdiv_int, dMod_int, dLt_int, dLe_int, dGt_int, dGe_int, dAddI_int, dSubI_int, dIsN_non, isN, dAdd_int, ll0, ll1, ll2, ll3, ll4, ll5, ll6, ll7, ll8, ll9, ll10, ll11, ll12, ll13, ll14, ll15, ll16, ll17, ll18, ll19, ll20, ll21, ll22, ll23, ll24, ll25, ll26, ll27, ll28, ll29, ll30, ll31, ll32, ll33, ll34, ll35, ll36, ll37, ll38, ll39, ll40, Nat.reduceSub, Nat.reduceAdd, Nat.reduceEqDiff, if_true, if_false, ifp_t, ifp_f, reduceIte, Bool.true_eq_false, Bool.false_eq_true, Option.map_some, Option.map_none, Option.bind_some, Option.bind_none, isi_int (v := .fl x) rfl, isInt0, isI]
  | fd x => simp only [eVar, eC, eOp, eT, eAnd, eOr, eNot, eIf, eAndV, eOrV, eNotV, eCall, aNil, aCons, aStar, sOf, eTup, eFl, eLoc, eSl, oNone, oSome, iOf, eNeg, eChain, eMt, bOf, eDict0, eRev, eListRg, iZipD, sRaise1, sRaise0, eCallV, List.lookup, R.bind_ok, R.bind_er, R.bind_stuck, R.toS_ok, R.toS_er, R.toS_stuck, SR.next_nx, SR.next_rt, SR.next_er, SR.next_bk, SR.next_ct, SR.next_stuck, sNil, sSeq, sBrk, sCnt, sExp, sRet, sRetN, sIf, sSet, sAsg, sAug, sPar2, sPar3, tN, DL.tTup, DL.tNil, DL.tCons, DL.tSub, iSeq, srcOf, iRange1, iRange2, sFor, startD, List.map_cons, List.map_nil, List.length_cons, List.length_nil, List.replicate, List.cons_append, List.nil_append, List.getElem?_cons_zero, List.getElem?_cons_succ, List.set_cons_zero, List.set_cons_succ, dSub_int, dFdiv_int, dMod_int, dLt_int, dLe_int, dGt_int, dGe_int, dAddI_int, dSubI_int, dIsN_non, isN, dAdd_int, ll0, ll1, ll2, ll3, ll4, ll5, ll6, ll7, ll8, ll9, ll10, ll11, ll12, ll13, ll14, ll15, ll16, ll17, ll18, ll19, ll20, ll21, ll22, ll23, ll24, ll25, ll26, ll27, ll28, ll29, ll30, ll31, ll32, ll33, ll34, ll35, ll36, ll37, ll38, ll39, ll40, Nat.reduceSub, Nat.reduceAdd, Nat.reduceEqDiff, if_true, if_false, ifp_t, ifp_f, reduceIte, Bool.true_eq_false, Bool.false_eq_true, Option.map_some, Option.map_none, Option.bind_some, Option.bind_none, isi_int (v := .fd x) rfl, isInt0, isI]
  | _ => simp [pl] at h
/-- the place that a value is -/
def plc (n : Nat) (v : D) : Option Nat := match v with
  | .int i => if 0 ≤ i ∧ i < n then some i.toNat else none
  | _ => none
def noPlace (v : D) : Ex := ⟨.own "NoPlace", [("value", v)]⟩
theorem plc_int {n p : Nat} (h : p < n) : plc n (.int p) = some p := by
  show (if 0 ≤ (p : Int) ∧ (p : Int) < n then some (p : Int).toNat else none) = some p
  rw [if_pos (by omega)]
  simp
theorem plc_some {n : Nat} {v : D} {p : Nat} (h : plc n v = some p) : v = .int p ∧ p < n := by
  cases v with
  | int i =>
    simp only [plc] at h
    split at h
    · rename_i hh
      cases h
      refine ⟨?_, by omega⟩
      congr 1
      omega
    · cases h
  | _ => cases h
theorem isI_plc (n : Nat) (v : D) : isI v 0 ((n : Int) - 1) = (plc n v).isSome := by
  cases v with
  | int i =>
    simp only [isI, plc]
    by_cases h : 0 ≤ i ∧ i < n
    · rw [if_pos h, decide_eq_true (by omega)]; rfl
    · rw [if_neg h, decide_eq_false (by omega)]; rfl
  | _ => rfl
theorem check_any (l : List Int) {v : D} (h : pl v = true) (S : Sto) : F_check_place [ti l, v] S = (match plc l.length v with
    | some _ => .ok .non S
    | none => .er (noPlace v) S) := by
  have hi := is_int_any h 0 ((l.length : Int) - 1) S
  rw [isI_plc] at hi
  cases e : plc l.length v with
  | some p =>
    rw [e] at hi
    refine fnC_nx rfl (ρ := [some (ti l), some v]) ?_ rfl
    unfold B_check_place
    simp only [eVar, eC, eOp, eT, eAnd, eOr, eNot, eIf, eAndV, eOrV, eNotV, eCall, aNil, aCons, aStar, sOf, eTup, eFl, eLoc, eSl, oNone, oSome, iOf, eNeg, eChain, eMt, bOf, eDict0, eRev, eListRg, iZipD, sRaise1, sRaise0, eCallV, List.lookup, R.bind_ok, R.bind_er, R.bind_stuck, R.toS_ok, R.toS_er, R.toS_stuck, SR.next_nx, SR.next_rt, SR.next_er, SR.next_bk, SR.next_ct, SR.next_stuck, sNil, sSeq, sBrk, sCnt, sExp, sRet, sRetN, sIf, sSet, sAsg, sAug, sPar2, sPar3, tN, DL.tTup, DL.tNil, DL.tCons, DL.tSub, iSeq, srcOf, iRange1, iRange2, sFor, startD, List.map_cons, List.map_nil, List.length_cons, List.length_nil, List.replicate, List.cons_append, List.nil_append, List.getElem?_cons_zero, List.getElem?_cons_succ, List.set_cons_zero, List.set_cons_succ, dSub_int, dFdiv_int, dMod_int, dLt_int, dLe_int, dGt_int, dGe_int, dAddI_int, dSubI_int, dIsN_non, isN, dAdd_int, ll0, ll1, ll2, ll3, ll4, ll5, ll6, ll7, ll8, ll9, ll10, ll11, ll12, ll13, ll14, ll15, ll16, ll17, ll18, ll19, ll20, ll21, ll22, ll23, ll24, ll25, ll26, ll27, ll28, ll29, ll30, ll31, ll32, ll33, ll34, ll35, ll36, ll37, ll38, ll39, ll40, Nat.reduceSub, Nat.reduceAdd, Nat.reduceEqDiff, if_true, if_false, ifp_t, ifp_f, reduceIte, Bool.true_eq_false, Bool.false_eq_true, Option.map_some, Option.map_none, Option.bind_some, Option.bind_none, ti_len, hi, Option.isSome_some, Bool.not_true]
  | none =>
    rw [e] at hi
    refine fnC_er rfl (ρ := [some (ti l), some v]) ?_ rfl
    unfold B_check_place
    simp only [eVar, eC, eOp, eT, eAnd, eOr, eNot, eIf, eAndV, eOrV, eNotV, eCall, aNil, aCons, aStar, sOf, eTup, eFl, eLoc, eSl, oNone, oSome, iOf, eNeg, eChain, eMt, bOf, eDict0, eRev, eListRg, iZipD, sRaise1, sRaise0, eCallV, List.lookup, R.bind_ok, R.bind_er, R.bind_stuck, R.toS_ok, R.toS_er, R.toS_stuck, SR.next_nx, SR.next_rt, SR.next_er, SR.next_bk, SR.next_ct, SR.next_stuck, sNil, sSeq, sBrk, sCnt, sExp, sRet, sRetN, sIf, sSet, sAsg, sAug, sPar2, sPar3, tN, DL.tTup, DL.tNil, DL.tCons, DL.tSub, iSeq, srcOf, iRange1, iRange2, sFor, startD, List.map_cons, List.map_nil, List.length_cons, List.length_nil, List.replicate, List.cons_append, List.nil_append, List.getElem?_cons_zero, List.getElem?_cons_succ, List.set_cons_zero, List.set_cons_succ, dSub_int, dFdiv_int, dMod_int, dLt_int, dLe_int, dGt_int, dGe_int, dAddI_int, dSubI_int, dIsN_non, isN, dAdd_int, ll0, ll1, ll2, ll3, ll4, ll5, ll6, ll7, ll8, ll9, ll10, ll11, ll12, ll13, ll14, ll15, ll16, ll17, ll18, ll19, ll20, ll21, ll22, ll23, ll24, ll25, ll26, ll27, ll28, ll29, ll30, ll31, ll32, ll33, ll34, ll35, ll36, ll37, ll38, ll39, ll40, Nat.reduceSub, Nat.reduceAdd, Nat.reduceEqDiff, if_true, if_false, ifp_t, ifp_f, reduceIte, Bool.true_eq_false, Bool.false_eq_true, Option.map_some, Option.map_none, Option.bind_some, Option.bind_none, ti_len, hi, Option.isSome_none, Bool.not_false]
    rfl
theorem turned_any (l : List Int) {v : D} (h : pl v = true) (hl : l.length < 10 ^ 6) (S : Sto) : F_turned [ti l, v] S = (match plc l.length v with
    | some p => .ok (ti (rot l p)) S
    | none => .er (noPlace v) S) := by
  have hc := check_any l h S
  cases e : plc l.length v with
  | some p =>
    rw [e] at hc
    obtain ⟨rfl, hp⟩ := plc_some e
    refine fnC_rt rfl ?_ rfl
    unfold B_turned
    have so : ∀ (l : List Int) S, seqOf S (ti l) = some (l.map D.int) := fun l S => rfl
    have hlen : ((l.drop p).map D.int ++ (l.take p).map D.int).length ≤ sizeLine := by
      rw [List.length_append, List.length_map, List.length_map, List.length_drop, List.length_take]
      exact Nat.le_trans (show l.length - p + min p l.length ≤ 10 ^ 6 by omega) (by decide)
    simp only [eVar, eC, eOp, eT, eAnd, eOr, eNot, eIf, eAndV, eOrV, eNotV, eCall, aNil, aCons, aStar, sOf, eTup, eFl, eLoc, eSl, oNone, oSome, iOf, eNeg, eChain, eMt, bOf, eDict0, eRev, eListRg, iZipD, sRaise1, sRaise0, eCallV, List.lookup, R.bind_ok, R.bind_er, R.bind_stuck, R.toS_ok, R.toS_er, R.toS_stuck, SR.next_nx, SR.next_rt, SR.next_er, SR.next_bk, SR.next_ct, SR.next_stuck, sNil, sSeq, sBrk, sCnt, sExp, sRet, sRetN, sIf, sSet, sAsg, sAug, sPar2, sPar3, tN, DL.tTup, DL.tNil, DL.tCons, DL.tSub, iSeq, srcOf, iRange1, iRange2, sFor, startD, List.map_cons, List.map_nil, List.length_cons, List.length_nil, List.replicate, List.cons_append, List.nil_append, List.getElem?_cons_zero, List.getElem?_cons_succ, List.set_cons_zero, List.set_cons_succ, dSub_int, dFdiv_int, dMod_int, dLt_int, dLe_int, dGt_int, dGe_int, dAddI_int, dSubI_int, dIsN_non, isN, dAdd_int, ll0, ll1, ll2, ll3, ll4, ll5, ll6, ll7, ll8, ll9, ll10, ll11, ll12, ll13, ll14, ll15, ll16, ll17, ll18, ll19, ll20, ll21, ll22, ll23, ll24, ll25, ll26, ll27, ll28, ll29, ll30, ll31, ll32, ll33, ll34, ll35, ll36, ll37, ll38, ll39, ll40, Nat.reduceSub, Nat.reduceAdd, Nat.reduceEqDiff, if_true, if_false, ifp_t, ifp_f, reduceIte, Bool.true_eq_false, Bool.false_eq_true, Option.map_some, Option.map_none, Option.bind_some, Option.bind_none, hc, sl_from, sl_to, so, List.append_nil]
    rw [ifp_pos hlen, R.toS_ok, ← List.map_append]
    rfl
  | none =>
    rw [e] at hc
    refine fnC_er rfl (ρ := [some (ti l), some v]) ?_ rfl
    unfold B_turned
    simp only [eVar, eC, eOp, eT, eAnd, eOr, eNot, eIf, eAndV, eOrV, eNotV, eCall, aNil, aCons, aStar, sOf, eTup, eFl, eLoc, eSl, oNone, oSome, iOf, eNeg, eChain, eMt, bOf, eDict0, eRev, eListRg, iZipD, sRaise1, sRaise0, eCallV, List.lookup, R.bind_ok, R.bind_er, R.bind_stuck, R.toS_ok, R.toS_er, R.toS_stuck, SR.next_nx, SR.next_rt, SR.next_er, SR.next_bk, SR.next_ct, SR.next_stuck, sNil, sSeq, sBrk, sCnt, sExp, sRet, sRetN, sIf, sSet, sAsg, sAug, sPar2, sPar3, tN, DL.tTup, DL.tNil, DL.tCons, DL.tSub, iSeq, srcOf, iRange1, iRange2, sFor, startD, List.map_cons, List.map_nil, List.length_cons, List.length_nil, List.replicate, List.cons_append, List.nil_append, List.getElem?_cons_zero, List.getElem?_cons_succ, List.set_cons_zero, List.set_cons_succ, dSub_int, dFdiv_int, dMod_int, dLt_int, dLe_int, dGt_int, dGe_int, dAddI_int, dSubI_int, dIsN_non, isN, dAdd_int, ll0, ll1, ll2, ll3, ll4, ll5, ll6, ll7, ll8, ll9, ll10, ll11, ll12, ll13, ll14, ll15, ll16, ll17, ll18, ll19, ll20, ll21, ll22, ll23, ll24, ll25, ll26, ll27, ll28, ll29, ll30, ll31, ll32, ll33, ll34, ll35, ll36, ll37, ll38, ll39, ll40, Nat.reduceSub, Nat.reduceAdd, Nat.reduceEqDiff, if_true, if_false, ifp_t, ifp_f, reduceIte, Bool.true_eq_false, Bool.false_eq_true, Option.map_some, Option.map_none, Option.bind_some, Option.bind_none, hc]
theorem turned_ok (l : List Int) (p : Nat) (hp : p < l.length) (hl : l.length < 10 ^ 6) (S : Sto) : F_turned [ti l, .int p] S = .ok (ti (rot l p)) S := by
  have := turned_any l (v := .int p) rfl hl S
  rw [plc_int hp] at this
  exact this
theorem heights_any (l : List Int) {v : D} (h : pl v = true) (hl : l.length < 10 ^ 6) (S : Sto) : F_heights [ti l, v] S = (match plc l.length v with
    | some p => .ok (ti (hts 0 (rot l p))) S
    | none => .er (noPlace v) S) := by
  have hc := turned_any l h hl S
  cases e : plc l.length v with
  | some p =>
    rw [e] at hc
    obtain ⟨rfl, hp⟩ := plc_some e
    refine fnC_rt rfl ?_ rfl
    unfold B_heights
    simp only [eVar, eC, eOp, eT, eAnd, eOr, eNot, eIf, eAndV, eOrV, eNotV, eCall, aNil, aCons, aStar, sOf, eTup, eFl, eLoc, eSl, oNone, oSome, iOf, eNeg, eChain, eMt, bOf, eDict0, eRev, eListRg, iZipD, sRaise1, sRaise0, eCallV, List.lookup, R.bind_ok, R.bind_er, R.bind_stuck, R.toS_ok, R.toS_er, R.toS_stuck, SR.next_nx, SR.next_rt, SR.next_er, SR.next_bk, SR.next_ct, SR.next_stuck, sNil, sSeq, sBrk, sCnt, sExp, sRet, sRetN, sIf, sSet, sAsg, sAug, sPar2, sPar3, tN, DL.tTup, DL.tNil, DL.tCons, DL.tSub, iSeq, srcOf, iRange1, iRange2, sFor, startD, List.map_cons, List.map_nil, List.length_cons, List.length_nil, List.replicate, List.cons_append, List.nil_append, List.getElem?_cons_zero, List.getElem?_cons_succ, List.set_cons_zero, List.set_cons_succ, dSub_int, dFdiv_int, dMod_int, dLt_int, dLe_int, dGt_int, dGe_int, dAddI_int, dSubI_int, dIsN_non, isN, dAdd_int, ll0, ll1, ll2, ll3, ll4, ll5, ll6, ll7, ll8, ll9, ll10, ll11, ll12, ll13, ll14, ll15, ll16, ll17, ll18, ll19, ll20, ll21, ll22, ll23, ll24, ll25, ll26, ll27, ll28, ll29, ll30, ll31, ll32, ll33, ll34, ll35, ll36, ll37, ll38, ll39, ll40, Nat.reduceSub, Nat.reduceAdd, Nat.reduceEqDiff, if_true, if_false, ifp_t, ifp_f, reduceIte, Bool.true_eq_false, Bool.false_eq_true, Option.map_some, Option.map_none, Option.bind_some, Option.bind_none, hc, heights_ok (rot l p) (by rw [DL.rot_length l p (by omega)]; exact Nat.le_trans (Nat.le_of_lt hl) (by decide))]
  | none =>
    rw [e] at hc
    refine fnC_er rfl (ρ := [some (ti l), some v]) ?_ rfl
    unfold B_heights
    simp only [eVar, eC, eOp, eT, eAnd, eOr, eNot, eIf, eAndV, eOrV, eNotV, eCall, aNil, aCons, aStar, sOf, eTup, eFl, eLoc, eSl, oNone, oSome, iOf, eNeg, eChain, eMt, bOf, eDict0, eRev, eListRg, iZipD, sRaise1, sRaise0, eCallV, List.lookup, R.bind_ok, R.bind_er, R.bind_stuck, R.toS_ok, R.toS_er, R.toS_stuck, SR.next_nx, SR.next_rt, SR.next_er, SR.next_bk, SR.next_ct, SR.next_stuck, sNil, sSeq, sBrk, sCnt, sExp, sRet, sRetN, sIf, sSet, sAsg, sAug, sPar2, sPar3, tN, DL.tTup, DL.tNil, DL.tCons, DL.tSub, iSeq, srcOf, iRange1, iRange2, sFor, startD, List.map_cons, List.map_nil, List.length_cons, List.length_nil, List.replicate, List.cons_append, List.nil_append, List.getElem?_cons_zero, List.getElem?_cons_succ, List.set_cons_zero, List.set_cons_succ, dSub_int, dFdiv_int, dMod_int, dLt_int, dLe_int, dGt_int, dGe_int, dAddI_int, dSubI_int, dIsN_non, isN, dAdd_int, ll0, ll1, ll2, ll3, ll4, ll5, ll6, ll7, ll8, ll9, ll10, ll11, ll12, ll13, ll14, ll15, ll16, ll17, ll18, ll19, ll20, ll21, ll22, ll23, ll24, ll25, ll26, ll27, ll28, ll29, ll30, ll31, ll32, ll33, ll34, ll35, ll36, ll37, ll38, ll39, ll40, Nat.reduceSub, Nat.reduceAdd, Nat.reduceEqDiff, if_true, if_false, ifp_t, ifp_f, reduceIte, Bool.true_eq_false, Bool.false_eq_true, Option.map_some, Option.map_none, Option.bind_some, Option.bind_none, hc]
theorem need_any (l : List Int) {v : D} (h : pl v = true) (hl : l.length < 10 ^ 6) (S : Sto) : F_need [ti l, v] S = (match plc l.length v with
    | some p => .ok (.int (ne (rot l p))) S
    | none => .er (noPlace v) S) := by
  have hc := turned_any l h hl S
  cases e : plc l.length v with
  | some p =>
    rw [e] at hc
    obtain ⟨rfl, hp⟩ := plc_some e
    refine fnC_rt rfl ?_ rfl
    unfold B_need
    simp only [eVar, eC, eOp, eT, eAnd, eOr, eNot, eIf, eAndV, eOrV, eNotV, eCall, aNil, aCons, aStar, sOf, eTup, eFl, eLoc, eSl, oNone, oSome, iOf, eNeg, eChain, eMt, bOf, eDict0, eRev, eListRg, iZipD, sRaise1, sRaise0, eCallV, List.lookup, R.bind_ok, R.bind_er, R.bind_stuck, R.toS_ok, R.toS_er, R.toS_stuck, SR.next_nx, SR.next_rt, SR.next_er, SR.next_bk, SR.next_ct, SR.next_stuck, sNil, sSeq, sBrk, sCnt, sExp, sRet, sRetN, sIf, sSet, sAsg, sAug, sPar2, sPar3, tN, DL.tTup, DL.tNil, DL.tCons, DL.tSub, iSeq, srcOf, iRange1, iRange2, sFor, startD, List.map_cons, List.map_nil, List.length_cons, List.length_nil, List.replicate, List.cons_append, List.nil_append, List.getElem?_cons_zero, List.getElem?_cons_succ, List.set_cons_zero, List.set_cons_succ, dSub_int, dFdiv_int, dMod_int, dLt_int, dLe_int, dGt_int, dGe_int, dAddI_int, dSubI_int, dIsN_non, isN, dAdd_int, ll0, ll1, ll2, ll3, ll4, ll5, ll6, ll7, ll8, ll9, ll10, ll11, ll12, ll13, ll14, ll15, ll16, ll17, ll18, ll19, ll20, ll21, ll22, ll23, ll24, ll25, ll26, ll27, ll28, ll29, ll30, ll31, ll32, ll33, ll34, ll35, ll36, ll37, ll38, ll39, ll40, Nat.reduceSub, Nat.reduceAdd, Nat.reduceEqDiff, if_true, if_false, ifp_t, ifp_f, reduceIte, Bool.true_eq_false, Bool.false_eq_true, Option.map_some, Option.map_none, Option.bind_some, Option.bind_none, hc, need_of_ok (rot l p) (by rw [DL.rot_length l p (by omega)]; exact hl)]
  | none =>
    rw [e] at hc
    refine fnC_er rfl (ρ := [some (ti l), some v]) ?_ rfl
    unfold B_need
    simp only [eVar, eC, eOp, eT, eAnd, eOr, eNot, eIf, eAndV, eOrV, eNotV, eCall, aNil, aCons, aStar, sOf, eTup, eFl, eLoc, eSl, oNone, oSome, iOf, eNeg, eChain, eMt, bOf, eDict0, eRev, eListRg, iZipD, sRaise1, sRaise0, eCallV, List.lookup, R.bind_ok, R.bind_er, R.bind_stuck, R.toS_ok, R.toS_er, R.toS_stuck, SR.next_nx, SR.next_rt, SR.next_er, SR.next_bk, SR.next_ct, SR.next_stuck, sNil, sSeq, sBrk, sCnt, sExp, sRet, sRetN, sIf, sSet, sAsg, sAug, sPar2, sPar3, tN, DL.tTup, DL.tNil, DL.tCons, DL.tSub, iSeq, srcOf, iRange1, iRange2, sFor, startD, List.map_cons, List.map_nil, List.length_cons, List.length_nil, List.replicate, List.cons_append, List.nil_append, List.getElem?_cons_zero, List.getElem?_cons_succ, List.set_cons_zero, List.set_cons_succ, dSub_int, dFdiv_int, dMod_int, dLt_int, dLe_int, dGt_int, dGe_int, dAddI_int, dSubI_int, dIsN_non, isN, dAdd_int, ll0, ll1, ll2, ll3, ll4, ll5, ll6, ll7, ll8, ll9, ll10, ll11, ll12, ll13, ll14, ll15, ll16, ll17, ll18, ll19, ll20, ll21, ll22, ll23, ll24, ll25, ll26, ll27, ll28, ll29, ll30, ll31, ll32, ll33, ll34, ll35, ll36, ll37, ll38, ll39, ll40, Nat.reduceSub, Nat.reduceAdd, Nat.reduceEqDiff, if_true, if_false, ifp_t, ifp_f, reduceIte, Bool.true_eq_false, Bool.false_eq_true, Option.map_some, Option.map_none, Option.bind_some, Option.bind_none, hc]
theorem need_ok (l : List Int) (p : Nat) (hp : p < l.length) (hl : l.length < 10 ^ 6) (S : Sto) : F_need [ti l, .int p] S = .ok (.int (ne (rot l p))) S := by
  have := need_any l (v := .int p) rfl hl S
  rw [plc_int hp] at this
  exact this
theorem heightsP_ok (l : List Int) (p : Nat) (hp : p < l.length) (hl : l.length < 10 ^ 6) (S : Sto) : F_heights [ti l, .int p] S = .ok (ti (hts 0 (rot l p))) S := by
  have := heights_any l (v := .int p) rfl hl S
  rw [plc_int hp] at this
  exact this
theorem beginnings_ok (l : List Int) (hl : l.length < 10 ^ 6) (S : Sto) : F_beginnings [ti l] S = .ok (.tup (ni (begs l))) S := by
  refine fnC_rt rfl ?_ rfl
  unfold B_beginnings
  have key := eLc_keep (src := iRange1 (aCons (eCall bLen (aCons (eVar 0) aNil)) aNil)) (T := tN 1) (vs := [1]) (c := Q1_beginnings) (f := E1_beginnings) (ρ := [some (ti l), none]) (S := S) l.length (fun d => [some (ti l), some d]) (fun p => decide (ne (rot l p) = 0)) ?_ ?_ hl
  · have hst : startD 2 [ti l] = [some (ti l), none] := rfl
    rw [hst]
    simp only [eVar, eC, eOp, eT, eAnd, eOr, eNot, eIf, eAndV, eOrV, eNotV, eCall, aNil, aCons, aStar, sOf, eTup, eFl, eLoc, eSl, oNone, oSome, iOf, eNeg, eChain, eMt, bOf, eDict0, eRev, eListRg, iZipD, sRaise1, sRaise0, eCallV, List.lookup, R.bind_ok, R.bind_er, R.bind_stuck, R.toS_ok, R.toS_er, R.toS_stuck, SR.next_nx, SR.next_rt, SR.next_er, SR.next_bk, SR.next_ct, SR.next_stuck, sNil, sSeq, sBrk, sCnt, sExp, sRet, sRetN, sIf, sSet, sAsg, sAug, sPar2, sPar3, tN, DL.tTup, DL.tNil, DL.tCons, DL.tSub, iSeq, srcOf, iRange1, iRange2, sFor, startD, List.map_cons, List.map_nil, List.length_cons, List.length_nil, List.replicate, List.cons_append, List.nil_append, List.getElem?_cons_zero, List.getElem?_cons_succ, List.set_cons_zero, List.set_cons_succ, dSub_int, dFdiv_int, dMod_int, dLt_int, dLe_int, dGt_int, dGe_int, dAddI_int, dSubI_int, dIsN_non, isN, dAdd_int, ll0, ll1, ll2, ll3, ll4, ll5, ll6, ll7, ll8, ll9, ll10, ll11, ll12, ll13, ll14, ll15, ll16, ll17, ll18, ll19, ll20, ll21, ll22, ll23, ll24, ll25, ll26, ll27, ll28, ll29, ll30, ll31, ll32, ll33, ll34, ll35, ll36, ll37, ll38, ll39, ll40, Nat.reduceSub, Nat.reduceAdd, Nat.reduceEqDiff, if_true, if_false, ifp_t, ifp_f, reduceIte, Bool.true_eq_false, Bool.false_eq_true, Option.map_some, Option.map_none, Option.bind_some, Option.bind_none, key, bTuple_fl]
    rfl
  · have hr : ((-(2 ^ 62) : Int) ≤ (l.length : Int) ∧ (l.length : Int) < 2 ^ 62) = True := by simp; omega
    simp only [eVar, eC, eOp, eT, eAnd, eOr, eNot, eIf, eAndV, eOrV, eNotV, eCall, aNil, aCons, aStar, sOf, eTup, eFl, eLoc, eSl, oNone, oSome, iOf, eNeg, eChain, eMt, bOf, eDict0, eRev, eListRg, iZipD, sRaise1, sRaise0, eCallV, List.lookup, R.bind_ok, R.bind_er, R.bind_stuck, R.toS_ok, R.toS_er, R.toS_stuck, SR.next_nx, SR.next_rt, SR.next_er, SR.next_bk, SR.next_ct, SR.next_stuck, sNil, sSeq, sBrk, sCnt, sExp, sRet, sRetN, sIf, sSet, sAsg, sAug, sPar2, sPar3, tN, DL.tTup, DL.tNil, DL.tCons, DL.tSub, iSeq, srcOf, iRange1, iRange2, sFor, startD, List.map_cons, List.map_nil, List.length_cons, List.length_nil, List.replicate, List.cons_append, List.nil_append, List.getElem?_cons_zero, List.getElem?_cons_succ, List.set_cons_zero, List.set_cons_succ, dSub_int, dFdiv_int, dMod_int, dLt_int, dLe_int, dGt_int, dGe_int, dAddI_int, dSubI_int, dIsN_non, isN, dAdd_int, ll0, ll1, ll2, ll3, ll4, ll5, ll6, ll7, ll8, ll9, ll10, ll11, ll12, ll13, ll14, ll15, ll16, ll17, ll18, ll19, ll20, ll21, ll22, ll23, ll24, ll25, ll26, ll27, ll28, ll29, ll30, ll31, ll32, ll33, ll34, ll35, ll36, ll37, ll38, ll39, ll40, Nat.reduceSub, Nat.reduceAdd, Nat.reduceEqDiff, if_true, if_false, ifp_t, ifp_f, reduceIte, Bool.true_eq_false, Bool.false_eq_true, Option.map_some, Option.map_none, Option.bind_some, Option.bind_none, ti_len, hr, Int.toNat_natCast]
  · intro k hk S'
    refine ⟨rfl, ?_, rfl⟩
    simp only [eVar, eC, eOp, eT, eAnd, eOr, eNot, eIf, eAndV, eOrV, eNotV, eCall, aNil, aCons, aStar, sOf, eTup, eFl, eLoc, eSl, oNone, oSome, iOf, eNeg, eChain, eMt, bOf, eDict0, eRev, eListRg, iZipD, sRaise1, sRaise0, eCallV, List.lookup, R.bind_ok, R.bind_er, R.bind_stuck, R.toS_ok, R.toS_er, R.toS_stuck, SR.next_nx, SR.next_rt, SR.next_er, SR.next_bk, SR.next_ct, SR.next_stuck, sNil, sSeq, sBrk, sCnt, sExp, sRet, sRetN, sIf, sSet, sAsg, sAug, sPar2, sPar3, tN, DL.tTup, DL.tNil, DL.tCons, DL.tSub, iSeq, srcOf, iRange1, iRange2, sFor, startD, List.map_cons, List.map_nil, List.length_cons, List.length_nil, List.replicate, List.cons_append, List.nil_append, List.getElem?_cons_zero, List.getElem?_cons_succ, List.set_cons_zero, List.set_cons_succ, dSub_int, dFdiv_int, dMod_int, dLt_int, dLe_int, dGt_int, dGe_int, dAddI_int, dSubI_int, dIsN_non, isN, dAdd_int, ll0, ll1, ll2, ll3, ll4, ll5, ll6, ll7, ll8, ll9, ll10, ll11, ll12, ll13, ll14, ll15, ll16, ll17, ll18, ll19, ll20, ll21, ll22, ll23, ll24, ll25, ll26, ll27, ll28, ll29, ll30, ll31, ll32, ll33, ll34, ll35, ll36, ll37, ll38, ll39, ll40, Nat.reduceSub, Nat.reduceAdd, Nat.reduceEqDiff, if_true, if_false, ifp_t, ifp_f, reduceIte, Bool.true_eq_false, Bool.false_eq_true, Option.map_some, Option.map_none, Option.bind_some, Option.bind_none, Q1_beginnings, need_ok l k hk hl, dEq_int]
    rfl
theorem bMax_two (i j : Int) (S : Sto) : bMax [.int i, .int j] S = .ok (.int (max i j)) S := rfl
theorem count_ok (l : List Int) (S : Sto) : F_count_beginnings [ti l] S = .ok (.int (max 0 (l.length - l.sum))) S := by
  refine fnC_rt rfl ?_ rfl
  unfold B_count_beginnings
  simp only [eVar, eC, eOp, eT, eAnd, eOr, eNot, eIf, eAndV, eOrV, eNotV, eCall, aNil, aCons, aStar, sOf, eTup, eFl, eLoc, eSl, oNone, oSome, iOf, eNeg, eChain, eMt, bOf, eDict0, eRev, eListRg, iZipD, sRaise1, sRaise0, eCallV, List.lookup, R.bind_ok, R.bind_er, R.bind_stuck, R.toS_ok, R.toS_er, R.toS_stuck, SR.next_nx, SR.next_rt, SR.next_er, SR.next_bk, SR.next_ct, SR.next_stuck, sNil, sSeq, sBrk, sCnt, sExp, sRet, sRetN, sIf, sSet, sAsg, sAug, sPar2, sPar3, tN, DL.tTup, DL.tNil, DL.tCons, DL.tSub, iSeq, srcOf, iRange1, iRange2, sFor, startD, List.map_cons, List.map_nil, List.length_cons, List.length_nil, List.replicate, List.cons_append, List.nil_append, List.getElem?_cons_zero, List.getElem?_cons_succ, List.set_cons_zero, List.set_cons_succ, dSub_int, dFdiv_int, dMod_int, dLt_int, dLe_int, dGt_int, dGe_int, dAddI_int, dSubI_int, dIsN_non, isN, dAdd_int, ll0, ll1, ll2, ll3, ll4, ll5, ll6, ll7, ll8, ll9, ll10, ll11, ll12, ll13, ll14, ll15, ll16, ll17, ll18, ll19, ll20, ll21, ll22, ll23, ll24, ll25, ll26, ll27, ll28, ll29, ll30, ll31, ll32, ll33, ll34, ll35, ll36, ll37, ll38, ll39, ll40, Nat.reduceSub, Nat.reduceAdd, Nat.reduceEqDiff, if_true, if_false, ifp_t, ifp_f, reduceIte, Bool.true_eq_false, Bool.false_eq_true, Option.map_some, Option.map_none, Option.bind_some, Option.bind_none, balance_ok, bMax_two]
theorem effect_ok (l : List Int) (hl : l.length < 10 ^ 6) (S : Sto) : F_effect_of [ti l] S = .ok (.tup [.int (ne l), .int (ne l + ((l.length : Int) - l.sum))]) S := by
  refine fnC_rt rfl ?_ rfl
  unfold B_effect_of
  simp only [eVar, eC, eOp, eT, eAnd, eOr, eNot, eIf, eAndV, eOrV, eNotV, eCall, aNil, aCons, aStar, sOf, eTup, eFl, eLoc, eSl, oNone, oSome, iOf, eNeg, eChain, eMt, bOf, eDict0, eRev, eListRg, iZipD, sRaise1, sRaise0, eCallV, List.lookup, R.bind_ok, R.bind_er, R.bind_stuck, R.toS_ok, R.toS_er, R.toS_stuck, SR.next_nx, SR.next_rt, SR.next_er, SR.next_bk, SR.next_ct, SR.next_stuck, sNil, sSeq, sBrk, sCnt, sExp, sRet, sRetN, sIf, sSet, sAsg, sAug, sPar2, sPar3, tN, DL.tTup, DL.tNil, DL.tCons, DL.tSub, iSeq, srcOf, iRange1, iRange2, sFor, startD, List.map_cons, List.map_nil, List.length_cons, List.length_nil, List.replicate, List.cons_append, List.nil_append, List.getElem?_cons_zero, List.getElem?_cons_succ, List.set_cons_zero, List.set_cons_succ, dSub_int, dFdiv_int, dMod_int, dLt_int, dLe_int, dGt_int, dGe_int, dAddI_int, dSubI_int, dIsN_non, isN, dAdd_int, ll0, ll1, ll2, ll3, ll4, ll5, ll6, ll7, ll8, ll9, ll10, ll11, ll12, ll13, ll14, ll15, ll16, ll17, ll18, ll19, ll20, ll21, ll22, ll23, ll24, ll25, ll26, ll27, ll28, ll29, ll30, ll31, ll32, ll33, ll34, ll35, ll36, ll37, ll38, ll39, ll40, Nat.reduceSub, Nat.reduceAdd, Nat.reduceEqDiff, if_true, if_false, ifp_t, ifp_f, reduceIte, Bool.true_eq_false, Bool.false_eq_true, Option.map_some, Option.map_none, Option.bind_some, Option.bind_none, need_of_ok l hl, balance_ok]
/-! ### repr -/
structure Shw (b k : Nat) (d : D) : Prop where
  ok : rok d = true
  bulk : bulkD d ≤ b
  dep : depD d ≤ k
theorem Shw.mono {b b' k k' : Nat} {d : D} (h : Shw b k d) (hb : b ≤ b') (hk : k ≤ k') : Shw b' k' d := ⟨h.ok, Nat.le_trans h.bulk hb, Nat.le_trans h.dep hk⟩
theorem repr_s {b k : Nat} {d : D} (h : Shw b k d) (hb : b ≤ 8000) (hk : k ≤ 60) (S : Sto) : bRepr [d] S = .ok (.str (shD d)) S := repr_d h.ok (Nat.le_trans h.bulk hb) (Nat.le_trans h.dep hk) S
theorem shwL {b k : Nat} : ∀ {ds : List D}, (∀ d ∈ ds, Shw b k d) → rokL ds = true ∧ bulkL ds ≤ ds.length * (b + 1) ∧ depL ds ≤ k
  | [], _ => ⟨rfl, by simp [bulkL], by simp [depL]⟩
  | d :: ds, h => by
    obtain ⟨h1, h2, h3⟩ := shwL (ds := ds) fun x hx => h x (List.mem_cons_of_mem _ hx)
    have hd := h d List.mem_cons_self
    refine ⟨by rw [rokL, hd.ok, h1]; rfl, ?_, ?_⟩
    · rw [bulkL, List.length_cons, Nat.add_mul]
      have := hd.bulk
      omega
    · rw [depL]
      exact Nat.max_le.mpr ⟨hd.dep, h3⟩
theorem shw_tup {b k : Nat} {ds : List D} (h : ∀ d ∈ ds, Shw b k d) : Shw (ds.length * (b + 1)) (k + 1) (.tup ds) := by
  obtain ⟨h1, h2, h3⟩ := shwL h
  exact ⟨by rw [rok]; exact h1, by rw [bulkD]; exact h2, by rw [depD]; omega⟩
theorem shw_fl {b k : Nat} {ds : List D} (h : ∀ d ∈ ds, Shw b k d) : Shw (ds.length * (b + 1)) (k + 1) (.fl ds) := by
  obtain ⟨h1, h2, h3⟩ := shwL h
  exact ⟨by rw [rok]; exact h1, by rw [bulkD]; exact h2, by rw [depD]; omega⟩
theorem shw_int {i : Int} (h : i.natAbs < 2 ^ 1000) : Shw 0 0 (.int i) := ⟨rok_int 1000 h (by decide) (by decide), by simp [bulkD], by simp [depD]⟩
theorem big9 : (10 ^ 9 : Nat) < 2 ^ 1000 := by decide
theorem shw_nat {i : Int} (h0 : -(10 ^ 9) < i) (h : i < 10 ^ 9) : Shw 0 0 (.int i) := shw_int (by have := big9; omega)
theorem shw_bl {b : Bool} : Shw 0 0 (.bl b) := ⟨rfl, by simp [bulkD], by simp [depD]⟩
theorem shw_non : Shw 0 0 .non := ⟨rfl, by simp [bulkD], by simp [depD]⟩
theorem shw_ti {l : List Int} (h : ∀ t ∈ l, -(10 ^ 9) < t ∧ t < 10 ^ 9) : Shw l.length 1 (ti l) := by
  unfold ti
  have := shw_tup (b := 0) (k := 0) (ds := l.map D.int) fun d hd => by
    obtain ⟨t, ht, rfl⟩ := List.mem_map.mp hd
    exact shw_nat (h t ht).1 (h t ht).2
  rw [List.length_map] at this
  simpa using this.mono (Nat.le_of_eq (Nat.mul_one _)) (Nat.le_refl _)
theorem ni_eq (l : List Nat) : ni l = (l.map fun k : Nat => (k : Int)).map D.int := by unfold ni; rw [List.map_map]; rfl
theorem shw_ni {l : List Nat} (h : ∀ t ∈ l, t < 10 ^ 9) : Shw l.length 1 (.tup (ni l)) := by
  rw [ni_eq]
  have := shw_ti (l := l.map fun k : Nat => (k : Int)) fun t ht => by
    obtain ⟨k, hk, rfl⟩ := List.mem_map.mp ht
    have := h k hk
    omega
  rw [List.length_map] at this
  exact this
/-! ### odd values -/
def oddL : List D := [.non, .bl true, .bl false, .int (-1), .int 0, .int 1, .int 2, .int 5, .int 6, .int 24, .int (10 ^ 29), .str "", .str "0", .tup [], .fl [], .fd [], .tup [.int 0], .fl [.int 0], .tup [.bl true], .tup [.tup []], .str "a", .tup [.int 0, .int 2], .fd [(.inr "a", .int 1)], .tup [.int 0, .int 0, .int 2]]
theorem odd_pl : ∀ d ∈ oddL, pl d = true := by
  have : oddL.all pl = true := rfl
  exact fun d hd => List.all_eq_true.mp this d hd
theorem odd_shw : ∀ d ∈ oddL, Shw 3 2 d := by
  have h1 : oddL.all (fun d => rok d && decide (bulkD d ≤ 3) && decide (depD d ≤ 2)) = true := by decide +kernel
  intro d hd
  have := List.all_eq_true.mp h1 d hd
  simp only [Bool.and_eq_true, decide_eq_true_eq] at this
  exact ⟨this.1.1, this.1.2, this.2⟩
theorem odd_low : ∀ d ∈ oddL, ∀ n, low n d = true := by
  intro d hd n
  have h : oddL.all (fun d => low 0 d) = true := by decide +kernel
  have h0 := List.all_eq_true.mp h d hd
  simp only [oddL, List.mem_cons, List.not_mem_nil, or_false] at hd
  rcases hd with rfl | rfl | rfl | rfl | rfl | rfl | rfl | rfl | rfl | rfl | rfl | rfl | rfl | rfl | rfl | rfl | rfl | rfl | rfl | rfl | rfl | rfl | rfl | rfl <;> simp [low, lowL, lowK]
theorem odd_ok {S : Sto} {n : Nat} {rest : Sto} (h : Strm S n rest) (hn : n < 2 ^ 60) : ∃ d S', F__law_odd [.loc 1] S = .ok d S' ∧ d ∈ oddL ∧ Strm S' (n + 1) rest := by
  obtain ⟨z, S', h1, h2, h3, h4⟩ := draw_ok h (m := 24) (by decide) (by decide) hn
  have hz : (z.toNat) < oddL.length := by
    show z.toNat < 24
    omega
  refine ⟨oddL[z.toNat], S', ?_, List.getElem_mem hz, h4⟩
  refine fnC_rt rfl ?_ (by rw [h4.len, h.len])
  unfold B__law_odd
  have hp : ∀ S, dPow (.int 10) (.int 29) S = .ok (.int (10 ^ 29)) S := fun S => dPow_ok ⟨by decide, by decide, by decide⟩ S
  have ha : ∀ S, dAdd (.fl [.non, .bl true, .bl false, .int (-1), .int 0, .int 1, .int 2, .int 5, .int 6, .int 24, .int (10 ^ 29), .str "", .str "0", .tup [], .fl [], .fd [], .tup [.int 0], .fl [.int 0], .tup [.bl true], .tup [.tup []], .str "a"]) (.fl [.tup [.int 0, .int 2], .fd [(.inr "a", .int 1)], .tup [.int 0, .int 0, .int 2]]) S = .ok (.fl oddL) S := fun S => ifp_pos (by show 24 ≤ sizeLine; decide)
  have hx : dIx (.fl oddL) (.int z) S' = .ok oddL[z.toNat] S' := dIx_fl (by rw [atI_nn h2 (by show z < 24; omega)]; exact List.getElem?_eq_getElem hz)
  simp only [eVar, eC, eOp, eT, eAnd, eOr, eNot, eIf, eAndV, eOrV, eNotV, eCall, aNil, aCons, aStar, sOf, eTup, eFl, eLoc, eSl, oNone, oSome, iOf, eNeg, eChain, eMt, bOf, eDict0, eRev, eListRg, iZipD, sRaise1, sRaise0, eCallV, List.lookup, R.bind_ok, R.bind_er, R.bind_stuck, R.toS_ok, R.toS_er, R.toS_stuck, SR.next_nx, SR.next_rt, SR.next_er, SR.next_bk, SR.next_ct, SR.next_stuck, sNil, sSeq, sBrk, sCnt, sExp, sRet, sRetN, sIf, sSet, sAsg, sAug, sPar2, sPar3, tN, DL.tTup, DL.tNil, DL.tCons, DL.tSub, iSeq, srcOf, iRange1, iRange2, sFor, startD, List.map_cons, List.map_nil, List.length_cons, List.length_nil, List.replicate, List.cons_append, List.nil_append, List.getElem?_cons_zero, List.getElem?_cons_succ, List.set_cons_zero, List.set_cons_succ, dSub_int, dFdiv_int, dMod_int, dLt_int, dLe_int, dGt_int, dGe_int, dAddI_int, dSubI_int, dIsN_non, isN, dAdd_int, ll0, ll1, ll2, ll3, ll4, ll5, ll6, ll7, ll8, ll9, ll10, ll11, ll12, ll13, ll14, ll15, ll16, ll17, ll18, ll19, ll20, ll21, ll22, ll23, ll24, ll25, ll26, ll27, ll28, ll29, ll30, ll31, ll32, ll33, ll34, ll35, ll36, ll37, ll38, ll39, ll40, Nat.reduceSub, Nat.reduceAdd, Nat.reduceEqDiff, if_true, if_false, ifp_t, ifp_f, reduceIte, Bool.true_eq_false, Bool.false_eq_true, Option.map_some, Option.map_none, Option.bind_some, Option.bind_none, hp, ha, h1, hx]
end DL

/-! A call with a place, and the error of a place that is none. -/
namespace DL
open PySem PySem.Spec L2
open PyProof.Rows hiding St
def xtabP : XTab := [((.own "RingError"), [.own "RingError", .blt "ValueError", .blt "Exception", .blt "BaseException", .blt "object"]), ((.own "NoPlace"), [.own "NoPlace", .blt "LookupError", .blt "Exception", .blt "BaseException", .blt "object"]), ((.own "NoIndex"), [.own "NoIndex", .blt "LookupError", .blt "Exception", .blt "BaseException", .blt "object"]), ((.own "NoVersion"), [.own "NoVersion", .blt "LookupError", .blt "Exception", .blt "BaseException", .blt "object"]), ((.blt "ValueError"), [.blt "ValueError", .blt "Exception", .blt "BaseException", .blt "object"]), ((.blt "LookupError"), [.blt "LookupError", .blt "Exception", .blt "BaseException", .blt "object"])]
noncomputable def B_perr (tbl : List (Str × Fn)) : Ev → Sto → SR :=
  (sTry xtabP [.own "NoPlace"] 3 (sRet (eCallV tbl (eVar 0) (aCons (eVar 1) (aCons (eVar 2) aNil)))) (sSeq (sIf (eOr (eT (eCall (bIsi2 xtabP) (aCons (eVar 3) (aCons (eTup (aCons (eC (.fn "RingError")) (aCons (eC (.fn "NoIndex")) (aCons (eC (.fn "NoVersion")) aNil)))) aNil)))) (eNot (eT (eCall (bIsi2 xtabP) (aCons (eVar 3) (aCons (eC (.ty "LookupError")) aNil)))))) (sRet (eC (.str "other"))) sNil)
    (sRet (eFl (aCons (eAtX xtabP "value" (eVar 3)) aNil)))))
theorem perr_ok {tbl : List (Str × Fn)} {f : Str} {F : Fn} {r v d : D} {S S' : Sto} (h1 : tbl.lookup f = some F) (h2 : F [r, v] S = .ok d S') (h3 : S'.length = S.length) : fnC close 4 3 (B_perr tbl) [.fn f, r, v] S = .ok d S' := by
  refine fnC_rt rfl ?_ h3
  have hst : startD 4 [D.fn f, r, v] = [some (.fn f), some r, some v, none] := rfl
  rw [hst]
  unfold B_perr sTry
  simp only [eVar, eC, eOp, eT, eAnd, eOr, eNot, eIf, eAndV, eOrV, eNotV, eCall, aNil, aCons, aStar, sOf, eTup, eFl, eLoc, eSl, oNone, oSome, iOf, eNeg, eChain, eMt, bOf, eDict0, eRev, eListRg, iZipD, sRaise1, sRaise0, eCallV, List.lookup, R.bind_ok, R.bind_er, R.bind_stuck, R.toS_ok, R.toS_er, R.toS_stuck, SR.next_nx, SR.next_rt, SR.next_er, SR.next_bk, SR.next_ct, SR.next_stuck, sNil, sSeq, sBrk, sCnt, sExp, sRet, sRetN, sIf, sSet, sAsg, sAug, sPar2, sPar3, tN, DL.tTup, DL.tNil, DL.tCons, DL.tSub, iSeq, srcOf, iRange1, iRange2, sFor, startD, List.map_cons, List.map_nil, List.length_cons, List.length_nil, List.replicate, List.cons_append, List.nil_append, List.getElem?_cons_zero, List.getElem?_cons_succ, List.set_cons_zero, List.set_cons_succ, dSub_int, dFdiv_int, dMod_int, dLt_int, dLe_int, dGt_int, dGe_int, dAddI_int, dSubI_int, dIsN_non, isN, dAdd_int, ll0, ll1, ll2, ll3, ll4, ll5, ll6, ll7, ll8, ll9, ll10, ll11, ll12, ll13, ll14, ll15, ll16, ll17, ll18, ll19, ll20, ll21, ll22, ll23, ll24, ll25, ll26, ll27, ll28, ll29, ll30, ll31, ll32, ll33, ll34, ll35, ll36, ll37, ll38, ll39, ll40, Nat.reduceSub, Nat.reduceAdd, Nat.reduceEqDiff, if_true, if_false, ifp_t, ifp_f, reduceIte, Bool.true_eq_false, Bool.false_eq_true, Option.map_some, Option.map_none, Option.bind_some, Option.bind_none, h1, h2]
theorem perr_er {tbl : List (Str × Fn)} {f : Str} {F : Fn} {r v : D} {S : Sto} (h1 : tbl.lookup f = some F) (h2 : F [r, v] S = .er (noPlace v) S) : fnC close 4 3 (B_perr tbl) [.fn f, r, v] S = .ok (.fl [v]) S := by
  refine fnC_rt rfl ?_ rfl
  have hst : startD 4 [D.fn f, r, v] = [some (.fn f), some r, some v, none] := rfl
  rw [hst]
  unfold B_perr sTry
  have e1 : isXs xtabP (.own "NoPlace") [.own "NoPlace"] = some true := by decide +kernel
  have e2 : ∀ S, bIsi2 xtabP [.exc (.own "NoPlace") [("value", v)], .tup [.fn "RingError", .fn "NoIndex", .fn "NoVersion"]] S = .ok (.bl false) S := fun S => by
    have : isXs xtabP (.own "NoPlace") [.own "RingError", .own "NoIndex", .own "NoVersion"] = some false := by decide +kernel
    simp only [bIsi2, clsDs, clsD, Option.bind_some, Option.map_some, this]
  have e3 : ∀ S, bIsi2 xtabP [.exc (.own "NoPlace") [("value", v)], .ty "LookupError"] S = .ok (.bl true) S := fun S => by
    have : isX xtabP (.own "NoPlace") (.blt "LookupError") = some true := by decide +kernel
    simp only [bIsi2, clsD, this]
  have e4 : ∀ S, dAtX xtabP "value" (.exc (.own "NoPlace") [("value", v)]) S = .ok v S := fun S => by
    have : (List.lookup (Cn.own "NoPlace") xtabP).isSome = true := by decide +kernel
    unfold dAtX
    simp only [this, if_true]
    simp [List.lookup]
  simp only [eVar, eC, eOp, eT, eAnd, eOr, eNot, eIf, eAndV, eOrV, eNotV, eCall, aNil, aCons, aStar, sOf, eTup, eFl, eLoc, eSl, oNone, oSome, iOf, eNeg, eChain, eMt, bOf, eDict0, eRev, eListRg, iZipD, sRaise1, sRaise0, eCallV, List.lookup, R.bind_ok, R.bind_er, R.bind_stuck, R.toS_ok, R.toS_er, R.toS_stuck, SR.next_nx, SR.next_rt, SR.next_er, SR.next_bk, SR.next_ct, SR.next_stuck, sNil, sSeq, sBrk, sCnt, sExp, sRet, sRetN, sIf, sSet, sAsg, sAug, sPar2, sPar3, tN, DL.tTup, DL.tNil, DL.tCons, DL.tSub, iSeq, srcOf, iRange1, iRange2, sFor, startD, List.map_cons, List.map_nil, List.length_cons, List.length_nil, List.replicate, List.cons_append, List.nil_append, List.getElem?_cons_zero, List.getElem?_cons_succ, List.set_cons_zero, List.set_cons_succ, dSub_int, dFdiv_int, dMod_int, dLt_int, dLe_int, dGt_int, dGe_int, dAddI_int, dSubI_int, dIsN_non, isN, dAdd_int, ll0, ll1, ll2, ll3, ll4, ll5, ll6, ll7, ll8, ll9, ll10, ll11, ll12, ll13, ll14, ll15, ll16, ll17, ll18, ll19, ll20, ll21, ll22, ll23, ll24, ll25, ll26, ll27, ll28, ll29, ll30, ll31, ll32, ll33, ll34, ll35, ll36, ll37, ll38, ll39, ll40, Nat.reduceSub, Nat.reduceAdd, Nat.reduceEqDiff, if_true, if_false, ifp_t, ifp_f, reduceIte, Bool.true_eq_false, Bool.false_eq_true, Option.map_some, Option.map_none, Option.bind_some, Option.bind_none, h1, h2, noPlace, e1]
  simp only [eVar, eC, eOp, eT, eAnd, eOr, eNot, eIf, eAndV, eOrV, eNotV, eCall, aNil, aCons, aStar, sOf, eTup, eFl, eLoc, eSl, oNone, oSome, iOf, eNeg, eChain, eMt, bOf, eDict0, eRev, eListRg, iZipD, sRaise1, sRaise0, eCallV, List.lookup, R.bind_ok, R.bind_er, R.bind_stuck, R.toS_ok, R.toS_er, R.toS_stuck, SR.next_nx, SR.next_rt, SR.next_er, SR.next_bk, SR.next_ct, SR.next_stuck, sNil, sSeq, sBrk, sCnt, sExp, sRet, sRetN, sIf, sSet, sAsg, sAug, sPar2, sPar3, tN, DL.tTup, DL.tNil, DL.tCons, DL.tSub, iSeq, srcOf, iRange1, iRange2, sFor, startD, List.map_cons, List.map_nil, List.length_cons, List.length_nil, List.replicate, List.cons_append, List.nil_append, List.getElem?_cons_zero, List.getElem?_cons_succ, List.set_cons_zero, List.set_cons_succ, dSub_int, dFdiv_int, dMod_int, dLt_int, dLe_int, dGt_int, dGe_int, dAddI_int, dSubI_int, dIsN_non, isN, dAdd_int, ll0, ll1, ll2, ll3, ll4, ll5, ll6, ll7, ll8, ll9, ll10, ll11, ll12, ll13, ll14, ll15, ll16, ll17, ll18, ll19, ll20, ll21, ll22, ll23, ll24, ll25, ll26, ll27, ll28, ll29, ll30, ll31, ll32, ll33, ll34, ll35, ll36, ll37, ll38, ll39, ll40, Nat.reduceSub, Nat.reduceAdd, Nat.reduceEqDiff, if_true, if_false, ifp_t, ifp_f, reduceIte, Bool.true_eq_false, Bool.false_eq_true, Option.map_some, Option.map_none, Option.bind_some, Option.bind_none, e2, e3, Bool.not_true, eAtX, e4]
theorem dLt_i (i j : Int) (S : Sto) : dLt (.int i) (.int j) S = .ok (.bl (decide (i < j))) S := rfl
theorem is_place_any (l : List Int) {v : D} (h : pl v = true) (S : Sto) : F__law_is_place [ti l, v] S = .ok (.bl (plc l.length v).isSome) S := by
  refine fnC_rt rfl ?_ rfl
  unfold B__law_is_place
  cases v with
  | int i =>
    have h1 := isi_int (v := .int i) rfl S
    have h2 := isi_bool (v := .int i) rfl S
    have e : (plc l.length (.int i)).isSome = decide (0 ≤ i ∧ i < (l.length : Int)) := by
      show (if 0 ≤ i ∧ i < (l.length : Int) then some i.toNat else none).isSome = _
      by_cases q : 0 ≤ i ∧ i < (l.length : Int)
      · rw [if_pos q, decide_eq_true q]; rfl
      · rw [if_neg q, decide_eq_false q]; rfl
    by_cases h3 : 0 ≤ i
    · by_cases h4 : i < (l.length : Int)
      · simp only [eVar, eC, eOp, eT, eAnd, eOr, eNot, eIf, eAndV, eOrV, eNotV, eCall, aNil, aCons, aStar, sOf, eTup, eFl, eLoc, eSl, oNone, oSome, iOf, eNeg, eChain, eMt, bOf, eDict0, eRev, eListRg, iZipD, sRaise1, sRaise0, eCallV, List.lookup, R.bind_ok, R.bind_er, R.bind_stuck, R.toS_ok, R.toS_er, R.toS_stuck, SR.next_nx, SR.next_rt, SR.next_er, SR.next_bk, SR.next_ct, SR.next_stuck, sNil, sSeq, sBrk, sCnt, sExp, sRet, sRetN, sIf, sSet, sAsg, sAug, sPar2, sPar3, tN, DL.tTup, DL.tNil, DL.tCons, DL.tSub, iSeq, srcOf, iRange1, iRange2, sFor, startD, List.map_cons, List.map_nil, List.length_cons, List.length_nil, List.replicate, List.cons_append, List.nil_append, List.getElem?_cons_zero, List.getElem?_cons_succ, List.set_cons_zero, List.set_cons_succ, dSub_int, dFdiv_int, dMod_int, dLt_int, dLe_int, dGt_int, dGe_int, dAddI_int, dSubI_int, dIsN_non, isN, dAdd_int, ll0, ll1, ll2, ll3, ll4, ll5, ll6, ll7, ll8, ll9, ll10, ll11, ll12, ll13, ll14, ll15, ll16, ll17, ll18, ll19, ll20, ll21, ll22, ll23, ll24, ll25, ll26, ll27, ll28, ll29, ll30, ll31, ll32, ll33, ll34, ll35, ll36, ll37, ll38, ll39, ll40, Nat.reduceSub, Nat.reduceAdd, Nat.reduceEqDiff, if_true, if_false, ifp_t, ifp_f, reduceIte, Bool.true_eq_false, Bool.false_eq_true, Option.map_some, Option.map_none, Option.bind_some, Option.bind_none, h1, h2, isInt0, isBl, h3, h4, decide_true, Bool.not_false, e, and_self, ti_len]
      · simp only [eVar, eC, eOp, eT, eAnd, eOr, eNot, eIf, eAndV, eOrV, eNotV, eCall, aNil, aCons, aStar, sOf, eTup, eFl, eLoc, eSl, oNone, oSome, iOf, eNeg, eChain, eMt, bOf, eDict0, eRev, eListRg, iZipD, sRaise1, sRaise0, eCallV, List.lookup, R.bind_ok, R.bind_er, R.bind_stuck, R.toS_ok, R.toS_er, R.toS_stuck, SR.next_nx, SR.next_rt, SR.next_er, SR.next_bk, SR.next_ct, SR.next_stuck, sNil, sSeq, sBrk, sCnt, sExp, sRet, sRetN, sIf, sSet, sAsg, sAug, sPar2, sPar3, tN, DL.tTup, DL.tNil, DL.tCons, DL.tSub, iSeq, srcOf, iRange1, iRange2, sFor, startD, List.map_cons, List.map_nil, List.length_cons, List.length_nil, List.replicate, List.cons_append, List.nil_append, List.getElem?_cons_zero, List.getElem?_cons_succ, List.set_cons_zero, List.set_cons_succ, dSub_int, dFdiv_int, dMod_int, dLt_int, dLe_int, dGt_int, dGe_int, dAddI_int, dSubI_int, dIsN_non, isN, dAdd_int, ll0, ll1, ll2, ll3, ll4, ll5, ll6, ll7, ll8, ll9, ll10, ll11, ll12, ll13, ll14, ll15, ll16, ll17, ll18, ll19, ll20, ll21, ll22, ll23, ll24, ll25, ll26, ll27, ll28, ll29, ll30, ll31, ll32, ll33, ll34, ll35, ll36, ll37, ll38, ll39, ll40, Nat.reduceSub, Nat.reduceAdd, Nat.reduceEqDiff, if_true, if_false, ifp_t, ifp_f, reduceIte, Bool.true_eq_false, Bool.false_eq_true, Option.map_some, Option.map_none, Option.bind_some, Option.bind_none, h1, h2, isInt0, isBl, h3, h4, decide_true, decide_false, Bool.not_false, e, and_false, ti_len]
    · simp only [eVar, eC, eOp, eT, eAnd, eOr, eNot, eIf, eAndV, eOrV, eNotV, eCall, aNil, aCons, aStar, sOf, eTup, eFl, eLoc, eSl, oNone, oSome, iOf, eNeg, eChain, eMt, bOf, eDict0, eRev, eListRg, iZipD, sRaise1, sRaise0, eCallV, List.lookup, R.bind_ok, R.bind_er, R.bind_stuck, R.toS_ok, R.toS_er, R.toS_stuck, SR.next_nx, SR.next_rt, SR.next_er, SR.next_bk, SR.next_ct, SR.next_stuck, sNil, sSeq, sBrk, sCnt, sExp, sRet, sRetN, sIf, sSet, sAsg, sAug, sPar2, sPar3, tN, DL.tTup, DL.tNil, DL.tCons, DL.tSub, iSeq, srcOf, iRange1, iRange2, sFor, startD, List.map_cons, List.map_nil, List.length_cons, List.length_nil, List.replicate, List.cons_append, List.nil_append, List.getElem?_cons_zero, List.getElem?_cons_succ, List.set_cons_zero, List.set_cons_succ, dSub_int, dFdiv_int, dMod_int, dLt_int, dLe_int, dGt_int, dGe_int, dAddI_int, dSubI_int, dIsN_non, isN, dAdd_int, ll0, ll1, ll2, ll3, ll4, ll5, ll6, ll7, ll8, ll9, ll10, ll11, ll12, ll13, ll14, ll15, ll16, ll17, ll18, ll19, ll20, ll21, ll22, ll23, ll24, ll25, ll26, ll27, ll28, ll29, ll30, ll31, ll32, ll33, ll34, ll35, ll36, ll37, ll38, ll39, ll40, Nat.reduceSub, Nat.reduceAdd, Nat.reduceEqDiff, if_true, if_false, ifp_t, ifp_f, reduceIte, Bool.true_eq_false, Bool.false_eq_true, Option.map_some, Option.map_none, Option.bind_some, Option.bind_none, h1, h2, isInt0, isBl, h3, decide_false, Bool.not_false, e, false_and, ti_len]
  | bl b =>
    have h1 := isi_int (v := .bl b) rfl S
    have h2 := isi_bool (v := .bl b) rfl S
    simp only [eVar, eC, eOp, eT, eAnd, eOr, eNot, eIf, eAndV, eOrV, eNotV, eCall, aNil, aCons, aStar, sOf, eTup, eFl, eLoc, eSl, oNone, oSome, iOf, eNeg, eChain, eMt, bOf, eDict0, eRev, eListRg, iZipD, sRaise1, sRaise0, eCallV, List.lookup, R.bind_ok, R.bind_er, R.bind_stuck, R.toS_ok, R.toS_er, R.toS_stuck, SR.next_nx, SR.next_rt, SR.next_er, SR.next_bk, SR.next_ct, SR.next_stuck, sNil, sSeq, sBrk, sCnt, sExp, sRet, sRetN, sIf, sSet, sAsg, sAug, sPar2, sPar3, tN, DL.tTup, DL.tNil, DL.tCons, DL.tSub, iSeq, srcOf, iRange1, iRange2, sFor, startD, List.map_cons, List.map_nil, List.length_cons, List.length_nil, List.replicate, List.cons_append, List.nil_append, List.getElem?_cons_zero, List.getElem?_cons_succ, List.set_cons_zero, List.set_cons_succ, dSub_int, dFdiv_int, dMod_int, dLt_int, dLe_int, dGt_int, dGe_int, dAddI_int, dSubI_int, dIsN_non, isN, dAdd_int, ll0, ll1, ll2, ll3, ll4, ll5, ll6, ll7, ll8, ll9, ll10, ll11, ll12, ll13, ll14, ll15, ll16, ll17, ll18, ll19, ll20, ll21, ll22, ll23, ll24, ll25, ll26, ll27, ll28, ll29, ll30, ll31, ll32, ll33, ll34, ll35, ll36, ll37, ll38, ll39, ll40, Nat.reduceSub, Nat.reduceAdd, Nat.reduceEqDiff, if_true, if_false, ifp_t, ifp_f, reduceIte, Bool.true_eq_false, Bool.false_eq_true, Option.map_some, Option.map_none, Option.bind_some, Option.bind_none, h1, h2, isInt0, isBl, Bool.not_true, plc, Option.isSome_none]
  | non => simp only [eVar, eC, eOp, eT, eAnd, eOr, eNot, eIf, eAndV, eOrV, eNotV, eCall, aNil, aCons, aStar, sOf, eTup, eFl, eLoc, eSl, oNone, oSome, iOf, eNeg, eChain, eMt, bOf, eDict0, eRev, eListRg, iZipD, sRaise1, sRaise0, eCallV, List.lookup, R.bind_ok, R.bind_er, R.bind_stuck, R.toS_ok, R.toS_er, R.toS_stuck, SR.next_nx, SR.next_rt, SR.next_er, SR.next_bk, SR.next_ct, SR.next_stuck, sNil, sSeq, sBrk, sCnt, sExp, sRet, sRetN, sIf, sSet, sAsg, sAug, sPar2, sPar3, tN, DL.tTup, DL.tNil, DL.tCons, DL.tSub, iSeq, srcOf, iRange1, iRange2, sFor, startD, List.map_cons, List.map_nil, List.length_cons, List.length_nil, List.replicate, List.cons_append, List.nil_append, List.getElem?_cons_zero, List.getElem?_cons_succ, List.set_cons_zero, List.set_cons_succ, dSub_int, dFdiv_int, dMod_int, dLt_int, dLe_int, dGt_int, dGe_int, dAddI_int, dSubI_int, dIsN_non, isN, dAdd_int, ll0, ll1, ll2, ll3, ll4, ll5, ll6, ll7, ll8, ll9, ll10, ll11, ll12, ll13, ll14, ll15, ll16, ll17, ll18, ll19, ll20, ll21, ll22, ll23, ll24, ll25, ll26, ll27, ll28, ll29, ll30, ll31, ll32, ll33, ll34, ll35, ll36, ll37, ll38, ll39, ll40, Nat.reduceSub, Nat.reduceAdd, Nat.reduceEqDiff, if_true, if_false, ifp_t, ifp_f, reduceIte, Bool.true_eq_false, Bool.false_eq_true, Option.map_some, Option.map_none, Option.bind_some, Option.bind_none, isi_int (v := .non) rfl, isInt0, plc, Option.isSome_none]
  | str x => simp only [eVar, eC, eOp, eT, eAnd, eOr, eNot, eIf, eAndV, eOrV, eNotV, eCall, aNil, aCons, aStar, sOf, eTup, eFl, eLoc, eSl, oNone, oSome, iOf, eNeg, eChain, eMt, bOf, eDict0, eRev, eListRg, iZipD, sRaise1, sRaise0, eCallV, List.lookup, R.bind_ok, R.bind_er, R.bind_stuck, R.toS_ok, R.toS_er, R.toS_stuck, SR.next_nx, SR.next_rt, SR.next_er, SR.next_bk, SR.next_ct, SR.next_stuck, sNil, sSeq, sBrk, sCnt, sExp, sRet, sRetN, sIf, sSet, sAsg, sAug, sPar2, sPar3, tN, DL.tTup, DL.tNil, DL.tCons, DL.tSub, iSeq, srcOf, iRange1, iRange2, sFor, startD, List.map_cons, List.map_nil, List.length_cons, List.length_nil, List.replicate, List.cons_append, List.nil_append, List.getElem?_cons_zero, List.getElem?_cons_succ, List.set_cons_zero, List.set_cons_succ, dSub_int, dFdiv_int, dMod_int, dLt_int, dLe_int, dGt_int, dGe_int, dAddI_int, dSubI_int, dIsN_non, isN, dAdd_int, ll0, ll1, ll2, ll3, ll4, ll5, ll6, ll7, ll8, ll9, ll10, ll11, ll12, ll13, ll14, ll15, ll16, ll17, ll18, ll19, ll20, ll21, ll22, ll23, ll24, ll25, ll26, ll27, ll28, ll29, ll30, ll31, ll32, ll33, ll34, ll35, ll36, ll37, ll38, ll39, ll40, Nat.reduceSub, Nat.reduceAdd, Nat.reduceEqDiff, if_true, if_false, ifp_t, ifp_f, reduceIte, Bool.true_eq_false, Bool.false_eq_true, Option.map_some, Option.map_none, Option.bind_some, Option.bind_none, isi_int (v := .str x) rfl, isInt0, plc, Option.isSome_none]
  | tup x => simp only [eVar, eC, eOp, eT, eAnd, eOr, eNot, eIf, eAndV, eOrV, eNotV, eCall, aNil, aCons, aStar, sOf, eTup, eFl, eLoc, eSl, oNone, oSome, iOf, eNeg, eChain, eMt, bOf, eDict0, eRev, eListRg, iZipD, sRaise1, sRaise0, eCallV, List.lookup, R.bind_ok, R.bind_er, R.bind_stuck, R.toS_ok, R.toS_er, R.toS_stuck, SR.next_nx, SR.next_rt, SR.next_er, SR.next_bk, SR.next_ct, SR.next_stuck, sNil, sSeq, sBrk, sCnt, sExp, sRet, sRetN, sIf, sSet, sAsg, sAug, sPar2, sPar3, tN, DL.tTup, DL.tNil, DL.tCons, DL.tSub, iSeq, srcOf, iRange1, iRange2, sFor, startD, List.map_cons, List.map_nil, List.length_cons, List.length_nil, List.replicate, List.cons_append, List.nil_append, List.getElem?_cons_zero, List.getElem?_cons_succ, List.set_cons_zero, List.set_cons_succ, dSub_int, dFdiv_int, dMod_int, dLt_int, dLe_int, dGt_int, dGe_int, dAddI_int, dSubI_int, dIsN_non, isN, dAdd_int, ll0, ll1, ll2, ll3, ll4, ll5, ll6, ll7, ll8, ll9, ll10, ll11, ll12, ll13, ll14, ll15, ll16, ll17, ll18, ll19, ll20, ll21, ll22, ll23, ll24, ll25, ll26, ll27, ll28, ll29, ll30, ll31, ll32, ll33, ll34, ll35, ll36, ll37, ll38, ll39, ll40, Nat.reduceSub, Nat.reduceAdd, Nat.reduceEqDiff, if_true, if_false, ifp_t, ifp_f, reduceIte, Bool.true_eq_false, Bool.false_eq_true, Option.map_some, Option.map_none, Option.bind_some, Option.bind_none, isi_int (v := .tup x) rfl, isInt0, plc, Option.isSome_none]
  | fl x => simp only [eVar, eC, eOp, eT, eAnd, eOr, eNot, eIf, eAndV, eOrV, eNotV, eCall, aNil, aCons, aStar, sOf, eTup, eFl, eLoc, eSl, oNone, oSome, iOf, eNeg, eChain, eMt, bOf, eDict0, eRev, eListRg, iZipD, sRaise1, sRaise0, eCallV, List.lookup, R.bind_ok, R.bind_er, R.bind_stuck, R.toS_ok, R.toS_er, R.toS_stuck, SR.next_nx, SR.next_rt, SR.next_er, SR.next_bk, SR.next_ct, SR.next_stuck, sNil, sSeq, sBrk, sCnt, sExp, sRet, sRetN, sIf, sSet, sAsg, sAug, sPar2, sPar3, tN, DL.tTup, DL.tNil, DL.tCons, DL.tSub, iSeq, srcOf, iRange1, iRange2, sFor, startD, List.map_cons, List.map_nil, List.length_cons, List.length_nil, List.replicate, List.cons_append, List.nil_append, List.getElem?_cons_zero, List.getElem?_cons_succ, List.set_cons_zero, List.set_cons_succ, dSub_int, dFdiv_int, dMod_int, dLt_int, dLe_int, dGt_int, dGe_int, dAddI_int, dSubI_int, dIsN_non, isN, dAdd_int, ll0, ll1, ll2, ll3, ll4, ll5, ll6, ll7, ll8, ll9, ll10, ll11, ll12, ll13, ll14, ll15, ll16, ll17, ll18, ll19, ll20, ll21, ll22, ll23, ll24, ll25, ll26, ll27, ll28, ll29, ll30, ll31, ll32, ll33, ll34, ll35, ll36, ll37, ll38, ll39, ll40, Nat.reduceSub, Nat.reduceAdd, Nat.reduceEqDiff, if_true, if_false, ifp_t, ifp_f, reduceIte, Bool.true_eq_false, Bool.false_eq_true, Option.map_some, Option.map_none, Option.bind_some, Option.bind_none, isi_int (v := .fl x) rfl, isInt0, plc, Option.isSome_none]
  | fd x => simp only [eVar, eC, eOp, eT, eAnd, eOr, eNot, eIf, eAndV, eOrV, eNotV, eCall, aNil, aCons, aStar, sOf, eTup, eFl, eLoc, eSl, oNone, oSome, iOf, eNeg, eChain, eMt, bOf, eDict0, eRev, eListRg, iZipD, sRaise1, sRaise0, eCallV, List.lookup, R.bind_ok, R.bind_er, R.bind_stuck, R.toS_ok, R.toS_er, R.toS_stuck, SR.next_nx, SR.next_rt, SR.next_er, SR.next_bk, SR.next_ct, SR.next_stuck, sNil, sSeq, sBrk, sCnt, sExp, sRet, sRetN, sIf, sSet, sAsg, sAug, sPar2, sPar3, tN, DL.tTup, DL.tNil, DL.tCons, DL.tSub, iSeq, srcOf, iRange1, iRange2, sFor, startD, List.map_cons, List.map_nil, List.length_cons, List.length_nil, List.replicate, List.cons_append, List.nil_append, List.getElem?_cons_zero, List.getElem?_cons_succ, List.set_cons_zero, List.set_cons_succ, dSub_int, dFdiv_int, dMod_int, dLt_int, dLe_int, dGt_int, dGe_int, dAddI_int, dSubI_int, dIsN_non, isN, dAdd_int, ll0, ll1, ll2, ll3, ll4, ll5, ll6, ll7, ll8, ll9, ll10, ll11, ll12, ll13, ll14, ll15, ll16, ll17, ll18, ll19, ll20, ll21, ll22, ll23, ll24, ll25, ll26, ll27, ll28, ll29, ll30, ll31, ll32, ll33, ll34, ll35, ll36, ll37, ll38, ll39, ll40, Nat.reduceSub, Nat.reduceAdd, Nat.reduceEqDiff, if_true, if_false, ifp_t, ifp_f, reduceIte, Bool.true_eq_false, Bool.false_eq_true, Option.map_some, Option.map_none, Option.bind_some, Option.bind_none, isi_int (v := .fd x) rfl, isInt0, plc, Option.isSome_none]
  | _ => simp [pl] at h
/-- a value that a law may take as a place -/
structure Val (v : D) : Prop where
  pl : DL.pl v = true
  shw : Shw 3 2 v
theorem val_nat {i : Int} (h0 : -(10 ^ 9) < i) (h : i < 10 ^ 9) : Val (.int i) := ⟨rfl, (shw_nat h0 h).mono (by omega) (by omega)⟩
theorem val_odd {d : D} (h : d ∈ oddL) : Val d := ⟨odd_pl d h, odd_shw d h⟩
theorem val_range {lo : Int} {n : Nat} (h0 : 0 ≤ lo) (h : lo + n < 10 ^ 9) : ∀ d ∈ rangeD lo n, Val d := fun d hd => by
  obtain ⟨k, hk⟩ := List.mem_iff_getElem?.mp hd
  obtain ⟨h1, rfl⟩ := rangeD_get hk
  exact val_nat (by omega) (by omega)
theorem listRg_ok (n : Nat) (hn : n ≤ 10 ^ 6) (S : Sto) : (ifp (RgOk 0 n) (mkFl (rangeD 0 (n : Int).toNat) S) .stuck : R D) = .ok (.fl (rangeD 0 n)) S := by
  rw [ifp_pos (RgOk.of_le (by omega) (by omega) (by omega) (by omega))]
  simp [mkFl]
theorem add_fl (xs ys : List D) (h : xs.length + ys.length ≤ 10 ^ 6) (S : Sto) : dAdd (.fl xs) (.fl ys) S = .ok (.fl (xs ++ ys)) S := by
  show ifp (xs.length + ys.length ≤ sizeLine) (R.ok (D.fl (xs ++ ys)) S) .stuck = _
  exact ifp_pos (Nat.le_trans h (by decide))
theorem rot_range (l : List Int) (p : Nat) (hp : p < l.length) : (List.range l.length).map (fun k => (l[(p + k) % l.length]?).getD 0) = rot l p := by
  apply List.ext_getElem?
  intro k
  rw [List.getElem?_map]
  by_cases hk : k < l.length
  · rw [List.getElem?_range hk, Option.map_some, rot_get l p k (by omega) hk]
    rw [List.getElem?_eq_getElem (Nat.mod_lt _ (by omega))]; rfl
  · rw [List.getElem?_eq_none (by simpa using hk), List.getElem?_eq_none (by rw [rot_length l p (by omega)]; omega)]; rfl
theorem ti_ix (l : List Int) (i : Int) (h0 : 0 ≤ i) (h1 : i < l.length) (S : Sto) : dIx (ti l) (.int i) S = .ok (.int ((l[i.toNat]?).getD 0)) S := by
  refine dIx_tup ?_
  rw [atI_nn h0 (by simpa using h1), List.getElem?_map, List.getElem?_eq_getElem (by omega)]
  rfl
/-! ### the frame of most laws -/
theorem law_std {m N cost : Nat} {L : Ev → Sto → SR} (I : Option D → Ev → Prop) (hm : 2 ≤ m) (hN : (N : Int) < 2 ^ 62) (h0 : ∀ sc, I sc (sc :: some (.loc 1) :: List.replicate (m - 2) none)) (hc : N * cost < 2 ^ 60)
    (step : ∀ sc d ρ S n, I sc ρ → Strm S n [] → n + cost < 2 ^ 60 → ∃ ρ2 S2, L (ρ.set 2 (some d)) S = .nx ρ2 S2 ∧ I sc ρ2 ∧ Strm S2 (n + cost) []) :
    LawOk (fnC close m 1 (sSeq (sSet 1 (eCall F__law_stream (aCons (eVar 0) aNil))) (sSeq (sFor (iRange1 (aCons (eC (.int N)) aNil)) (tN 2) L sNil) (sRet (eC (.bl true)))))) := law_by fun ns hl _ => by
  obtain ⟨S0, h1, s0⟩ := stream_ok hl
  obtain ⟨ρ', S', _, _, hf⟩ := forD_strm (T := tN 2) (B := L) (Z := sNil) (rest := []) (I (some (.kl (ns.map D.int)))) cost (rangeD 0 N) (some (.kl (ns.map D.int)) :: some (.loc 1) :: List.replicate (m - 2) none) S0 0 (h0 _) s0 (by rw [rangeD_len]; omega) (by
    intro d hd ρ S n hI hS hn
    obtain ⟨ρ2, S2, e, i2, s2⟩ := step _ d ρ S n hI hS hn
    exact ⟨_, ρ2, S2, rfl, .inl e, i2, s2⟩)
  refine ⟨S', ?_⟩
  have hst : startD m [D.kl (ns.map D.int)] = some (.kl (ns.map D.int)) :: none :: List.replicate (m - 2) none := by
    obtain ⟨k, rfl⟩ : ∃ k, m = k + 2 := ⟨m - 2, by omega⟩
    simp [startD, List.replicate_succ]
  rw [hst]
  have hr : ((-(2 ^ 62) : Int) ≤ (N : Int) ∧ (N : Int) < 2 ^ 62) = True := by simp; omega
  simp only [eVar, eC, eOp, eT, eAnd, eOr, eNot, eIf, eAndV, eOrV, eNotV, eCall, aNil, aCons, aStar, sOf, eTup, eFl, eLoc, eSl, oNone, oSome, iOf, eNeg, eChain, eMt, bOf, eDict0, eRev, eListRg, iZipD, sRaise1, sRaise0, eCallV, List.lookup, R.bind_ok, R.bind_er, R.bind_stuck, R.toS_ok, R.toS_er, R.toS_stuck, SR.next_nx, SR.next_rt, SR.next_er, SR.next_bk, SR.next_ct, SR.next_stuck, sNil, sSeq, sBrk, sCnt, sExp, sRet, sRetN, sIf, sSet, sAsg, sAug, sPar2, sPar3, tN, DL.tTup, DL.tNil, DL.tCons, DL.tSub, iSeq, srcOf_tup, srcOf_fl, srcOf_kl, srcOf_ti, iRange1, iRange2, sFor, startD, List.map_cons, List.map_nil, List.length_cons, List.length_nil, List.replicate, List.cons_append, List.nil_append, List.getElem?_cons_zero, List.getElem?_cons_succ, List.set_cons_zero, List.set_cons_succ, dSub_int, dFdiv_int, dMod_int, dLt_int, dLe_int, dGt_int, dGe_int, dAddI_int, dSubI_int, dIsN_non, isN, dAdd_int, ll0, ll1, ll2, ll3, ll4, ll5, ll6, ll7, ll8, ll9, ll10, ll11, ll12, ll13, ll14, ll15, ll16, ll17, ll18, ll19, ll20, ll21, ll22, ll23, ll24, ll25, ll26, ll27, ll28, ll29, ll30, ll31, ll32, ll33, ll34, ll35, ll36, ll37, ll38, ll39, ll40, Nat.reduceSub, Nat.reduceAdd, Nat.reduceEqDiff, if_true, if_false, ifp_t, ifp_f, reduceIte, Bool.true_eq_false, Bool.false_eq_true, Option.map_some, Option.map_none, Option.bind_some, Option.bind_none, h1, hr, Int.toNat_natCast, hf]
theorem rangeD_cons (lo : Int) (n : Nat) : rangeD lo (n + 1) = .int lo :: rangeD (lo + 1) n := by
  unfold rangeD
  rw [List.range_succ_eq_map, List.map_cons, List.map_map]
  congr 1
  · simp
  · apply List.map_congr_left
    intro k _
    simp only [Function.comp_apply, Nat.succ_eq_add_one, Int.natCast_add, Int.natCast_one]
    congr 1
    omega
theorem vals_ok {l : List Int} (hl : l.length ≤ 10 ^ 6) {more : List D} (h : ∀ d ∈ more, Val d) : ∀ d ∈ rangeD 0 l.length ++ more, Val d := by
  intro d hd
  rcases List.mem_append.mp hd with hd | hd
  · exact val_range (by omega) (by omega) d hd
  · exact h d hd
theorem val_bl {b : Bool} : Val (.bl b) := ⟨rfl, shw_bl.mono (by omega) (by omega)⟩
theorem val_non : Val .non := ⟨rfl, shw_non.mono (by omega) (by omega)⟩
theorem shw_one {v : D} (h : Val v) : Shw 4 3 (.fl [v]) := shw_fl (ds := [v]) fun d hd => by rw [List.mem_singleton.mp hd]; exact h.shw
theorem shw_ring {l : List Int} (hr : ∀ t ∈ l, Arity t) (hl : l.length ≤ 24) : Shw 24 1 (ti l) := (shw_ti fun t ht => by have := hr t ht; unfold Arity at this; omega).mono (by omega) (by omega)
theorem repr_ring {l : List Int} (hr : ∀ t ∈ l, Arity t) (hl : l.length ≤ 24) (S : Sto) : bRepr [ti l] S = .ok (.str (shD (ti l))) S := repr_s (shw_ring hr hl) (by decide) (by decide) S
theorem sum_ar : ∀ {m : List Int}, (∀ t ∈ m, Arity t) → 0 ≤ m.sum ∧ m.sum ≤ 5 * m.length
  | [], _ => by simp
  | t :: m, h => by
    have h1 := sum_ar fun x hx => h x (List.mem_cons_of_mem _ hx)
    have h2 := h t List.mem_cons_self
    unfold Arity at h2
    simp
    omega
theorem hts_bound : ∀ {m : List Int} {h : Int}, (∀ t ∈ m, Arity t) → ∀ x ∈ hts h m, h - 5 * m.length ≤ x ∧ x ≤ h + m.length
  | [], h, _, x, hx => by simp [hts] at hx
  | t :: m, h, hr, x, hx => by
    have h2 := hr t List.mem_cons_self
    unfold Arity at h2
    rw [hts] at hx
    rcases List.mem_cons.mp hx with rfl | hx
    · simp; omega
    · have := hts_bound (m := m) (h := h + (1 - t)) (fun y hy => hr y (List.mem_cons_of_mem _ hy)) x hx
      simp; omega
theorem forD_ret {g : Sto → Prop} {T : Tg} {B Z : Ev → Sto → SR} {d d' : D} {ds : List D} {ρ ρ1 : Ev} {S S1 S2 : Sto} (h : g S) (hT : T d ρ S = some (ρ1, S1)) (hB : B ρ1 S1 = .rt d' S2) : forD g T B Z (d :: ds) ρ S = .rt d' S2 := by
  rw [forD, if_pos h, hT]; simp only [hB]
theorem ni_py (bs : List Nat) : pyL (ni bs) = some ((bs.map fun k : Nat => (k : Int)).map PyData.int) := by rw [ni_eq, pyL_ints]
theorem ne_nil (bs : List Nat) (S : Sto) : dEq true (.tup (ni bs)) (.tup []) S = .ok (.bl (!bs.isEmpty)) S := by
  have h1 : pyS S (.tup (ni bs)) = some (.tuple ((bs.map fun k : Nat => (k : Int)).map PyData.int)) := by
    show (pyL (ni bs)).map PyData.tuple = _
    rw [ni_py]; rfl
  have h2 : pyS S (.tup []) = some (.tuple []) := rfl
  show dEqP true (.tup (ni bs)) (.tup []) S = _
  rw [dEqP_py h1 h2 (shaped_intsT _) shaped_nilT]
  cases bs with
  | nil => rfl
  | cons b bs => simp [PyData.eqv, PyData.eqvAll]
theorem mem_cast (x : Nat) (bs : List Nat) : ((x : Int) ∈ bs.map fun k : Nat => (k : Int)) ↔ x ∈ bs := by
  rw [List.mem_map]
  constructor
  · rintro ⟨a, h, e⟩
    have : a = x := by omega
    rw [← this]; exact h
  · exact fun h => ⟨x, h, rfl⟩
theorem in_seq_ni (neg : Bool) (x : Nat) (bs : List Nat) {d : D} (S : Sto) (h : seqOf S d = some (ni bs)) : dIn neg (.int x) d S = .ok (.bl (if neg then !decide (x ∈ bs) else decide (x ∈ bs))) S := by
  have h1 : (seqOf S d).bind fVs = some ((bs.map fun k : Nat => (k : Int)).map V.int) := by
    rw [h]
    show fVs (ni bs) = _
    rw [ni_eq, fVs_ints]
  have e : dIn neg (.int x) d S = (match fV (.int x), (seqOf S d).bind fVs with
    | some x, some ys => R.ok (D.bl (if neg then !inV x ys else inV x ys)) S
    | _, _ => .stuck) := by
    cases d <;> rfl
  rw [e, h1]
  simp only [fV, inV_ints, mem_cast]
theorem in_fl_ni (neg : Bool) (x : Nat) (bs : List Nat) (S : Sto) : dIn neg (.int x) (.fl (ni bs)) S = .ok (.bl (if neg then !decide (x ∈ bs) else decide (x ∈ bs))) S := in_seq_ni neg x bs S rfl
theorem in_tup_ni (neg : Bool) (x : Nat) (bs : List Nat) (S : Sto) : dIn neg (.int x) (.tup (ni bs)) S = .ok (.bl (if neg then !decide (x ∈ bs) else decide (x ∈ bs))) S := in_seq_ni neg x bs S rfl
theorem mem_begs {l : List Int} {x : Nat} : x ∈ begs l ↔ x < l.length ∧ ne (rot l x) = 0 := by
  unfold begs
  rw [List.mem_filter, List.mem_range]
  simp
theorem atI_zero {α : Type} (x : α) (xs : List α) : atI (x :: xs) 0 = some x := by
  rw [atI_nn (by omega) (by simp)]; rfl
theorem law_pre {m N cost : Nat} {L pre : Ev → Sto → SR} (I : Option D → Ev → Prop) (hm : 2 ≤ m) (hN : (N : Int) < 2 ^ 62) (h0 : ∀ sc, I sc (sc :: some (.loc 1) :: List.replicate (m - 2) none)) (hc : N * cost < 2 ^ 60)
    (hp : ∀ sc S, pre (sc :: some (.loc 1) :: List.replicate (m - 2) none) S = .nx (sc :: some (.loc 1) :: List.replicate (m - 2) none) S)
    (step : ∀ sc d ρ S n, I sc ρ → Strm S n [] → n + cost < 2 ^ 60 → ∃ ρ2 S2, L (ρ.set 2 (some d)) S = .nx ρ2 S2 ∧ I sc ρ2 ∧ Strm S2 (n + cost) []) :
    LawOk (fnC close m 1 (sSeq (sSet 1 (eCall F__law_stream (aCons (eVar 0) aNil))) (sSeq pre (sSeq (sFor (iRange1 (aCons (eC (.int N)) aNil)) (tN 2) L sNil) (sRet (eC (.bl true))))))) := law_by fun ns hl _ => by
  obtain ⟨S0, h1, s0⟩ := stream_ok hl
  obtain ⟨ρ', S', _, _, hf⟩ := forD_strm (T := tN 2) (B := L) (Z := sNil) (rest := []) (I (some (.kl (ns.map D.int)))) cost (rangeD 0 N) (some (.kl (ns.map D.int)) :: some (.loc 1) :: List.replicate (m - 2) none) S0 0 (h0 _) s0 (by rw [rangeD_len]; omega) (by
    intro d hd ρ S n hI hS hn
    obtain ⟨ρ2, S2, e, i2, s2⟩ := step _ d ρ S n hI hS hn
    exact ⟨_, ρ2, S2, rfl, .inl e, i2, s2⟩)
  refine ⟨S', ?_⟩
  have hst : startD m [D.kl (ns.map D.int)] = some (.kl (ns.map D.int)) :: none :: List.replicate (m - 2) none := by
    obtain ⟨k, rfl⟩ : ∃ k, m = k + 2 := ⟨m - 2, by omega⟩
    simp [startD, List.replicate_succ]
  rw [hst]
  have hr : ((-(2 ^ 62) : Int) ≤ (N : Int) ∧ (N : Int) < 2 ^ 62) = True := by simp; omega
  simp only [eVar, eC, eOp, eT, eAnd, eOr, eNot, eIf, eAndV, eOrV, eNotV, eCall, aNil, aCons, aStar, sOf, eTup, eFl, eLoc, eSl, oNone, oSome, iOf, eNeg, eChain, eMt, bOf, eDict0, eRev, eListRg, iZipD, sRaise1, sRaise0, eCallV, List.lookup, R.bind_ok, R.bind_er, R.bind_stuck, R.toS_ok, R.toS_er, R.toS_stuck, SR.next_nx, SR.next_rt, SR.next_er, SR.next_bk, SR.next_ct, SR.next_stuck, sNil, sSeq, sBrk, sCnt, sExp, sRet, sRetN, sIf, sSet, sAsg, sAug, sPar2, sPar3, tN, DL.tTup, DL.tNil, DL.tCons, DL.tSub, iSeq, srcOf_tup, srcOf_fl, srcOf_kl, srcOf_ti, iRange1, iRange2, sFor, startD, List.map_cons, List.map_nil, List.length_cons, List.length_nil, List.replicate, List.cons_append, List.nil_append, List.getElem?_cons_zero, List.getElem?_cons_succ, List.set_cons_zero, List.set_cons_succ, dSub_int, dFdiv_int, dMod_int, dLt_int, dLe_int, dGt_int, dGe_int, dAddI_int, dSubI_int, dIsN_non, isN, dAdd_int, ll0, ll1, ll2, ll3, ll4, ll5, ll6, ll7, ll8, ll9, ll10, ll11, ll12, ll13, ll14, ll15, ll16, ll17, ll18, ll19, ll20, ll21, ll22, ll23, ll24, ll25, ll26, ll27, ll28, ll29, ll30, ll31, ll32, ll33, ll34, ll35, ll36, ll37, ll38, ll39, ll40, Nat.reduceSub, Nat.reduceAdd, Nat.reduceEqDiff, if_true, if_false, ifp_t, ifp_f, reduceIte, Bool.true_eq_false, Bool.false_eq_true, Option.map_some, Option.map_none, Option.bind_some, Option.bind_none, h1, hp, hr, Int.toNat_natCast, hf]
theorem rev_ti (l : List Int) (mk : List D → Sto → R D) (S : Sto) : dRev mk (ti l) S = .ok (ti l.reverse) S := by
  show R.ok (D.tup (l.map D.int).reverse) S = _
  rw [← List.map_reverse]; rfl
theorem ne_le : ∀ (l : List Int) (s : Int × Int), (∀ t ∈ l, Arity t) → (l.foldl stp s).2 ≤ max s.2 (1 - s.1 + 5 * l.length)
  | [], s, _ => by simp; omega
  | t :: l, s, h => by
    have h2 := h t List.mem_cons_self
    unfold Arity at h2
    have := ne_le l (stp s t) fun x hx => h x (List.mem_cons_of_mem _ hx)
    rw [List.foldl_cons]
    simp only [stp] at this
    simp
    simp only [stp]
    omega
theorem ne_bound {l : List Int} (h : ∀ t ∈ l, Arity t) : ne l ≤ 1 + 5 * l.length := by
  have := ne_le l (0, 0) h
  unfold ne
  simp at this
  omega
end DL

/-! Effects: pairs (needed, left). -/
namespace DL
open PySem PySem.Spec L2
open PyProof.Rows hiding St
def d_NOTHING : D := (.tup [(.int 0), (.int 0)])
noncomputable def B_join_two : Ev → Sto → SR :=
  (sSeq (sSet 2 (eOp dSub (eOp dIx (eVar 0) (eC (.int 1))) (eOp dIx (eVar 1) (eC (.int 0)))))
    (sRet (eTup (aCons (eOp dAdd (eOp dIx (eVar 0) (eC (.int 0))) (eCall bMax (aCons (eC (.int 0)) (aCons (eOp dSub (eC (.int 0)) (eVar 2)) aNil)))) (aCons (eOp dAdd (eOp dIx (eVar 1) (eC (.int 1))) (eCall bMax (aCons (eC (.int 0)) (aCons (eVar 2) aNil)))) aNil)))))
noncomputable def F_join_two : Fn := fnC close 3 2 B_join_two

noncomputable def L1_join_effects (ρ : Ev) (S : Sto) : SR :=
  (sSet 1 (eCall F_join_two (aCons (eVar 1) (aCons (eVar 2) aNil)))) ρ S
noncomputable def B_join_effects : Ev → Sto → SR :=
  (sSeq (sSet 1 (eC d_NOTHING))
    (sSeq (sFor (iSeq (eVar 0)) (tN 2) L1_join_effects sNil)
    (sRet (eVar 1))))
noncomputable def F_join_effects : Fn := fun ds S => ifp (ds.length ≤ sizeLine) (fnC close 3 1 B_join_effects [.tup ds] S) .stuck

noncomputable def B_repeat_effect : Ev → Sto → SR :=
  (sSeq (sIf (eT (eOp (dEq false) (eVar 1) (eC (.int 0)))) (sRet (eC d_NOTHING)) sNil)
    (sSeq (sAsg (eVar 0) (tTup 2 (tCons (tN 2) (tCons (tN 3) tNil))))
    (sSeq (sSet 4 (eOp dMulT (eOp dSub (eVar 1) (eC (.int 1))) (eOp dSub (eVar 3) (eVar 2))))
    (sRet (eIf (eT (eOp dGe (eVar 4) (eC (.int 0)))) (eTup (aCons (eVar 2) (aCons (eOp dAdd (eVar 3) (eVar 4)) aNil))) (eTup (aCons (eOp dSub (eVar 2) (eVar 4)) (aCons (eVar 3) aNil))))))))
noncomputable def F_repeat_effect : Fn := fnC close 5 2 B_repeat_effect

noncomputable def B__law_effect : Ev → Sto → SR :=
  (sSeq (sSet 1 (eCall F__law_pick (aCons (eVar 0) (aCons (eFl (aCons (eC (.int 3)) (aCons (eC (.int 9)) (aCons (eOp dPow (eC (.int 10)) (eC (.int 6))) (aCons (eOp dPow (eC (.int 10)) (eC (.int 30))) aNil))))) aNil))))
    (sRet (eTup (aCons (eCall F__law_draw (aCons (eVar 0) (aCons (eVar 1) aNil))) (aCons (eCall F__law_draw (aCons (eVar 0) (aCons (eVar 1) aNil))) aNil)))))
noncomputable def F__law_effect : Fn := fnC close 2 1 B__law_effect

noncomputable def E1_is_effect (ρ : Ev) (S : Sto) : R D :=
  (eAndV (eCall bIsi (aCons (eVar 1) (aCons (eC (.ty "int")) aNil))) (eAndV (eNotV (eCall bIsi (aCons (eVar 1) (aCons (eC (.ty "bool")) aNil)))) (eOp dGe (eVar 1) (eC (.int 0))))) ρ S
noncomputable def B_is_effect : Ev → Sto → SR :=
  (sSeq (sIf (eOr (eNot (eT (eCall bIsi (aCons (eVar 0) (aCons (eC (.ty "tuple")) aNil))))) (eT (eOp (dEq true) (eCall bLen (aCons (eVar 0) aNil)) (eC (.int 2))))) (sRet (eC (.bl false))) sNil)
    (sRet (eCall bAll (aCons (eLc finFl (iSeq (eVar 0)) (tN 1) [1] cYes E1_is_effect) aNil))))
noncomputable def F_is_effect : Fn := fnC close 2 1 B_is_effect

def jn (s e : Int × Int) : Int × Int := (s.1 + max 0 (e.1 - s.2), e.2 + max 0 (s.2 - e.1))
def rp (e : Int × Int) (n : Int) : Int × Int := if n = 0 then (0, 0) else if 0 ≤ (n - 1) * (e.2 - e.1) then (e.1, e.2 + (n - 1) * (e.2 - e.1)) else (e.1 - (n - 1) * (e.2 - e.1), e.2)
def Ok2 (e : Int × Int) : Prop := 0 ≤ e.1 ∧ 0 ≤ e.2
def dp (e : Int × Int) : D := .tup [.int e.1, .int e.2]
theorem jn_zero {e : Int × Int} (h : Ok2 e) : jn (0, 0) e = e := by
  obtain ⟨h1, h2⟩ := h
  unfold jn
  ext <;> simp <;> omega
theorem rp_pos {e : Int × Int} {n : Int} (hn : 0 < n) : rp e n = (if e.1 ≤ e.2 then (e.1, e.2 + (n - 1) * (e.2 - e.1)) else (e.1 + (n - 1) * (e.1 - e.2), e.2)) := by
  unfold rp
  rw [if_neg (by omega)]
  by_cases h : e.1 ≤ e.2
  · rw [if_pos h, if_pos (Int.mul_nonneg (by omega) (by omega))]
  · rw [if_neg h]
    by_cases h1 : n = 1
    · subst h1; simp
    · have : (n - 1) * (e.2 - e.1) < 0 := Int.mul_neg_of_pos_of_neg (by omega) (by omega)
      rw [if_neg (by omega)]
      have e1 : (n - 1) * (e.1 - e.2) = -((n - 1) * (e.2 - e.1)) := by rw [← Int.mul_neg]; congr 1; omega
      rw [e1]
      ext <;> simp <;> omega
theorem jn_rp {e : Int × Int} (h : Ok2 e) {m n : Int} (hm : 0 ≤ m) (hn : 0 ≤ n) : jn (rp e m) (rp e n) = rp e (m + n) := by
  obtain ⟨h1, h2⟩ := h
  by_cases m0 : m = 0
  · subst m0
    have e0 : rp e 0 = (0, 0) := by unfold rp; simp
    rw [e0, Int.zero_add]
    by_cases n0 : n = 0
    · subst n0; rw [e0]; rfl
    · refine jn_zero ?_
      rw [rp_pos (by omega)]
      have hp : 0 ≤ (n - 1) * (e.2 - e.1) ∨ e.2 < e.1 := by
        by_cases h : e.1 ≤ e.2
        · exact .inl (Int.mul_nonneg (by omega) (by omega))
        · exact .inr (by omega)
      have hq : 0 ≤ (n - 1) * (e.1 - e.2) ∨ e.1 ≤ e.2 := by
        by_cases h : e.1 ≤ e.2
        · exact .inr h
        · exact .inl (Int.mul_nonneg (by omega) (by omega))
      split
      · exact ⟨by simpa using h1, by simp; omega⟩
      · exact ⟨by simp; omega, by simpa using h2⟩
  · by_cases n0 : n = 0
    · subst n0
      have e0 : rp e 0 = (0, 0) := by unfold rp; simp
      rw [e0, Int.add_zero, rp_pos (by omega)]
      unfold jn
      by_cases h : e.1 ≤ e.2
      · have := Int.mul_nonneg (show (0 : Int) ≤ m - 1 by omega) (show (0 : Int) ≤ e.2 - e.1 by omega)
        rw [if_pos h]
        ext <;> simp <;> omega
      · rw [if_neg h]
        ext <;> simp <;> omega
    · rw [rp_pos (by omega), rp_pos (by omega), rp_pos (by omega)]
      unfold jn
      by_cases h : e.1 ≤ e.2
      · have a := Int.mul_nonneg (show (0 : Int) ≤ m - 1 by omega) (show (0 : Int) ≤ e.2 - e.1 by omega)
        have b := Int.mul_nonneg (show (0 : Int) ≤ n - 1 by omega) (show (0 : Int) ≤ e.2 - e.1 by omega)
        have c : (m + n - 1) * (e.2 - e.1) = (m - 1) * (e.2 - e.1) + (n - 1) * (e.2 - e.1) + (e.2 - e.1) := by
          have : m + n - 1 = (m - 1) + (n - 1) + 1 := by omega
          rw [this, Int.add_mul, Int.add_mul, Int.one_mul]
        rw [if_pos h, if_pos h, if_pos h, c]
        ext <;> simp <;> omega
      · have a := Int.mul_nonneg (show (0 : Int) ≤ m - 1 by omega) (show (0 : Int) ≤ e.1 - e.2 by omega)
        have b := Int.mul_nonneg (show (0 : Int) ≤ n - 1 by omega) (show (0 : Int) ≤ e.1 - e.2 by omega)
        have c : (m + n - 1) * (e.1 - e.2) = (m - 1) * (e.1 - e.2) + (n - 1) * (e.1 - e.2) + (e.1 - e.2) := by
          have : m + n - 1 = (m - 1) + (n - 1) + 1 := by omega
          rw [this, Int.add_mul, Int.add_mul, Int.one_mul]
        rw [if_neg h, if_neg h, if_neg h, c]
        ext <;> simp <;> omega
theorem rp_one (e : Int × Int) : rp e 1 = e := by unfold rp; simp
theorem jn_rep {e : Int × Int} (h : Ok2 e) (n : Nat) : (List.replicate n e).foldl jn (0, 0) = rp e n := by
  induction n with
  | zero => simp [rp]
  | succ n ih =>
    rw [List.replicate_succ', List.foldl_append, ih]
    show jn (rp e n) e = _
    conv => lhs; rw [← rp_one e]
    have : jn (rp (rp e 1) n) (rp e 1) = rp e ((n : Int) + 1) := by
      rw [rp_one]
      have := jn_rp h (m := n) (n := 1) (by omega) (by omega)
      rw [rp_one] at this
      exact this
    rw [this]; simp
theorem dp_rok {e : Int × Int} (h1 : e.1.natAbs < 2 ^ 200) (h2 : e.2.natAbs < 2 ^ 200) : rok (dp e) = true := by
  have a : rok (.int e.1) = true := rok_int 200 h1 (by decide) (by decide)
  have b : rok (.int e.2) = true := rok_int 200 h2 (by decide) (by decide)
  simp only [dp, rok, rokL] at a b ⊢
  simp only [a, b, Bool.and_self]
theorem repr_dp {e : Int × Int} (h1 : e.1.natAbs < 2 ^ 200) (h2 : e.2.natAbs < 2 ^ 200) (S : Sto) : bRepr [dp e] S = .ok (.str (shD (dp e))) S := repr_d (dp_rok h1 h2) (by simp [dp, bulkD, bulkL]) (by simp [dp, depD, depL]) S
theorem rp_small {e : Int × Int} (h : Ok2 e) (h1 : e.1 < 10 ^ 30) (h2 : e.2 < 10 ^ 30) {n : Int} (n0 : 0 ≤ n) (n1 : n ≤ 10 ^ 12) : (rp e n).1.natAbs < 2 ^ 200 ∧ (rp e n).2.natAbs < 2 ^ 200 := by
  obtain ⟨a, b⟩ := h
  by_cases hn : n = 0
  · subst hn
    simp [rp]
  · rw [rp_pos (by omega)]
    have big : (10 : Int) ^ 30 + 10 ^ 12 * 10 ^ 30 < 2 ^ 200 := by decide
    split
    · have c : (n - 1) * (e.2 - e.1) ≤ 10 ^ 12 * 10 ^ 30 := Int.mul_le_mul (by omega) (by omega) (by omega) (by decide)
      have d := Int.mul_nonneg (show (0 : Int) ≤ n - 1 by omega) (show (0 : Int) ≤ e.2 - e.1 by omega)
      constructor
      · show e.1.natAbs < _
        omega
      · show (e.2 + (n - 1) * (e.2 - e.1)).natAbs < _
        omega
    · have c : (n - 1) * (e.1 - e.2) ≤ 10 ^ 12 * 10 ^ 30 := Int.mul_le_mul (by omega) (by omega) (by omega) (by decide)
      have d := Int.mul_nonneg (show (0 : Int) ≤ n - 1 by omega) (show (0 : Int) ≤ e.1 - e.2 by omega)
      constructor
      · show (e.1 + (n - 1) * (e.1 - e.2)).natAbs < _
        omega
      · show e.2.natAbs < _
        omega
theorem rp_ok {e : Int × Int} (h : Ok2 e) {n : Int} (n0 : 0 ≤ n) : Ok2 (rp e n) := by
  have := jn_rp h (m := 0) (n := n) (by omega) n0
  rw [Int.zero_add] at this
  by_cases hn : n = 0
  · subst hn; exact ⟨by simp [rp], by simp [rp]⟩
  · rw [rp_pos (by omega)]
    obtain ⟨a, b⟩ := h
    split
    · have d := Int.mul_nonneg (show (0 : Int) ≤ n - 1 by omega) (show (0 : Int) ≤ e.2 - e.1 by omega)
      exact ⟨a, by show 0 ≤ e.2 + (n - 1) * (e.2 - e.1); omega⟩
    · have d := Int.mul_nonneg (show (0 : Int) ≤ n - 1 by omega) (show (0 : Int) ≤ e.1 - e.2 by omega)
      exact ⟨by show 0 ≤ e.1 + (n - 1) * (e.1 - e.2); omega, b⟩
theorem repeat_ok (e : Int × Int) {n : Int} (h0 : 0 ≤ n) (h1 : n < 2 ^ 62) (S : Sto) : F_repeat_effect [dp e, .int n] S = .ok (dp (rp e n)) S := by
  refine fnC_rt rfl ?_ rfl
  unfold B_repeat_effect
  have hm : ∀ S, dMulT (.int (n - 1)) (.int (e.2 - e.1)) S = .ok (.int ((n - 1) * (e.2 - e.1))) S := fun S => mul_small (by omega) S
  by_cases hn : n = 0
  · subst hn
    simp only [eVar, eC, eOp, eT, eAnd, eOr, eNot, eIf, eAndV, eOrV, eNotV, eCall, aNil, aCons, aStar, sOf, eTup, eFl, eLoc, eSl, oNone, oSome, iOf, eNeg, eChain, eMt, bOf, eDict0, eRev, eListRg, iZipD, sRaise1, sRaise0, eCallV, List.lookup, R.bind_ok, R.bind_er, R.bind_stuck, R.toS_ok, R.toS_er, R.toS_stuck, SR.next_nx, SR.next_rt, SR.next_er, SR.next_bk, SR.next_ct, SR.next_stuck, sNil, sSeq, sBrk, sCnt, sExp, sRet, sRetN, sIf, sSet, sAsg, sAug, sPar2, sPar3, tN, DL.tTup, DL.tNil, DL.tCons, DL.tSub, iSeq, srcOf_tup, srcOf_fl, srcOf_kl, srcOf_ti, iRange1, iRange2, sFor, startD, List.map_cons, List.map_nil, List.length_cons, List.length_nil, List.replicate, List.cons_append, List.nil_append, List.getElem?_cons_zero, List.getElem?_cons_succ, List.set_cons_zero, List.set_cons_succ, dSub_int, dFdiv_int, dMod_int, dLt_int, dLe_int, dGt_int, dGe_int, dAddI_int, dSubI_int, dIsN_non, isN, dAdd_int, ll0, ll1, ll2, ll3, ll4, ll5, ll6, ll7, ll8, ll9, ll10, ll11, ll12, ll13, ll14, ll15, ll16, ll17, ll18, ll19, ll20, ll21, ll22, ll23, ll24, ll25, ll26, ll27, ll28, ll29, ll30, ll31, ll32, ll33, ll34, ll35, ll36, ll37, ll38, ll39, ll40, Nat.reduceSub, Nat.reduceAdd, Nat.reduceEqDiff, if_true, if_false, ifp_t, ifp_f, reduceIte, Bool.true_eq_false, Bool.false_eq_true, Option.map_some, Option.map_none, Option.bind_some, Option.bind_none, dp, dEq_int, BEq.rfl]
    rfl
  · have hb : (n == 0) = false := by simpa using hn
    by_cases hg : 0 ≤ (n - 1) * (e.2 - e.1)
    · simp only [eVar, eC, eOp, eT, eAnd, eOr, eNot, eIf, eAndV, eOrV, eNotV, eCall, aNil, aCons, aStar, sOf, eTup, eFl, eLoc, eSl, oNone, oSome, iOf, eNeg, eChain, eMt, bOf, eDict0, eRev, eListRg, iZipD, sRaise1, sRaise0, eCallV, List.lookup, R.bind_ok, R.bind_er, R.bind_stuck, R.toS_ok, R.toS_er, R.toS_stuck, SR.next_nx, SR.next_rt, SR.next_er, SR.next_bk, SR.next_ct, SR.next_stuck, sNil, sSeq, sBrk, sCnt, sExp, sRet, sRetN, sIf, sSet, sAsg, sAug, sPar2, sPar3, tN, DL.tTup, DL.tNil, DL.tCons, DL.tSub, iSeq, srcOf_tup, srcOf_fl, srcOf_kl, srcOf_ti, iRange1, iRange2, sFor, startD, List.map_cons, List.map_nil, List.length_cons, List.length_nil, List.replicate, List.cons_append, List.nil_append, List.getElem?_cons_zero, List.getElem?_cons_succ, List.set_cons_zero, List.set_cons_succ, dSub_int, dFdiv_int, dMod_int, dLt_int, dLe_int, dGt_int, dGe_int, dAddI_int, dSubI_int, dIsN_non, isN, dAdd_int, ll0, ll1, ll2, ll3, ll4, ll5, ll6, ll7, ll8, ll9, ll10, ll11, ll12, ll13, ll14, ll15, ll16, ll17, ll18, ll19, ll20, ll21, ll22, ll23, ll24, ll25, ll26, ll27, ll28, ll29, ll30, ll31, ll32, ll33, ll34, ll35, ll36, ll37, ll38, ll39, ll40, Nat.reduceSub, Nat.reduceAdd, Nat.reduceEqDiff, if_true, if_false, ifp_t, ifp_f, reduceIte, Bool.true_eq_false, Bool.false_eq_true, Option.map_some, Option.map_none, Option.bind_some, Option.bind_none, dp, dEq_int, hb, hm, hg, decide_true]
      simp only [rp, if_neg hn, if_pos hg]
    · simp only [eVar, eC, eOp, eT, eAnd, eOr, eNot, eIf, eAndV, eOrV, eNotV, eCall, aNil, aCons, aStar, sOf, eTup, eFl, eLoc, eSl, oNone, oSome, iOf, eNeg, eChain, eMt, bOf, eDict0, eRev, eListRg, iZipD, sRaise1, sRaise0, eCallV, List.lookup, R.bind_ok, R.bind_er, R.bind_stuck, R.toS_ok, R.toS_er, R.toS_stuck, SR.next_nx, SR.next_rt, SR.next_er, SR.next_bk, SR.next_ct, SR.next_stuck, sNil, sSeq, sBrk, sCnt, sExp, sRet, sRetN, sIf, sSet, sAsg, sAug, sPar2, sPar3, tN, DL.tTup, DL.tNil, DL.tCons, DL.tSub, iSeq, srcOf_tup, srcOf_fl, srcOf_kl, srcOf_ti, iRange1, iRange2, sFor, startD, List.map_cons, List.map_nil, List.length_cons, List.length_nil, List.replicate, List.cons_append, List.nil_append, List.getElem?_cons_zero, List.getElem?_cons_succ, List.set_cons_zero, List.set_cons_succ, dSub_int, dFdiv_int, dMod_int, dLt_int, dLe_int, dGt_int, dGe_int, dAddI_int, dSubI_int, dIsN_non, isN, dAdd_int, ll0, ll1, ll2, ll3, ll4, ll5, ll6, ll7, ll8, ll9, ll10, ll11, ll12, ll13, ll14, ll15, ll16, ll17, ll18, ll19, ll20, ll21, ll22, ll23, ll24, ll25, ll26, ll27, ll28, ll29, ll30, ll31, ll32, ll33, ll34, ll35, ll36, ll37, ll38, ll39, ll40, Nat.reduceSub, Nat.reduceAdd, Nat.reduceEqDiff, if_true, if_false, ifp_t, ifp_f, reduceIte, Bool.true_eq_false, Bool.false_eq_true, Option.map_some, Option.map_none, Option.bind_some, Option.bind_none, dp, dEq_int, hb, hm, hg, decide_false]
      simp only [rp, if_neg hn, if_neg hg]
theorem eff_draw {S : Sto} {n : Nat} {rest : Sto} (h : Strm S n rest) (hn : n + 3 < 2 ^ 60) : ∃ e S', F__law_effect [.loc 1] S = .ok (dp e) S' ∧ Ok2 e ∧ e.1 < 10 ^ 30 ∧ e.2 < 10 ^ 30 ∧ Strm S' (n + 3) rest := by
  obtain ⟨m, S1, h1, h2, h3⟩ := pick_fl h (xs := [.int 3, .int 9, .int (10 ^ 6), .int (10 ^ 30)]) (by simp) (by simp) (by omega)
  have hm : ∃ k : Int, m = .int k ∧ 0 < k ∧ k ≤ 10 ^ 30 := by
    simp only [List.mem_cons, List.not_mem_nil, or_false] at h2
    rcases h2 with rfl | rfl | rfl | rfl
    · exact ⟨3, rfl, by decide, by decide⟩
    · exact ⟨9, rfl, by decide, by decide⟩
    · exact ⟨_, rfl, by decide, by decide⟩
    · exact ⟨_, rfl, by decide, by decide⟩
  obtain ⟨k, rfl, k0, k1⟩ := hm
  have kl : k.natAbs.log2 < 9000 := log2_small 200 (by
    have : (10 : Int) ^ 30 < 2 ^ 200 := by decide
    omega) (by decide) (by decide)
  obtain ⟨a, S2, a1, a2, a3, a4⟩ := draw_ok h3 k0 kl (by omega)
  obtain ⟨b, S3, b1, b2, b3, b4⟩ := draw_ok a4 k0 kl (by omega)
  refine ⟨(a, b), S3, ?_, ⟨a2, b2⟩, by show a < _; omega, by show b < _; omega, b4⟩
  refine fnC_rt rfl ?_ (by rw [h.len, b4.len])
  unfold B__law_effect
  have p1 : ∀ S, dPow (.int 10) (.int 6) S = .ok (.int (10 ^ 6)) S := fun S => dPow_ok (by decide) S
  have p2 : ∀ S, dPow (.int 10) (.int 30) S = .ok (.int (10 ^ 30)) S := fun S => dPow_ok (by decide) S
  simp only [eVar, eC, eOp, eT, eAnd, eOr, eNot, eIf, eAndV, eOrV, eNotV, eCall, aNil, aCons, aStar, sOf, eTup, eFl, eLoc, eSl, oNone, oSome, iOf, eNeg, eChain, eMt, bOf, eDict0, eRev, eListRg, iZipD, sRaise1, sRaise0, eCallV, List.lookup, R.bind_ok, R.bind_er, R.bind_stuck, R.toS_ok, R.toS_er, R.toS_stuck, SR.next_nx, SR.next_rt, SR.next_er, SR.next_bk, SR.next_ct, SR.next_stuck, sNil, sSeq, sBrk, sCnt, sExp, sRet, sRetN, sIf, sSet, sAsg, sAug, sPar2, sPar3, tN, DL.tTup, DL.tNil, DL.tCons, DL.tSub, iSeq, srcOf_tup, srcOf_fl, srcOf_kl, srcOf_ti, iRange1, iRange2, sFor, startD, List.map_cons, List.map_nil, List.length_cons, List.length_nil, List.replicate, List.cons_append, List.nil_append, List.getElem?_cons_zero, List.getElem?_cons_succ, List.set_cons_zero, List.set_cons_succ, dSub_int, dFdiv_int, dMod_int, dLt_int, dLe_int, dGt_int, dGe_int, dAddI_int, dSubI_int, dIsN_non, isN, dAdd_int, ll0, ll1, ll2, ll3, ll4, ll5, ll6, ll7, ll8, ll9, ll10, ll11, ll12, ll13, ll14, ll15, ll16, ll17, ll18, ll19, ll20, ll21, ll22, ll23, ll24, ll25, ll26, ll27, ll28, ll29, ll30, ll31, ll32, ll33, ll34, ll35, ll36, ll37, ll38, ll39, ll40, Nat.reduceSub, Nat.reduceAdd, Nat.reduceEqDiff, if_true, if_false, ifp_t, ifp_f, reduceIte, Bool.true_eq_false, Bool.false_eq_true, Option.map_some, Option.map_none, Option.bind_some, Option.bind_none, p1, p2, h1, a1, b1, dp]
theorem join_two_ok (s e : Int × Int) (S : Sto) : F_join_two [dp s, dp e] S = .ok (dp (jn s e)) S := by
  refine fnC_rt rfl ?_ rfl
  unfold B_join_two
  have i0 : ∀ (x : Int × Int) S, dIx (dp x) (.int 0) S = .ok (.int x.1) S := fun x S => rfl
  have i1 : ∀ (x : Int × Int) S, dIx (dp x) (.int 1) S = .ok (.int x.2) S := fun x S => rfl
  simp only [eVar, eC, eOp, eT, eAnd, eOr, eNot, eIf, eAndV, eOrV, eNotV, eCall, aNil, aCons, aStar, sOf, eTup, eFl, eLoc, eSl, oNone, oSome, iOf, eNeg, eChain, eMt, bOf, eDict0, eRev, eListRg, iZipD, sRaise1, sRaise0, eCallV, List.lookup, R.bind_ok, R.bind_er, R.bind_stuck, R.toS_ok, R.toS_er, R.toS_stuck, SR.next_nx, SR.next_rt, SR.next_er, SR.next_bk, SR.next_ct, SR.next_stuck, sNil, sSeq, sBrk, sCnt, sExp, sRet, sRetN, sIf, sSet, sAsg, sAug, sPar2, sPar3, tN, DL.tTup, DL.tNil, DL.tCons, DL.tSub, iSeq, srcOf_tup, srcOf_fl, srcOf_kl, srcOf_ti, iRange1, iRange2, sFor, startD, List.map_cons, List.map_nil, List.length_cons, List.length_nil, List.replicate, List.cons_append, List.nil_append, List.getElem?_cons_zero, List.getElem?_cons_succ, List.set_cons_zero, List.set_cons_succ, dSub_int, dFdiv_int, dMod_int, dLt_int, dLe_int, dGt_int, dGe_int, dAddI_int, dSubI_int, dIsN_non, isN, dAdd_int, ll0, ll1, ll2, ll3, ll4, ll5, ll6, ll7, ll8, ll9, ll10, ll11, ll12, ll13, ll14, ll15, ll16, ll17, ll18, ll19, ll20, ll21, ll22, ll23, ll24, ll25, ll26, ll27, ll28, ll29, ll30, ll31, ll32, ll33, ll34, ll35, ll36, ll37, ll38, ll39, ll40, Nat.reduceSub, Nat.reduceAdd, Nat.reduceEqDiff, if_true, if_false, ifp_t, ifp_f, reduceIte, Bool.true_eq_false, Bool.false_eq_true, Option.map_some, Option.map_none, Option.bind_some, Option.bind_none, i0, i1, bMax_two]
  unfold jn dp
  have e1 : max 0 (0 - (s.2 - e.1)) = max 0 (e.1 - s.2) := by omega
  rw [e1]
theorem join_loop (e0 : Option D) : ∀ (es : List (Int × Int)) (s : Int × Int) (x2 : Option D) (S : Sto), ∃ y2, forD yes (tN 2) L1_join_effects sNil (es.map dp) [e0, some (dp s), x2] S = .nx [e0, some (dp (es.foldl jn s)), y2] S
  | [], s, x2, S => ⟨x2, forD_nil trivial⟩
  | e :: es, s, x2, S => by
    obtain ⟨y2, h⟩ := join_loop e0 es (jn s e) (some (dp e)) S
    refine ⟨y2, ?_⟩
    rw [List.map_cons, forD_cons (ρ1 := [e0, some (dp s), some (dp e)]) (S1 := S) (ρ2 := [e0, some (dp (jn s e)), some (dp e)]) (S2 := S) trivial rfl ?_]
    · exact h
    · simp only [eVar, eC, eOp, eT, eAnd, eOr, eNot, eIf, eAndV, eOrV, eNotV, eCall, aNil, aCons, aStar, sOf, eTup, eFl, eLoc, eSl, oNone, oSome, iOf, eNeg, eChain, eMt, bOf, eDict0, eRev, eListRg, iZipD, sRaise1, sRaise0, eCallV, List.lookup, R.bind_ok, R.bind_er, R.bind_stuck, R.toS_ok, R.toS_er, R.toS_stuck, SR.next_nx, SR.next_rt, SR.next_er, SR.next_bk, SR.next_ct, SR.next_stuck, sNil, sSeq, sBrk, sCnt, sExp, sRet, sRetN, sIf, sSet, sAsg, sAug, sPar2, sPar3, tN, DL.tTup, DL.tNil, DL.tCons, DL.tSub, iSeq, srcOf_tup, srcOf_fl, srcOf_kl, srcOf_ti, iRange1, iRange2, sFor, startD, List.map_cons, List.map_nil, List.length_cons, List.length_nil, List.replicate, List.cons_append, List.nil_append, List.getElem?_cons_zero, List.getElem?_cons_succ, List.set_cons_zero, List.set_cons_succ, dSub_int, dFdiv_int, dMod_int, dLt_int, dLe_int, dGt_int, dGe_int, dAddI_int, dSubI_int, dIsN_non, isN, dAdd_int, ll0, ll1, ll2, ll3, ll4, ll5, ll6, ll7, ll8, ll9, ll10, ll11, ll12, ll13, ll14, ll15, ll16, ll17, ll18, ll19, ll20, ll21, ll22, ll23, ll24, ll25, ll26, ll27, ll28, ll29, ll30, ll31, ll32, ll33, ll34, ll35, ll36, ll37, ll38, ll39, ll40, Nat.reduceSub, Nat.reduceAdd, Nat.reduceEqDiff, if_true, if_false, ifp_t, ifp_f, reduceIte, Bool.true_eq_false, Bool.false_eq_true, Option.map_some, Option.map_none, Option.bind_some, Option.bind_none, L1_join_effects, join_two_ok]
theorem join_ok (es : List (Int × Int)) (hl : es.length ≤ 40) (S : Sto) : F_join_effects (es.map dp) S = .ok (dp (es.foldl jn (0, 0))) S := by
  unfold F_join_effects
  rw [ifp_pos (by rw [List.length_map]; exact Nat.le_trans hl (by decide))]
  obtain ⟨y2, h⟩ := join_loop (some (.tup (es.map dp))) es (0, 0) none S
  refine fnC_rt rfl ?_ rfl
  unfold B_join_effects
  have e0 : d_NOTHING = dp (0, 0) := rfl
  simp only [eVar, eC, eOp, eT, eAnd, eOr, eNot, eIf, eAndV, eOrV, eNotV, eCall, aNil, aCons, aStar, sOf, eTup, eFl, eLoc, eSl, oNone, oSome, iOf, eNeg, eChain, eMt, bOf, eDict0, eRev, eListRg, iZipD, sRaise1, sRaise0, eCallV, List.lookup, R.bind_ok, R.bind_er, R.bind_stuck, R.toS_ok, R.toS_er, R.toS_stuck, SR.next_nx, SR.next_rt, SR.next_er, SR.next_bk, SR.next_ct, SR.next_stuck, sNil, sSeq, sBrk, sCnt, sExp, sRet, sRetN, sIf, sSet, sAsg, sAug, sPar2, sPar3, tN, DL.tTup, DL.tNil, DL.tCons, DL.tSub, iSeq, srcOf_tup, srcOf_fl, srcOf_kl, srcOf_ti, iRange1, iRange2, sFor, startD, List.map_cons, List.map_nil, List.length_cons, List.length_nil, List.replicate, List.cons_append, List.nil_append, List.getElem?_cons_zero, List.getElem?_cons_succ, List.set_cons_zero, List.set_cons_succ, dSub_int, dFdiv_int, dMod_int, dLt_int, dLe_int, dGt_int, dGe_int, dAddI_int, dSubI_int, dIsN_non, isN, dAdd_int, ll0, ll1, ll2, ll3, ll4, ll5, ll6, ll7, ll8, ll9, ll10, ll11, ll12, ll13, ll14, ll15, ll16, ll17, ll18, ll19, ll20, ll21, ll22, ll23, ll24, ll25, ll26, ll27, ll28, ll29, ll30, ll31, ll32, ll33, ll34, ll35, ll36, ll37, ll38, ll39, ll40, Nat.reduceSub, Nat.reduceAdd, Nat.reduceEqDiff, if_true, if_false, ifp_t, ifp_f, reduceIte, Bool.true_eq_false, Bool.false_eq_true, Option.map_some, Option.map_none, Option.bind_some, Option.bind_none, e0, h]
def Ge (e : Int × Int) : Prop := Ok2 e ∧ e.1 < 10 ^ 30 ∧ e.2 < 10 ^ 30
theorem pairs_of : ∀ {ys : List D}, (∀ y ∈ ys, ∃ e, y = dp e ∧ Ge e) → ∃ es : List (Int × Int), ys = es.map dp ∧ ∀ e ∈ es, Ge e
  | [], _ => ⟨[], rfl, by simp⟩
  | y :: ys, h => by
    obtain ⟨e, rfl, he⟩ := h y List.mem_cons_self
    obtain ⟨es, rfl, hes⟩ := pairs_of fun z hz => h z (List.mem_cons_of_mem _ hz)
    exact ⟨e :: es, rfl, fun x hx => by
      rcases List.mem_cons.mp hx with rfl | hx
      · exact he
      · exact hes x hx⟩
theorem fold_small : ∀ (es : List (Int × Int)) (s : Int × Int) (b : Int), (∀ e ∈ es, Ge e) → 0 ≤ s.1 → 0 ≤ s.2 → s.1 ≤ b → s.2 ≤ b → 0 ≤ (es.foldl jn s).1 ∧ 0 ≤ (es.foldl jn s).2 ∧ (es.foldl jn s).1 ≤ b + es.length * 10 ^ 30 ∧ (es.foldl jn s).2 ≤ b + es.length * 10 ^ 30
  | [], s, b, _, h1, h2, h3, h4 => by simp; omega
  | e :: es, s, b, h, h1, h2, h3, h4 => by
    obtain ⟨⟨a0, b0⟩, a1, b1⟩ := h e List.mem_cons_self
    have := fold_small es (jn s e) (b + 10 ^ 30) (fun x hx => h x (List.mem_cons_of_mem _ hx)) (by unfold jn; simp; omega) (by unfold jn; simp; omega) (by unfold jn; simp; omega) (by unfold jn; simp; omega)
    simp only [List.foldl_cons, List.length_cons]
    omega
theorem rokL_dps : ∀ (es : List (Int × Int)), (∀ e ∈ es, Ge e) → rokL (es.map dp) = true
  | [], _ => rfl
  | e :: es, h => by
    obtain ⟨⟨a0, b0⟩, a1, b1⟩ := h e List.mem_cons_self
    have big : (10 : Int) ^ 30 < 2 ^ 200 := by decide
    rw [List.map_cons, rokL, dp_rok (by omega) (by omega), rokL_dps es fun x hx => h x (List.mem_cons_of_mem _ hx)]; rfl
theorem bulk_dps : ∀ (es : List (Int × Int)), bulkL (es.map dp) = 3 * es.length
  | [] => rfl
  | e :: es => by
    rw [List.map_cons, bulkL, bulk_dps es]
    simp [dp, bulkD, bulkL]; omega
theorem dep_dps : ∀ (es : List (Int × Int)), depL (es.map dp) ≤ 1
  | [] => by simp [depL]
  | e :: es => by
    have := dep_dps es
    rw [List.map_cons, depL]
    simp [dp, depD, depL]; omega
theorem repr_dps {es : List (Int × Int)} (h : ∀ e ∈ es, Ge e) (hl : es.length ≤ 5) (S : Sto) : bRepr [.fl (es.map dp)] S = .ok (.str (shD (.fl (es.map dp)))) S := by
  refine repr_d ?_ ?_ ?_ S
  · rw [rok]; exact rokL_dps es h
  · rw [bulkD, bulk_dps]; omega
  · have := dep_dps es
    rw [depD]; omega
/-! ### whole numbers, and what is an effect -/
theorem shw_text (x : String) : Shw x.length 0 (.str x) := by
  have e : ∀ x : String, (Str.ofString x).cps.toList = x.toList.map Char.toNat := fun x => by
    rw [PySem.Str.ofString_eq_byList]; rfl
  refine ⟨?_, ?_, by simp [depD]⟩
  · show ((Str.ofString x).cps.toList.all fun c => decide (c < 16 ^ 8)) = true
    rw [e]
    rw [List.all_eq_true]
    intro c hc
    obtain ⟨d, _, rfl⟩ := List.mem_map.mp hc
    rw [decide_eq_true_eq]
    exact d.val.toNat_lt
  · show (Str.ofString x).cps.size ≤ x.length
    rw [← Array.length_toList, e, List.length_map]
    exact Nat.le_of_eq (String.length_toList)
theorem str_int {i : Int} (h : i.natAbs < 2 ^ 1000) (S : Sto) : bStr [.int i] S = .ok (.str (toString i)) S := by
  unfold bStr
  exact ifp_pos (Nat.lt_of_lt_of_le (PySem.Flt.log2_lt_of (by decide) h) (by decide))
theorem shw_strI {i : Int} (h : i.natAbs < 2 ^ 1000) : Shw 1921 0 (.str (toString i)) := by
  refine (shw_text (toString i)).mono ?_ (Nat.le_refl _)
  have := shown_int_small (i := i) (Nat.lt_of_lt_of_le (PySem.Flt.log2_lt_of (by decide) h) (by decide))
  have e : (PyData.shown (.int i)).length = (toString i).length := PySem.ofString_length _
  omega
def wh (v : D) : Bool := match v with
  | .int i => decide (0 ≤ i)
  | _ => false
def isEff (v : D) : Bool := match v with
  | .tup [a, b] => wh a && wh b
  | _ => false
theorem dGe_i (i j : Int) (S : Sto) : dGe (.int i) (.int j) S = .ok (.bl (decide (i ≥ j))) S := rfl
theorem whole_ev {v : D} (h : pl v = true) (i : Nat) (ρ : Ev) (hv : ρ[i]? = some (some v)) (S : Sto) : (eAndV (eCall bIsi (aCons (eVar i) (aCons (eC (.ty "int")) aNil))) (eAndV (eNotV (eCall bIsi (aCons (eVar i) (aCons (eC (.ty "bool")) aNil)))) (eOp dGe (eVar i) (eC (.int 0))))) ρ S = .ok (.bl (wh v)) S := by

  cases v with
  | int i =>
    have h1 := isi_int (v := .int i) rfl S
    have h2 := isi_bool (v := .int i) rfl S
    by_cases h3 : 0 ≤ i
    · simp only [eVar, eC, eOp, eT, eAnd, eOr, eNot, eIf, eAndV, eOrV, eNotV, eCall, aNil, aCons, aStar, sOf, eTup, eFl, eLoc, eSl, oNone, oSome, iOf, eNeg, eChain, eMt, bOf, eDict0, eRev, eListRg, iZipD, sRaise1, sRaise0, eCallV, List.lookup, R.bind_ok, R.bind_er, R.bind_stuck, R.toS_ok, R.toS_er, R.toS_stuck, SR.next_nx, SR.next_rt, SR.next_er, SR.next_bk, SR.next_ct, SR.next_stuck, sNil, sSeq, sBrk, sCnt, sExp, sRet, sRetN, sIf, sSet, sAsg, sAug, sPar2, sPar3, tN, DL.tTup, DL.tNil, DL.tCons, DL.tSub, iSeq, srcOf_tup, srcOf_fl, srcOf_kl, srcOf_ti, iRange1, iRange2, sFor, startD, List.map_cons, List.map_nil, List.length_cons, List.length_nil, List.replicate, List.cons_append, List.nil_append, List.getElem?_cons_zero, List.getElem?_cons_succ, List.set_cons_zero, List.set_cons_succ, dSub_int, dFdiv_int, dMod_int, dLt_int, dLe_int, dGt_int, dGe_int, dAddI_int, dSubI_int, dIsN_non, isN, dAdd_int, ll0, ll1, ll2, ll3, ll4, ll5, ll6, ll7, ll8, ll9, ll10, ll11, ll12, ll13, ll14, ll15, ll16, ll17, ll18, ll19, ll20, ll21, ll22, ll23, ll24, ll25, ll26, ll27, ll28, ll29, ll30, ll31, ll32, ll33, ll34, ll35, ll36, ll37, ll38, ll39, ll40, Nat.reduceSub, Nat.reduceAdd, Nat.reduceEqDiff, if_true, if_false, ifp_t, ifp_f, reduceIte, Bool.true_eq_false, Bool.false_eq_true, Option.map_some, Option.map_none, Option.bind_some, Option.bind_none, hv, h1, h2, isInt0, isBl, h3, decide_true, Bool.not_false, wh]
    · simp only [eVar, eC, eOp, eT, eAnd, eOr, eNot, eIf, eAndV, eOrV, eNotV, eCall, aNil, aCons, aStar, sOf, eTup, eFl, eLoc, eSl, oNone, oSome, iOf, eNeg, eChain, eMt, bOf, eDict0, eRev, eListRg, iZipD, sRaise1, sRaise0, eCallV, List.lookup, R.bind_ok, R.bind_er, R.bind_stuck, R.toS_ok, R.toS_er, R.toS_stuck, SR.next_nx, SR.next_rt, SR.next_er, SR.next_bk, SR.next_ct, SR.next_stuck, sNil, sSeq, sBrk, sCnt, sExp, sRet, sRetN, sIf, sSet, sAsg, sAug, sPar2, sPar3, tN, DL.tTup, DL.tNil, DL.tCons, DL.tSub, iSeq, srcOf_tup, srcOf_fl, srcOf_kl, srcOf_ti, iRange1, iRange2, sFor, startD, List.map_cons, List.map_nil, List.length_cons, List.length_nil, List.replicate, List.cons_append, List.nil_append, List.getElem?_cons_zero, List.getElem?_cons_succ, List.set_cons_zero, List.set_cons_succ, dSub_int, dFdiv_int, dMod_int, dLt_int, dLe_int, dGt_int, dGe_int, dAddI_int, dSubI_int, dIsN_non, isN, dAdd_int, ll0, ll1, ll2, ll3, ll4, ll5, ll6, ll7, ll8, ll9, ll10, ll11, ll12, ll13, ll14, ll15, ll16, ll17, ll18, ll19, ll20, ll21, ll22, ll23, ll24, ll25, ll26, ll27, ll28, ll29, ll30, ll31, ll32, ll33, ll34, ll35, ll36, ll37, ll38, ll39, ll40, Nat.reduceSub, Nat.reduceAdd, Nat.reduceEqDiff, if_true, if_false, ifp_t, ifp_f, reduceIte, Bool.true_eq_false, Bool.false_eq_true, Option.map_some, Option.map_none, Option.bind_some, Option.bind_none, hv, h1, h2, isInt0, isBl, h3, decide_false, Bool.not_false, wh]
  | bl b =>
    have h1 := isi_int (v := .bl b) rfl S
    have h2 := isi_bool (v := .bl b) rfl S
    simp only [eVar, eC, eOp, eT, eAnd, eOr, eNot, eIf, eAndV, eOrV, eNotV, eCall, aNil, aCons, aStar, sOf, eTup, eFl, eLoc, eSl, oNone, oSome, iOf, eNeg, eChain, eMt, bOf, eDict0, eRev, eListRg, iZipD, sRaise1, sRaise0, eCallV, List.lookup, R.bind_ok, R.bind_er, R.bind_stuck, R.toS_ok, R.toS_er, R.toS_stuck, SR.next_nx, SR.next_rt, SR.next_er, SR.next_bk, SR.next_ct, SR.next_stuck, sNil, sSeq, sBrk, sCnt, sExp, sRet, sRetN, sIf, sSet, sAsg, sAug, sPar2, sPar3, tN, DL.tTup, DL.tNil, DL.tCons, DL.tSub, iSeq, srcOf_tup, srcOf_fl, srcOf_kl, srcOf_ti, iRange1, iRange2, sFor, startD, List.map_cons, List.map_nil, List.length_cons, List.length_nil, List.replicate, List.cons_append, List.nil_append, List.getElem?_cons_zero, List.getElem?_cons_succ, List.set_cons_zero, List.set_cons_succ, dSub_int, dFdiv_int, dMod_int, dLt_int, dLe_int, dGt_int, dGe_int, dAddI_int, dSubI_int, dIsN_non, isN, dAdd_int, ll0, ll1, ll2, ll3, ll4, ll5, ll6, ll7, ll8, ll9, ll10, ll11, ll12, ll13, ll14, ll15, ll16, ll17, ll18, ll19, ll20, ll21, ll22, ll23, ll24, ll25, ll26, ll27, ll28, ll29, ll30, ll31, ll32, ll33, ll34, ll35, ll36, ll37, ll38, ll39, ll40, Nat.reduceSub, Nat.reduceAdd, Nat.reduceEqDiff, if_true, if_false, ifp_t, ifp_f, reduceIte, Bool.true_eq_false, Bool.false_eq_true, Option.map_some, Option.map_none, Option.bind_some, Option.bind_none, hv, h1, h2, isInt0, isBl, Bool.not_true, wh]
  | non => simp only [eVar, eC, eOp, eT, eAnd, eOr, eNot, eIf, eAndV, eOrV, eNotV, eCall, aNil, aCons, aStar, sOf, eTup, eFl, eLoc, eSl, oNone, oSome, iOf, eNeg, eChain, eMt, bOf, eDict0, eRev, eListRg, iZipD, sRaise1, sRaise0, eCallV, List.lookup, R.bind_ok, R.bind_er, R.bind_stuck, R.toS_ok, R.toS_er, R.toS_stuck, SR.next_nx, SR.next_rt, SR.next_er, SR.next_bk, SR.next_ct, SR.next_stuck, sNil, sSeq, sBrk, sCnt, sExp, sRet, sRetN, sIf, sSet, sAsg, sAug, sPar2, sPar3, tN, DL.tTup, DL.tNil, DL.tCons, DL.tSub, iSeq, srcOf_tup, srcOf_fl, srcOf_kl, srcOf_ti, iRange1, iRange2, sFor, startD, List.map_cons, List.map_nil, List.length_cons, List.length_nil, List.replicate, List.cons_append, List.nil_append, List.getElem?_cons_zero, List.getElem?_cons_succ, List.set_cons_zero, List.set_cons_succ, dSub_int, dFdiv_int, dMod_int, dLt_int, dLe_int, dGt_int, dGe_int, dAddI_int, dSubI_int, dIsN_non, isN, dAdd_int, ll0, ll1, ll2, ll3, ll4, ll5, ll6, ll7, ll8, ll9, ll10, ll11, ll12, ll13, ll14, ll15, ll16, ll17, ll18, ll19, ll20, ll21, ll22, ll23, ll24, ll25, ll26, ll27, ll28, ll29, ll30, ll31, ll32, ll33, ll34, ll35, ll36, ll37, ll38, ll39, ll40, Nat.reduceSub, Nat.reduceAdd, Nat.reduceEqDiff, if_true, if_false, ifp_t, ifp_f, reduceIte, Bool.true_eq_false, Bool.false_eq_true, Option.map_some, Option.map_none, Option.bind_some, Option.bind_none, hv, isi_int (v := .non) rfl, isInt0, wh]
  | str x => simp only [eVar, eC, eOp, eT, eAnd, eOr, eNot, eIf, eAndV, eOrV, eNotV, eCall, aNil, aCons, aStar, sOf, eTup, eFl, eLoc, eSl, oNone, oSome, iOf, eNeg, eChain, eMt, bOf, eDict0, eRev, eListRg, iZipD, sRaise1, sRaise0, eCallV, List.lookup, R.bind_ok, R.bind_er, R.bind_stuck, R.toS_ok, R.toS_er, R.toS_stuck, SR.next_nx, SR.next_rt, SR.next_er, SR.next_bk, SR.next_ct, SR.next_stuck, sNil, sSeq, sBrk, sCnt, sExp, sRet, sRetN, sIf, sSet, sAsg, sAug, sPar2, sPar3, tN, DL.tTup, DL.tNil, DL.tCons, DL.tSub, iSeq, srcOf_tup, srcOf_fl, srcOf_kl, srcOf_ti, iRange1, iRange2, sFor, startD, List.map_cons, List.map_nil, List.length_cons, List.length_nil, List.replicate, List.cons_append, List.nil_append, List.getElem?_cons_zero, List.getElem?_cons_succ, List.set_cons_zero, List.set_cons_succ, dSub_int, dFdiv_int, dMod_int, dLt_int, dLe_int, dGt_int, dGe_int, dAddI_int, dSubI_int, dIsN_non, isN, dAdd_int, ll0, ll1, ll2, ll3, ll4, ll5, ll6, ll7, ll8, ll9, ll10, ll11, ll12, ll13, ll14, ll15, ll16, ll17, ll18, ll19, ll20, ll21, ll22, ll23, ll24, ll25, ll26, ll27, ll28, ll29, ll30, ll31, ll32, ll33, ll34, ll35, ll36, ll37, ll38, ll39, ll40, Nat.reduceSub, Nat.reduceAdd, Nat.reduceEqDiff, if_true, if_false, ifp_t, ifp_f, reduceIte, Bool.true_eq_false, Bool.false_eq_true, Option.map_some, Option.map_none, Option.bind_some, Option.bind_none, hv, isi_int (v := .str x) rfl, isInt0, wh]
  | tup x => simp only [eVar, eC, eOp, eT, eAnd, eOr, eNot, eIf, eAndV, eOrV, eNotV, eCall, aNil, aCons, aStar, sOf, eTup, eFl, eLoc, eSl, oNone, oSome, iOf, eNeg, eChain, eMt, bOf, eDict0, eRev, eListRg, iZipD, sRaise1, sRaise0, eCallV, List.lookup, R.bind_ok, R.bind_er, R.bind_stuck, R.toS_ok, R.toS_er, R.toS_stuck, SR.next_nx, SR.next_rt, SR.next_er, SR.next_bk, SR.next_ct, SR.next_stuck, sNil, sSeq, sBrk, sCnt, sExp, sRet, sRetN, sIf, sSet, sAsg, sAug, sPar2, sPar3, tN, DL.tTup, DL.tNil, DL.tCons, DL.tSub, iSeq, srcOf_tup, srcOf_fl, srcOf_kl, srcOf_ti, iRange1, iRange2, sFor, startD, List.map_cons, List.map_nil, List.length_cons, List.length_nil, List.replicate, List.cons_append, List.nil_append, List.getElem?_cons_zero, List.getElem?_cons_succ, List.set_cons_zero, List.set_cons_succ, dSub_int, dFdiv_int, dMod_int, dLt_int, dLe_int, dGt_int, dGe_int, dAddI_int, dSubI_int, dIsN_non, isN, dAdd_int, ll0, ll1, ll2, ll3, ll4, ll5, ll6, ll7, ll8, ll9, ll10, ll11, ll12, ll13, ll14, ll15, ll16, ll17, ll18, ll19, ll20, ll21, ll22, ll23, ll24, ll25, ll26, ll27, ll28, ll29, ll30, ll31, ll32, ll33, ll34, ll35, ll36, ll37, ll38, ll39, ll40, Nat.reduceSub, Nat.reduceAdd, Nat.reduceEqDiff, if_true, if_false, ifp_t, ifp_f, reduceIte, Bool.true_eq_false, Bool.false_eq_true, Option.map_some, Option.map_none, Option.bind_some, Option.bind_none, hv, isi_int (v := .tup x) rfl, isInt0, wh]
  | fl x => simp only [eVar, eC, eOp, eT, eAnd, eOr, eNot, eIf, eAndV, eOrV, eNotV, eCall, aNil, aCons, aStar, sOf, eTup, eFl, eLoc, eSl, oNone, oSome, iOf, eNeg, eChain, eMt, bOf, eDict0, eRev, eListRg, iZipD, sRaise1, sRaise0, eCallV, List.lookup, R.bind_ok, R.bind_er, R.bind_stuck, R.toS_ok, R.toS_er, R.toS_stuck, SR.next_nx, SR.next_rt, SR.next_er, SR.next_bk, SR.next_ct, SR.next_stuck, sNil, sSeq, sBrk, sCnt, sExp, sRet, sRetN, sIf, sSet, sAsg, sAug, sPar2, sPar3, tN, DL.tTup, DL.tNil, DL.tCons, DL.tSub, iSeq, srcOf_tup, srcOf_fl, srcOf_kl, srcOf_ti, iRange1, iRange2, sFor, startD, List.map_cons, List.map_nil, List.length_cons, List.length_nil, List.replicate, List.cons_append, List.nil_append, List.getElem?_cons_zero, List.getElem?_cons_succ, List.set_cons_zero, List.set_cons_succ, dSub_int, dFdiv_int, dMod_int, dLt_int, dLe_int, dGt_int, dGe_int, dAddI_int, dSubI_int, dIsN_non, isN, dAdd_int, ll0, ll1, ll2, ll3, ll4, ll5, ll6, ll7, ll8, ll9, ll10, ll11, ll12, ll13, ll14, ll15, ll16, ll17, ll18, ll19, ll20, ll21, ll22, ll23, ll24, ll25, ll26, ll27, ll28, ll29, ll30, ll31, ll32, ll33, ll34, ll35, ll36, ll37, ll38, ll39, ll40, Nat.reduceSub, Nat.reduceAdd, Nat.reduceEqDiff, if_true, if_false, ifp_t, ifp_f, reduceIte, Bool.true_eq_false, Bool.false_eq_true, Option.map_some, Option.map_none, Option.bind_some, Option.bind_none, hv, isi_int (v := .fl x) rfl, isInt0, wh]
  | fd x => simp only [eVar, eC, eOp, eT, eAnd, eOr, eNot, eIf, eAndV, eOrV, eNotV, eCall, aNil, aCons, aStar, sOf, eTup, eFl, eLoc, eSl, oNone, oSome, iOf, eNeg, eChain, eMt, bOf, eDict0, eRev, eListRg, iZipD, sRaise1, sRaise0, eCallV, List.lookup, R.bind_ok, R.bind_er, R.bind_stuck, R.toS_ok, R.toS_er, R.toS_stuck, SR.next_nx, SR.next_rt, SR.next_er, SR.next_bk, SR.next_ct, SR.next_stuck, sNil, sSeq, sBrk, sCnt, sExp, sRet, sRetN, sIf, sSet, sAsg, sAug, sPar2, sPar3, tN, DL.tTup, DL.tNil, DL.tCons, DL.tSub, iSeq, srcOf_tup, srcOf_fl, srcOf_kl, srcOf_ti, iRange1, iRange2, sFor, startD, List.map_cons, List.map_nil, List.length_cons, List.length_nil, List.replicate, List.cons_append, List.nil_append, List.getElem?_cons_zero, List.getElem?_cons_succ, List.set_cons_zero, List.set_cons_succ, dSub_int, dFdiv_int, dMod_int, dLt_int, dLe_int, dGt_int, dGe_int, dAddI_int, dSubI_int, dIsN_non, isN, dAdd_int, ll0, ll1, ll2, ll3, ll4, ll5, ll6, ll7, ll8, ll9, ll10, ll11, ll12, ll13, ll14, ll15, ll16, ll17, ll18, ll19, ll20, ll21, ll22, ll23, ll24, ll25, ll26, ll27, ll28, ll29, ll30, ll31, ll32, ll33, ll34, ll35, ll36, ll37, ll38, ll39, ll40, Nat.reduceSub, Nat.reduceAdd, Nat.reduceEqDiff, if_true, if_false, ifp_t, ifp_f, reduceIte, Bool.true_eq_false, Bool.false_eq_true, Option.map_some, Option.map_none, Option.bind_some, Option.bind_none, hv, isi_int (v := .fd x) rfl, isInt0, wh]
  | _ => simp [pl] at h
theorem is_effect_any {v : D} (h : pl v = true) (hd : ∀ ds, v = .tup ds → ∀ d ∈ ds, pl d = true) (S : Sto) : F_is_effect [v] S = .ok (.bl (isEff v)) S := by
  refine fnC_rt rfl ?_ rfl
  have hst : startD 2 [v] = [some v, none] := rfl
  rw [hst]
  unfold B_is_effect
  by_cases ht : isTup v = true
  · obtain ⟨ds, rfl⟩ : ∃ ds, v = .tup ds := by
      cases v with
      | tup ds => exact ⟨ds, rfl⟩
      | _ => simp [isTup] at ht
    have hl : bLen [.tup ds] S = .ok (.int ds.length) S := rfl
    have h1 := isi_tup h S
    rw [ht] at h1
    by_cases h2 : ds.length = 2
    · obtain ⟨a, b, rfl⟩ : ∃ a b, ds = [a, b] := by
        match ds, h2 with
        | [a, b], _ => exact ⟨a, b, rfl⟩
      have pa := hd _ rfl a (by simp)
      have pb := hd _ rfl b (by simp)
      have key := eLc_pure (src := iSeq (eVar 0)) (T := tN 1) (vs := [1]) (c := cYes) (f := E1_is_effect) (ρ := [some (.tup [a, b]), none]) (S := S) [a, b] (fun d => [some (.tup [a, b]), some d]) (fun _ => true) (fun d => .bl (wh d)) rfl
        (by
          intro d hd' S'
          refine ⟨rfl, rfl, fun _ => ?_⟩
          unfold E1_is_effect
          exact whole_ev (hd _ rfl d hd') 1 _ rfl S') (Nat.le_trans (show 2 ≤ 10 by decide) (by decide)) (by intro d _ _; rfl)
      have key' : eLc finFl (iSeq (eVar 0)) (tN 1) [1] cYes E1_is_effect [some (.tup [a, b]), none] S = .ok (.fl [.bl (wh a), .bl (wh b)]) S := key
      have ba : ∀ x y S, bAll [.fl [.bl x, .bl y]] S = .ok (.bl (x && y)) S := fun x y S => by
        show R.ok (D.bl ([x, y].all id)) S = _
        simp
      have hl' : ∀ S, bLen [.tup [a, b]] S = .ok (.int 2) S := fun S => rfl
      have ee : ∀ S, dEq true (.int 2) (.int 2) S = .ok (.bl false) S := fun S => rfl
      simp only [eVar, eC, eOp, eT, eAnd, eOr, eNot, eIf, eAndV, eOrV, eNotV, eCall, aNil, aCons, aStar, sOf, eTup, eFl, eLoc, eSl, oNone, oSome, iOf, eNeg, eChain, eMt, bOf, eDict0, eRev, eListRg, iZipD, sRaise1, sRaise0, eCallV, List.lookup, R.bind_ok, R.bind_er, R.bind_stuck, R.toS_ok, R.toS_er, R.toS_stuck, SR.next_nx, SR.next_rt, SR.next_er, SR.next_bk, SR.next_ct, SR.next_stuck, sNil, sSeq, sBrk, sCnt, sExp, sRet, sRetN, sIf, sSet, sAsg, sAug, sPar2, sPar3, tN, DL.tTup, DL.tNil, DL.tCons, DL.tSub, iSeq, srcOf_tup, srcOf_fl, srcOf_kl, srcOf_ti, iRange1, iRange2, sFor, startD, List.map_cons, List.map_nil, List.length_cons, List.length_nil, List.replicate, List.cons_append, List.nil_append, List.getElem?_cons_zero, List.getElem?_cons_succ, List.set_cons_zero, List.set_cons_succ, dSub_int, dFdiv_int, dMod_int, dLt_int, dLe_int, dGt_int, dGe_int, dAddI_int, dSubI_int, dIsN_non, isN, dAdd_int, ll0, ll1, ll2, ll3, ll4, ll5, ll6, ll7, ll8, ll9, ll10, ll11, ll12, ll13, ll14, ll15, ll16, ll17, ll18, ll19, ll20, ll21, ll22, ll23, ll24, ll25, ll26, ll27, ll28, ll29, ll30, ll31, ll32, ll33, ll34, ll35, ll36, ll37, ll38, ll39, ll40, Nat.reduceSub, Nat.reduceAdd, Nat.reduceEqDiff, if_true, if_false, ifp_t, ifp_f, reduceIte, Bool.true_eq_false, Bool.false_eq_true, Option.map_some, Option.map_none, Option.bind_some, Option.bind_none, h1, Bool.not_true, hl', ee, key', ba, isEff]
    · have ee : ∀ S, dEq true (.int (ds.length : Int)) (.int 2) S = .ok (.bl true) S := fun S => by
        rw [dEq_int]
        have : ((ds.length : Int) == 2) = false := by simpa using (show ¬ (ds.length : Int) = 2 by omega)
        simp [this]
      have e0 : isEff (.tup ds) = false := by
        match ds, h2 with
        | [], _ => rfl
        | [a], _ => rfl
        | a :: b :: c :: l, _ => rfl
      simp only [eVar, eC, eOp, eT, eAnd, eOr, eNot, eIf, eAndV, eOrV, eNotV, eCall, aNil, aCons, aStar, sOf, eTup, eFl, eLoc, eSl, oNone, oSome, iOf, eNeg, eChain, eMt, bOf, eDict0, eRev, eListRg, iZipD, sRaise1, sRaise0, eCallV, List.lookup, R.bind_ok, R.bind_er, R.bind_stuck, R.toS_ok, R.toS_er, R.toS_stuck, SR.next_nx, SR.next_rt, SR.next_er, SR.next_bk, SR.next_ct, SR.next_stuck, sNil, sSeq, sBrk, sCnt, sExp, sRet, sRetN, sIf, sSet, sAsg, sAug, sPar2, sPar3, tN, DL.tTup, DL.tNil, DL.tCons, DL.tSub, iSeq, srcOf_tup, srcOf_fl, srcOf_kl, srcOf_ti, iRange1, iRange2, sFor, startD, List.map_cons, List.map_nil, List.length_cons, List.length_nil, List.replicate, List.cons_append, List.nil_append, List.getElem?_cons_zero, List.getElem?_cons_succ, List.set_cons_zero, List.set_cons_succ, dSub_int, dFdiv_int, dMod_int, dLt_int, dLe_int, dGt_int, dGe_int, dAddI_int, dSubI_int, dIsN_non, isN, dAdd_int, ll0, ll1, ll2, ll3, ll4, ll5, ll6, ll7, ll8, ll9, ll10, ll11, ll12, ll13, ll14, ll15, ll16, ll17, ll18, ll19, ll20, ll21, ll22, ll23, ll24, ll25, ll26, ll27, ll28, ll29, ll30, ll31, ll32, ll33, ll34, ll35, ll36, ll37, ll38, ll39, ll40, Nat.reduceSub, Nat.reduceAdd, Nat.reduceEqDiff, if_true, if_false, ifp_t, ifp_f, reduceIte, Bool.true_eq_false, Bool.false_eq_true, Option.map_some, Option.map_none, Option.bind_some, Option.bind_none, h1, Bool.not_true, hl, ee, e0]
  · have h1 := isi_tup h S
    rw [Bool.eq_false_iff.mpr ht] at h1
    have e0 : isEff v = false := by
      cases v with
      | tup ds => exact absurd rfl ht
      | _ => rfl
    simp only [eVar, eC, eOp, eT, eAnd, eOr, eNot, eIf, eAndV, eOrV, eNotV, eCall, aNil, aCons, aStar, sOf, eTup, eFl, eLoc, eSl, oNone, oSome, iOf, eNeg, eChain, eMt, bOf, eDict0, eRev, eListRg, iZipD, sRaise1, sRaise0, eCallV, List.lookup, R.bind_ok, R.bind_er, R.bind_stuck, R.toS_ok, R.toS_er, R.toS_stuck, SR.next_nx, SR.next_rt, SR.next_er, SR.next_bk, SR.next_ct, SR.next_stuck, sNil, sSeq, sBrk, sCnt, sExp, sRet, sRetN, sIf, sSet, sAsg, sAug, sPar2, sPar3, tN, DL.tTup, DL.tNil, DL.tCons, DL.tSub, iSeq, srcOf_tup, srcOf_fl, srcOf_kl, srcOf_ti, iRange1, iRange2, sFor, startD, List.map_cons, List.map_nil, List.length_cons, List.length_nil, List.replicate, List.cons_append, List.nil_append, List.getElem?_cons_zero, List.getElem?_cons_succ, List.set_cons_zero, List.set_cons_succ, dSub_int, dFdiv_int, dMod_int, dLt_int, dLe_int, dGt_int, dGe_int, dAddI_int, dSubI_int, dIsN_non, isN, dAdd_int, ll0, ll1, ll2, ll3, ll4, ll5, ll6, ll7, ll8, ll9, ll10, ll11, ll12, ll13, ll14, ll15, ll16, ll17, ll18, ll19, ll20, ll21, ll22, ll23, ll24, ll25, ll26, ll27, ll28, ll29, ll30, ll31, ll32, ll33, ll34, ll35, ll36, ll37, ll38, ll39, ll40, Nat.reduceSub, Nat.reduceAdd, Nat.reduceEqDiff, if_true, if_false, ifp_t, ifp_f, reduceIte, Bool.true_eq_false, Bool.false_eq_true, Option.map_some, Option.map_none, Option.bind_some, Option.bind_none, h1, Bool.not_false, e0]
end DL

/-! Plain values compared; rows turned twice. -/
namespace DL
open PySem PySem.Spec L2
open PyProof.Rows hiding St
theorem eqvAll_ints : ∀ (a b : List Int), PyData.eqvAll (a.map PyData.int) (b.map PyData.int) = decide (a = b)
  | [], [] => rfl
  | [], b :: l => by simp [PyData.eqvAll]
  | a :: l, [] => by simp [PyData.eqvAll]
  | a :: l, b :: m => by
    simp only [List.map_cons, PyData.eqvAll, eqvAll_ints l m, PyData.eqv, List.cons.injEq]
    by_cases h : a = b
    · subst h; simp
    · have : (a == b) = false := by simpa using h
      simp [this, h]
theorem eq_ti (neg : Bool) (a b : List Int) (S : Sto) : dEq neg (ti a) (ti b) S = .ok (.bl (if neg then !decide (a = b) else decide (a = b))) S := by
  have h : ∀ l : List Int, pyS S (ti l) = some (.tuple (l.map PyData.int)) := fun l => by
    show (pyL (l.map D.int)).map PyData.tuple = _
    rw [pyL_ints]; rfl
  show dEqP neg (ti a) (ti b) S = _
  rw [dEqP_py (h a) (h b) (shaped_intsT _) (shaped_intsT _)]
  simp only [PyData.eqv, eqvAll_ints]
theorem eq_fli (neg : Bool) (a b : List Int) (S : Sto) : dEq neg (.fl (a.map D.int)) (.fl (b.map D.int)) S = .ok (.bl (if neg then !decide (a = b) else decide (a = b))) S := by
  have h : ∀ l : List Int, pyS S (.fl (l.map D.int)) = some (.list (l.map PyData.int)) := fun l => by
    show (pyL (l.map D.int)).map PyData.list = _
    rw [pyL_ints]; rfl
  show dEqP neg (.fl (a.map D.int)) (.fl (b.map D.int)) S = _
  rw [dEqP_py (h a) (h b) (shaped_ints _) (shaped_ints _)]
  simp only [PyData.eqv, eqvAll_ints]
theorem shaped_bl (b : Bool) : SeqAt.shaped (.bool b) = true := by cases b <;> decide
theorem eq_bl (neg : Bool) (a b : Bool) (S : Sto) : dEq neg (.bl a) (.bl b) S = .ok (.bl (if neg then !(a == b) else a == b)) S := by
  show dEqP neg (.bl a) (.bl b) S = _
  rw [dEqP_py (p := .bool a) (q := .bool b) rfl rfl (shaped_bl _) (shaped_bl _)]
  cases a <;> cases b <;> rfl
theorem rot_rot {α : Type} (l : List α) (p q : Nat) (hp : p < l.length) (hq : q < l.length) : rot (rot l p) q = rot l ((p + q) % l.length) := by
  have hlen : (rot l p).length = l.length := rot_length l p (by omega)
  have hm : (p + q) % l.length < l.length := Nat.mod_lt _ (by omega)
  apply List.ext_getElem?
  intro k
  by_cases hk : k < l.length
  · rw [rot_get (rot l p) q k (by omega) (by omega), hlen, rot_get l p _ (by omega) (Nat.mod_lt _ (by omega)), rot_get l _ k (by omega) hk]
    congr 1
    simp only [Nat.add_mod_mod, Nat.mod_add_mod, Nat.add_assoc]
  · rw [List.getElem?_eq_none (by rw [rot_length _ q (by omega)]; omega), List.getElem?_eq_none (by rw [rot_length l _ (by omega)]; omega)]
theorem begs_lt (l : List Int) : (begs l).Pairwise (· < ·) := by
  unfold begs
  exact List.Pairwise.filter _ List.pairwise_lt_range
/-- the beginnings of a turned row -/
theorem begs_rot (l : List Int) (p : Nat) (hp : p < l.length) : (begs (rot l p)).map (fun k : Nat => (k : Int)) = sortI ((begs l).map fun b : Nat => ((b : Int) - p) % (l.length : Int)) := by
  have hlen : (rot l p).length = l.length := rot_length l p (by omega)
  have key : ∀ b : Nat, b < l.length → ∃ q : Nat, q < l.length ∧ (q : Int) = ((b : Int) - p) % (l.length : Int) ∧ (p + q) % l.length = b := by
    intro b hb
    by_cases h : p ≤ b
    · refine ⟨b - p, by omega, ?_, ?_⟩
      · rw [Int.emod_eq_of_lt (by omega) (by omega)]; omega
      · rw [Nat.mod_eq_of_lt (by omega)]; omega
    · refine ⟨b + l.length - p, by omega, ?_, ?_⟩
      · have : ((b : Int) - p) % (l.length : Int) = ((b : Int) - p + l.length) % (l.length : Int) := by rw [Int.add_emod_right]
        rw [this, Int.emod_eq_of_lt (by omega) (by omega)]; omega
      · have : p + (b + l.length - p) = b + l.length := by omega
        rw [this, Nat.add_mod_right, Nat.mod_eq_of_lt hb]
  refine sorted_unique ?_ ?_ (sortI_sorted _)
  · refine List.Perm.trans ?_ (sortI_perm _).symm
    refine (List.perm_ext_iff_of_nodup ?_ ?_).mpr ?_
    · refine List.Pairwise.map _ (fun a b h => ?_) (begs_lt _)
      have : a < b := h
      omega
    · refine List.pairwise_map.mpr ((begs_lt l).imp_of_mem ?_)
      intro a b ha hb hab e
      obtain ⟨q, q1, q2, q3⟩ := key a (mem_begs.mp ha).1
      obtain ⟨r, r1, r2, r3⟩ := key b (mem_begs.mp hb).1
      have : q = r := by omega
      subst this
      omega
    · intro x
      simp only [List.mem_map]
      constructor
      · rintro ⟨q, hq, rfl⟩
        obtain ⟨h1, h2⟩ := mem_begs.mp hq
        rw [hlen] at h1
        rw [rot_rot l p q hp h1] at h2
        have hm : (p + q) % l.length < l.length := Nat.mod_lt _ (by omega)
        refine ⟨(p + q) % l.length, mem_begs.mpr ⟨hm, h2⟩, ?_⟩
        obtain ⟨r, r1, r2, r3⟩ := key _ hm
        rw [← r2]
        have e : r = q := by
          have a1 : (p + r) % l.length = (p + q) % l.length := r3
          by_cases x1 : p + r < l.length <;> by_cases x2 : p + q < l.length
          · rw [Nat.mod_eq_of_lt x1, Nat.mod_eq_of_lt x2] at a1; omega
          · rw [Nat.mod_eq_of_lt x1, Nat.mod_eq_sub_mod (by omega), Nat.mod_eq_of_lt (by omega)] at a1; omega
          · rw [Nat.mod_eq_of_lt x2, Nat.mod_eq_sub_mod (by omega), Nat.mod_eq_of_lt (by omega)] at a1; omega
          · rw [Nat.mod_eq_sub_mod (by omega), Nat.mod_eq_of_lt (by omega), Nat.mod_eq_sub_mod (a := p + q) (by omega), Nat.mod_eq_of_lt (by omega)] at a1; omega
        rw [e]
      · rintro ⟨b, hb, rfl⟩
        obtain ⟨h1, h2⟩ := mem_begs.mp hb
        obtain ⟨q, q1, q2, q3⟩ := key b h1
        refine ⟨q, mem_begs.mpr ⟨by rw [hlen]; exact q1, ?_⟩, q2⟩
        rw [rot_rot l p q hp q1, q3]; exact h2
  · refine List.Pairwise.map _ (fun a b h => ?_) (begs_lt _)
    have : a < b := h
    omega
theorem fmin_spec : ∀ (l : List Int) (a : Int), (l.foldl min a ≤ a) ∧ (∀ y ∈ l, l.foldl min a ≤ y) ∧ (l.foldl min a = a ∨ l.foldl min a ∈ l)
  | [], a => ⟨Int.le_refl _, by simp, .inl rfl⟩
  | b :: l, a => by
    obtain ⟨h1, h2, h3⟩ := fmin_spec l (min a b)
    rw [List.foldl_cons]
    refine ⟨by omega, fun y hy => ?_, ?_⟩
    · rcases List.mem_cons.mp hy with rfl | hy
      · omega
      · exact h2 y hy
    · rcases h3 with h3 | h3
      · by_cases hab : a ≤ b
        · exact .inl (by omega)
        · right
          have : List.foldl min (min a b) l = b := by omega
          rw [this]; exact List.mem_cons_self
      · exact .inr (List.mem_cons_of_mem _ h3)
theorem minT_hts {l : List Int} (h : l ≠ []) (S : Sto) : ∃ m : Int, bMinT [ti (hts 0 l)] S = .ok (.int m) S ∧ (0 < m ↔ ne l = 0) := by
  have hn : hts 0 l ≠ [] := fun e => h (List.eq_nil_of_length_eq_zero (by rw [← hts_length l 0, e]; rfl))
  refine ⟨minL (hts 0 l), ?_, ?_⟩
  · show (match intsOf ((hts 0 l).map D.int) with
      | some is => if is = [] then R.stuck else R.ok (D.int (minL is)) S
      | none => R.stuck) = _
    rw [intsOf_map]
    simp only
    rw [if_neg hn]
  · obtain ⟨m1, m2⟩ := minL_spec hn
    obtain ⟨f1, f2, f3⟩ := fmin_spec (hts 0 l) 1
    have e := hts_min l 0 0
    simp only [Int.sub_zero] at e
    have e' : (hts 0 l).foldl min 1 = 1 - ne l := e
    rw [e'] at f1 f2 f3
    constructor
    · intro hm
      rcases f3 with f3 | f3
      · omega
      · have := m2 _ f3
        omega
    · intro h0
      have := f2 _ m1
      omega
end DL

/-! Units: a beginning, and how many tokens it is to the next one. -/
namespace DL
open PySem PySem.Spec L2
open PyProof.Rows hiding St
noncomputable def E1_units (ρ : Ev) (S : Sto) : R D :=
  (eTup (aCons (eVar 3) (aCons (eOp dAdd (eOp dMod (eOp dSub (eOp dSub (eVar 4) (eVar 3)) (eC (.int 1))) (eVar 2)) (eC (.int 1))) aNil))) ρ S
noncomputable def B_units : Ev → Sto → SR :=
  (sSeq (sAsg (eTup (aCons (eCall F_beginnings (aCons (eVar 0) aNil)) (aCons (eCall bLen (aCons (eVar 0) aNil)) aNil))) (tTup 2 (tCons (tN 1) (tCons (tN 2) tNil))))
    (sRet (eCall bTuple (aCons (eLc finFl (iZipD (aCons (eVar 1) (aCons (eOp dAdd (eSl mkFl (eVar 1) (oSome (eC (.int 1))) oNone) (eSl mkFl (eVar 1) oNone (oSome (eC (.int 1))))) aNil))) (tTup 2 (tCons (tN 3) (tCons (tN 4) tNil))) [3, 4] cYes E1_units) aNil))))
noncomputable def F_units : Fn := fnC close 5 1 B_units

/-- beginnings with their gaps; f is the first of all -/
def un (n f : Nat) : List Nat → List (Nat × Nat)
  | [] => []
  | [b] => [(b, n + f - b)]
  | b :: c :: r => (b, c - b) :: un n f (c :: r)
def unitsOf (l : List Int) : List (Nat × Nat) := match begs l with
  | [] => []
  | f :: r => un l.length f (f :: r)
theorem un_fst (n f : Nat) : ∀ bs : List Nat, (un n f bs).map Prod.fst = bs
  | [] => rfl
  | [b] => rfl
  | b :: c :: r => by rw [un, List.map_cons, un_fst n f (c :: r)]
theorem units_fst (l : List Int) : (unitsOf l).map Prod.fst = begs l := by
  unfold unitsOf
  cases h : begs l with
  | nil => rfl
  | cons f r => exact un_fst _ _ _
def pr2 (u : Nat × Nat) : D := .tup [.int u.1, .int u.2]
theorem un_zip (n f : Nat) : ∀ (b : Nat) (r : List Nat), (b :: r).Pairwise (· < ·) → (∀ x ∈ b :: r, x < n) → f ≤ b →
    ((b :: r).zip (r ++ [f])).map (fun q => ((q.1 : Int), ((q.2 : Int) - q.1 - 1) % (n : Int) + 1)) = (un n f (b :: r)).map fun u => ((u.1 : Int), (u.2 : Int))
  | b, [], _, hn, hf => by
    have hb := hn b (by simp)
    simp only [List.nil_append, List.zip_cons_cons, List.zip_nil_left, List.map_cons, List.map_nil, un]
    have e : ((f : Int) - b - 1) % (n : Int) = n + f - b - 1 := by
      rw [← Int.add_emod_right, Int.emod_eq_of_lt (by omega) (by omega)]; omega
    rw [e]
    congr 2
    omega
  | b, c :: r, hp, hn, hf => by
    have hp' := List.pairwise_cons.mp hp
    have hbc : b < c := hp'.1 c (by simp)
    have hc := hn c (by simp)
    have ih := un_zip n f c r hp'.2 (fun x hx => hn x (List.mem_cons_of_mem _ hx)) (by omega)
    rw [List.cons_append, List.zip_cons_cons, List.map_cons, ih, un, List.map_cons]
    have e : ((c : Int) - b - 1) % (n : Int) = c - b - 1 := Int.emod_eq_of_lt (by omega) (by omega)
    simp only
    rw [e]
    congr 2
    omega
/-- the gap is the least step to a beginning -/
structure Gap (n : Nat) (bs : List Nat) (u : Nat × Nat) : Prop where
  mem : u.1 ∈ bs
  pos : 1 ≤ u.2
  le : u.2 ≤ n
  hit : (u.1 + u.2) % n ∈ bs
  least : ∀ k, 1 ≤ k → k < u.2 → (u.1 + k) % n ∉ bs
theorem un_gap (n f : Nat) (bs : List Nat) (hp : bs.Pairwise (· < ·)) (hn : ∀ x ∈ bs, x < n) (hf : bs.head? = some f) : ∀ (pre suf : List Nat), bs = pre ++ suf → ∀ u ∈ un n f suf, Gap n bs u
  | pre, [], _, u, hu => by simp [un] at hu
  | pre, [b], e, u, hu => by
    rw [un, List.mem_singleton] at hu
    subst hu
    have hb : b ∈ bs := by rw [e]; simp
    have hbn := hn b hb
    have hfm : f ∈ bs := List.mem_of_mem_head? hf
    have hle : ∀ x ∈ bs, x ≤ b := fun x hx => by
      rw [e] at hx hp
      rw [List.pairwise_append] at hp
      rcases List.mem_append.mp hx with hx | hx
      · exact Nat.le_of_lt (hp.2.2 x hx b (by simp))
      · rw [List.mem_singleton.mp hx]; exact Nat.le_refl _
    have hge : ∀ x ∈ bs, f ≤ x := fun x hx => by
      cases bs with
      | nil => cases hx
      | cons y ys =>
        cases hf
        rcases List.mem_cons.mp hx with rfl | hx
        · exact Nat.le_refl _
        · exact Nat.le_of_lt ((List.pairwise_cons.mp hp).1 x hx)
    have hfb := hle f hfm
    refine ⟨hb, by simp only; omega, by simp only; omega, ?_, ?_⟩
    · simp only
      have : b + (n + f - b) = f + n := by omega
      rw [this, Nat.add_mod_right, Nat.mod_eq_of_lt (by omega)]
      exact hfm
    · intro k k1 k2 hk
      simp only at k2 hk
      by_cases h : b + k < n
      · rw [Nat.mod_eq_of_lt h] at hk
        have := hle _ hk
        omega
      · rw [Nat.mod_eq_sub_mod (by omega), Nat.mod_eq_of_lt (by omega)] at hk
        have := hge _ hk
        omega
  | pre, b :: c :: r, e, u, hu => by
    rw [un] at hu
    rcases List.mem_cons.mp hu with rfl | hu
    · have hb : b ∈ bs := by rw [e]; simp
      have hc : c ∈ bs := by rw [e]; simp
      have hcn := hn c hc
      have sorted : b < c ∧ (∀ x ∈ bs, x ≤ b ∨ c ≤ x) := by
        rw [e] at hp ⊢
        obtain ⟨h1, h2, h3⟩ := List.pairwise_append.mp hp
        have h2' := List.pairwise_cons.mp h2
        have h2'' := List.pairwise_cons.mp h2'.2
        refine ⟨h2'.1 c (by simp), fun x hx => ?_⟩
        rcases List.mem_append.mp hx with hx | hx
        · exact .inl (Nat.le_of_lt (h3 x hx b (by simp)))
        · rcases List.mem_cons.mp hx with rfl | hx
          · exact .inl (Nat.le_refl _)
          · rcases List.mem_cons.mp hx with rfl | hx
            · exact .inr (Nat.le_refl _)
            · exact .inr (Nat.le_of_lt (h2''.1 x hx))
      obtain ⟨hbc, hbt⟩ := sorted
      refine ⟨hb, by simp only; omega, by simp only; omega, ?_, ?_⟩
      · simp only
        have : b + (c - b) = c := by omega
        rw [this, Nat.mod_eq_of_lt hcn]; exact hc
      · intro k k1 k2 hk
        simp only at k2 hk
        rw [Nat.mod_eq_of_lt (by omega)] at hk
        rcases hbt _ hk with h | h <;> omega
    · exact un_gap n f bs hp hn hf (pre ++ [b]) (c :: r) (by simp [e]) u hu
theorem units_gap (l : List Int) : ∀ u ∈ unitsOf l, Gap l.length (begs l) u := by
  intro u hu
  unfold unitsOf at hu
  cases h : begs l with
  | nil => rw [h] at hu; simp at hu
  | cons f r =>
    rw [h] at hu
    refine un_gap l.length f (f :: r) (by rw [← h]; exact begs_lt l) (fun x hx => ?_) rfl [] (f :: r) rfl u hu
    rw [← h] at hx
    exact (mem_begs.mp hx).1
theorem un_sum (n f : Nat) : ∀ (b : Nat) (r : List Nat), (b :: r).Pairwise (· < ·) → (∀ x ∈ b :: r, x < n) → ((un n f (b :: r)).map fun u => (u.2 : Int)).sum = n + f - b
  | b, [], _, hn => by
    have := hn b (by simp)
    simp [un]; omega
  | b, c :: r, hp, hn => by
    have hp' := List.pairwise_cons.mp hp
    have hbc : b < c := hp'.1 c (by simp)
    have ih := un_sum n f c r hp'.2 (fun x hx => hn x (List.mem_cons_of_mem _ hx))
    rw [un, List.map_cons, List.sum_cons, ih]
    simp only
    omega
theorem units_sum (l : List Int) (h : unitsOf l ≠ []) : ((unitsOf l).map fun u => (u.2 : Int)).sum = l.length := by
  unfold unitsOf at h ⊢
  cases hb : begs l with
  | nil => rw [hb] at h; simp at h
  | cons f r =>
    rw [hb] at h
    have := un_sum l.length f f r (by rw [← hb]; exact begs_lt l) (fun x hx => by rw [← hb] at hx; exact (mem_begs.mp hx).1)
    simp only
    rw [this]; omega
/-- what a unit is: nothing is missing, and one value is left -/
theorem beg_iff (l : List Int) (q : Nat) (hq : q < 2 * l.length) : q % l.length ∈ begs l ↔ ∀ k, k < l.length → hh l q < hh l (q + (k + 1)) := by
  have hn : 0 < l.length := by omega
  rw [mem_begs, need0_iff l _ (Nat.le_of_lt (Nat.mod_lt _ hn))]
  have hm : q % l.length < l.length := Nat.mod_lt _ hn
  by_cases h : q < l.length
  · rw [Nat.mod_eq_of_lt h]
    exact ⟨fun H => H.2, fun H => ⟨h, H⟩⟩
  · have e : q % l.length = q - l.length := by rw [Nat.mod_eq_sub_mod (by omega), Nat.mod_eq_of_lt (by omega)]
    rw [e] at hm ⊢
    have r := hh_round l _ (hh_len l)
    have e1 : hh l q = hh l (q - l.length) + ((l.length : Int) - l.sum) := by
      rw [← r]; congr 1; omega
    have e2 : ∀ k, hh l (q + (k + 1)) = hh l (q - l.length + (k + 1)) + ((l.length : Int) - l.sum) := fun k => by
      rw [← r]; congr 1; omega
    constructor
    · rintro ⟨_, H⟩ k hk
      have := H k hk
      rw [e1, e2]; omega
    · intro H
      refine ⟨hm, fun k hk => ?_⟩
      have := H k hk
      rw [e1, e2] at this; omega
theorem last_of (P : Nat → Prop) [DecidablePred P] (a : Nat) (ha : P a) : ∀ L, a < L → ∃ j, a ≤ j ∧ j < L ∧ P j ∧ ∀ k, j < k → k < L → ¬ P k
  | 0, h => absurd h (Nat.not_lt_zero _)
  | L + 1, h => by
    by_cases hL : P L
    · exact ⟨L, by omega, by omega, hL, fun k h1 h2 => by omega⟩
    · by_cases e : a = L
      · subst e; exact absurd ha hL
      · obtain ⟨j, j1, j2, j3, j4⟩ := last_of P a ha L (by omega)
        exact ⟨j, j1, by omega, j3, fun k h1 h2 => by
          by_cases e : k = L
          · rw [e]; exact hL
          · exact j4 k h1 (by omega)⟩
theorem unit_height {l : List Int} (hl : ∀ t ∈ l, 0 ≤ t) {u : Nat × Nat} (h : Gap l.length (begs l) u) : ne ((rot l u.1).take u.2) = 0 ∧ ht ((rot l u.1).take u.2) = 1 := by
  obtain ⟨b, L⟩ := u
  obtain ⟨h1, h2, h3, h4, h5⟩ := h
  simp only at h1 h2 h3 h4 h5 ⊢
  have hb := (mem_begs.mp h1).1
  have hbn := (need0_iff l b (by omega)).mp (mem_begs.mp h1).2
  have up : ∀ p, hh l (p + 1) ≤ hh l p + 1 := fun p => by
    have : 0 ≤ tk l p := by
      unfold tk
      rw [List.getElem?_eq_getElem (Nat.mod_lt _ (by omega))]
      exact hl _ (List.getElem_mem _)
    rw [hh]; omega
  have hL := (beg_iff l (b + L) (by omega)).mp h4
  have H1 : hh l (b + 1) = hh l b + 1 := by
    have a := hbn 0 (by omega)
    have c := up b
    simp only [Nat.zero_add] at a
    omega
  have pre := rot_pre l b (by omega) (0, 0)
  refine ⟨?_, ?_⟩
  · unfold ne
    rw [ne_zero_iff _ (0, 0) rfl]
    intro k hk
    rw [List.length_take, rot_length l b (by omega)] at hk
    rw [List.take_take, Nat.min_eq_left (by omega), pre (k + 1) (by omega)]
    have := hbn k (by omega)
    simp only
    omega
  · unfold ht
    rw [pre L h3]
    have hLb := hbn (L - 1) (by omega)
    have eL : b + (L - 1 + 1) = b + L := by omega
    rw [eL] at hLb
    simp only
    by_cases hone : hh l (b + L) = hh l b + 1
    · omega
    · exfalso
      have L2 : 1 < L := by
        rcases Nat.lt_or_ge 1 L with h | h
        · exact h
        · have : L = 1 := by omega
          subst this
          exact absurd H1 hone
      obtain ⟨j, j1, j2, j3, j4⟩ := last_of (fun k => hh l (b + k) = hh l b + 1) 1 H1 L L2
      have := (beg_iff l (b + j) (by omega)).mpr ?_
      · exact h5 j j1 j2 this
      · intro k hk
        have e : b + j + (k + 1) = b + (j + (k + 1)) := by omega
        rw [e]
        have hj : hh l (b + j) = hh l b + 1 := j3
        by_cases c1 : j + (k + 1) < L
        · have a := hbn (j + k) (by omega)
          have a' : hh l b < hh l (b + (j + (k + 1))) := a
          have := j4 (j + (k + 1)) (by omega) c1
          omega
        · by_cases c2 : j + (k + 1) = L
          · rw [c2]; omega
          · have a := hL (j + k - L) (by omega)
            have e2 : b + L + (j + k - L + 1) = b + (j + (k + 1)) := by omega
            rw [e2] at a
            omega
theorem units_ok (l : List Int) (hl : l.length < 10 ^ 6) (S : Sto) : F_units [ti l] S = .ok (.tup ((unitsOf l).map pr2)) S := by
  refine fnC_rt rfl ?_ rfl
  have hst : startD 5 [ti l] = [some (ti l), none, none, none, none] := rfl
  rw [hst]
  unfold B_units
  have bg := beginnings_ok l hl
  have hbl : (begs l).length ≤ l.length := by
    unfold begs
    exact Nat.le_trans (List.length_filter_le _ _) (by rw [List.length_range]; exact Nat.le_refl _)
  have s1 : ∀ S, dSl mkFl (.tup (ni (begs l))) (some 1) none S = .ok (.tup (ni ((begs l).drop 1))) S := fun S => by
    show R.ok (D.tup (cut (ni (begs l)) (some ((1 : Nat) : Int)) none)) S = _
    rw [cut_from]; unfold ni; rw [← List.map_drop]
  have s2 : ∀ S, dSl mkFl (.tup (ni (begs l))) none (some 1) S = .ok (.tup (ni ((begs l).take 1))) S := fun S => by
    show R.ok (D.tup (cut (ni (begs l)) none (some ((1 : Nat) : Int)))) S = _
    rw [cut_to]; unfold ni; rw [← List.map_take]
  have ad : ∀ S, dAdd (.tup (ni ((begs l).drop 1))) (.tup (ni ((begs l).take 1))) S = .ok (.tup (ni ((begs l).drop 1 ++ (begs l).take 1))) S := fun S => by
    have nl : ∀ x : List Nat, (ni x).length = x.length := fun x => by unfold ni; rw [List.length_map]
    show ifp ((ni ((begs l).drop 1)).length + (ni ((begs l).take 1)).length ≤ sizeLine) (R.ok (D.tup (ni ((begs l).drop 1) ++ ni ((begs l).take 1))) S) .stuck = _
    rw [ifp_pos (by rw [nl, nl, List.length_drop, List.length_take]; exact Nat.le_trans (show (begs l).length - 1 + min 1 (begs l).length ≤ 10 ^ 6 by omega) (by decide))]
    unfold ni; rw [List.map_append]
  let Z := zipD (ni (begs l)) (ni ((begs l).drop 1 ++ (begs l).take 1))
  let g : D → D := fun d => match d with
      | .tup [.int x, .int y] => .tup [.int x, .int ((y - x - 1) % (l.length : Int) + 1)]
      | d => d
  let pn : D → Ev := fun d => match d with
      | .tup [x, y] => [some (ti l), some (.tup (ni (begs l))), some (.int l.length), some x, some y]
      | d => []
  have key := eLc_pure (src := iZipD (aCons (eVar 1) (aCons (eOp dAdd (eSl mkFl (eVar 1) (oSome (eC (.int 1))) oNone) (eSl mkFl (eVar 1) oNone (oSome (eC (.int 1))))) aNil))) (T := tTup 2 (tCons (tN 3) (tCons (tN 4) tNil))) (vs := [3, 4]) (c := cYes) (f := E1_units) (ρ := [some (ti l), some (.tup (ni (begs l))), some (.int l.length), none, none]) (S := S) Z pn (fun _ => true) g (by
      simp only [eVar, eC, eOp, eT, eAnd, eOr, eNot, eIf, eAndV, eOrV, eNotV, eCall, aNil, aCons, aStar, sOf, eTup, eFl, eLoc, eSl, oNone, oSome, iOf, eNeg, eChain, eMt, bOf, eDict0, eRev, eListRg, iZipD, sRaise1, sRaise0, eCallV, List.lookup, R.bind_ok, R.bind_er, R.bind_stuck, R.toS_ok, R.toS_er, R.toS_stuck, SR.next_nx, SR.next_rt, SR.next_er, SR.next_bk, SR.next_ct, SR.next_stuck, sNil, sSeq, sBrk, sCnt, sExp, sRet, sRetN, sIf, sSet, sAsg, sAug, sPar2, sPar3, tN, DL.tTup, DL.tNil, DL.tCons, DL.tSub, iSeq, srcOf_tup, srcOf_fl, srcOf_kl, srcOf_ti, iRange1, iRange2, sFor, startD, List.map_cons, List.map_nil, List.length_cons, List.length_nil, List.replicate, List.cons_append, List.nil_append, List.getElem?_cons_zero, List.getElem?_cons_succ, List.set_cons_zero, List.set_cons_succ, dSub_int, dFdiv_int, dMod_int, dLt_int, dLe_int, dGt_int, dGe_int, dAddI_int, dSubI_int, dIsN_non, isN, dAdd_int, ll0, ll1, ll2, ll3, ll4, ll5, ll6, ll7, ll8, ll9, ll10, ll11, ll12, ll13, ll14, ll15, ll16, ll17, ll18, ll19, ll20, ll21, ll22, ll23, ll24, ll25, ll26, ll27, ll28, ll29, ll30, ll31, ll32, ll33, ll34, ll35, ll36, ll37, ll38, ll39, ll40, Nat.reduceSub, Nat.reduceAdd, Nat.reduceEqDiff, if_true, if_false, ifp_t, ifp_f, reduceIte, Bool.true_eq_false, Bool.false_eq_true, Option.map_some, Option.map_none, Option.bind_some, Option.bind_none, iZipD, s1, s2, ad, srcZip]
      rfl)
    (by
      intro d hd S'
      obtain ⟨i, hi⟩ := List.mem_iff_getElem?.mp hd
      obtain ⟨x, y, hx, hy, rfl⟩ := zipD_get hi
      unfold ni at hx hy
      rw [List.getElem?_map] at hx hy
      obtain ⟨a, ha, rfl⟩ := Option.map_eq_some_iff.mp hx
      obtain ⟨c, hc, rfl⟩ := Option.map_eq_some_iff.mp hy
      refine ⟨rfl, rfl, fun _ => ?_⟩
      have hp : (0 : Int) < (l.length : Int) := by
        have := (mem_begs.mp (List.mem_of_getElem? ha)).1
        omega
      show E1_units [some (ti l), some (.tup (ni (begs l))), some (.int l.length), some (.int a), some (.int c)] S' = .ok (.tup [.int a, .int (((c : Int) - a - 1) % (l.length : Int) + 1)]) S'
      simp only [eVar, eC, eOp, eT, eAnd, eOr, eNot, eIf, eAndV, eOrV, eNotV, eCall, aNil, aCons, aStar, sOf, eTup, eFl, eLoc, eSl, oNone, oSome, iOf, eNeg, eChain, eMt, bOf, eDict0, eRev, eListRg, iZipD, sRaise1, sRaise0, eCallV, List.lookup, R.bind_ok, R.bind_er, R.bind_stuck, R.toS_ok, R.toS_er, R.toS_stuck, SR.next_nx, SR.next_rt, SR.next_er, SR.next_bk, SR.next_ct, SR.next_stuck, sNil, sSeq, sBrk, sCnt, sExp, sRet, sRetN, sIf, sSet, sAsg, sAug, sPar2, sPar3, tN, DL.tTup, DL.tNil, DL.tCons, DL.tSub, iSeq, srcOf_tup, srcOf_fl, srcOf_kl, srcOf_ti, iRange1, iRange2, sFor, startD, List.map_cons, List.map_nil, List.length_cons, List.length_nil, List.replicate, List.cons_append, List.nil_append, List.getElem?_cons_zero, List.getElem?_cons_succ, List.set_cons_zero, List.set_cons_succ, dSub_int, dFdiv_int, dMod_int, dLt_int, dLe_int, dGt_int, dGe_int, dAddI_int, dSubI_int, dIsN_non, isN, dAdd_int, ll0, ll1, ll2, ll3, ll4, ll5, ll6, ll7, ll8, ll9, ll10, ll11, ll12, ll13, ll14, ll15, ll16, ll17, ll18, ll19, ll20, ll21, ll22, ll23, ll24, ll25, ll26, ll27, ll28, ll29, ll30, ll31, ll32, ll33, ll34, ll35, ll36, ll37, ll38, ll39, ll40, Nat.reduceSub, Nat.reduceAdd, Nat.reduceEqDiff, if_true, if_false, ifp_t, ifp_f, reduceIte, Bool.true_eq_false, Bool.false_eq_true, Option.map_some, Option.map_none, Option.bind_some, Option.bind_none, E1_units, hp])
    (by
      show (zipD _ _).length ≤ sizeLine
      rw [zipD_len]
      exact Nat.le_trans (Nat.min_le_left _ _) (by unfold ni; rw [List.length_map]; exact Nat.le_trans (show (begs l).length ≤ 10 ^ 6 by omega) (by decide)))
    (by
      intro d hd _
      obtain ⟨i, hi⟩ := List.mem_iff_getElem?.mp hd
      obtain ⟨x, y, hx, hy, rfl⟩ := zipD_get hi
      unfold ni at hx hy
      rw [List.getElem?_map] at hx hy
      obtain ⟨a, ha, rfl⟩ := Option.map_eq_some_iff.mp hx
      obtain ⟨c, hc, rfl⟩ := Option.map_eq_some_iff.mp hy
      show low S.length (.tup [.int a, .int (((c : Int) - a - 1) % (l.length : Int) + 1)]) = true
      simp [low, lowL])
  have fin : (Z.filter fun _ => true).map g = (unitsOf l).map pr2 := by
    rw [List.filter_eq_self.mpr (fun _ _ => rfl)]
    show (((ni (begs l)).zip (ni ((begs l).drop 1 ++ (begs l).take 1))).map fun q => D.tup [q.1, q.2]).map g = _
    unfold unitsOf
    cases h : begs l with
    | nil => rfl
    | cons f r =>
      have uz := un_zip l.length f f r (by rw [← h]; exact begs_lt l) (fun x hx => by rw [← h] at hx; exact (mem_begs.mp hx).1) (Nat.le_refl _)
      have e1 : (f :: r).drop 1 ++ (f :: r).take 1 = r ++ [f] := rfl
      rw [e1]
      have e2 : (un l.length f (f :: r)).map pr2 = ((un l.length f (f :: r)).map fun u => ((u.1 : Int), (u.2 : Int))).map fun v => D.tup [.int v.1, .int v.2] := by
        rw [List.map_map]; rfl
      simp only
      rw [e2, ← uz]
      unfold ni
      rw [List.zip_map, List.map_map, List.map_map, List.map_map]
      rfl
  rw [fin] at key
  simp only [eVar, eC, eOp, eT, eAnd, eOr, eNot, eIf, eAndV, eOrV, eNotV, eCall, aNil, aCons, aStar, sOf, eTup, eFl, eLoc, eSl, oNone, oSome, iOf, eNeg, eChain, eMt, bOf, eDict0, eRev, eListRg, iZipD, sRaise1, sRaise0, eCallV, List.lookup, R.bind_ok, R.bind_er, R.bind_stuck, R.toS_ok, R.toS_er, R.toS_stuck, SR.next_nx, SR.next_rt, SR.next_er, SR.next_bk, SR.next_ct, SR.next_stuck, sNil, sSeq, sBrk, sCnt, sExp, sRet, sRetN, sIf, sSet, sAsg, sAug, sPar2, sPar3, tN, DL.tTup, DL.tNil, DL.tCons, DL.tSub, iSeq, srcOf_tup, srcOf_fl, srcOf_kl, srcOf_ti, iRange1, iRange2, sFor, startD, List.map_cons, List.map_nil, List.length_cons, List.length_nil, List.replicate, List.cons_append, List.nil_append, List.getElem?_cons_zero, List.getElem?_cons_succ, List.set_cons_zero, List.set_cons_succ, dSub_int, dFdiv_int, dMod_int, dLt_int, dLe_int, dGt_int, dGe_int, dAddI_int, dSubI_int, dIsN_non, isN, dAdd_int, ll0, ll1, ll2, ll3, ll4, ll5, ll6, ll7, ll8, ll9, ll10, ll11, ll12, ll13, ll14, ll15, ll16, ll17, ll18, ll19, ll20, ll21, ll22, ll23, ll24, ll25, ll26, ll27, ll28, ll29, ll30, ll31, ll32, ll33, ll34, ll35, ll36, ll37, ll38, ll39, ll40, Nat.reduceSub, Nat.reduceAdd, Nat.reduceEqDiff, if_true, if_false, ifp_t, ifp_f, reduceIte, Bool.true_eq_false, Bool.false_eq_true, Option.map_some, Option.map_none, Option.bind_some, Option.bind_none, bg, ti_len, key, bTuple_fl]
/-! ### comprehensions over a list of the store; laws whose store grows -/
theorem compD_g {g : Sto → Prop} {T : Tg} {c : Ev → Sto → R Bool} {f : Ev → Sto → R D} {ρ : Ev} (ρd : D → Ev) (p : D → Bool) (e : D → D) (S : Sto) (hg : ∀ acc, g (S ++ [.lst acc])) : ∀ (ds acc : List D),
    (∀ d ∈ ds, ∀ S', T d ρ S' = some (ρd d, S') ∧ c (ρd d) S' = .ok (p d) S' ∧ (p d = true → f (ρd d) S' = .ok (e d) S')) → acc.length + ds.length ≤ sizeLine →
    compD g T c f S.length ρ ds (S ++ [.lst acc]) = some (S ++ [.lst (acc ++ (ds.filter p).map e)])
  | [], acc, _, _ => by rw [compD, if_pos (hg _)]; simp
  | d :: ds, acc, h, hl => by
    obtain ⟨h1, h2, h3⟩ := h d List.mem_cons_self (S ++ [.lst acc])
    have hl' : acc.length + (ds.length + 1) ≤ sizeLine := hl
    rw [compD, if_pos (hg _), h1]
    simp only [h2]
    cases hp : p d with
    | false =>
      rw [if_neg (by decide)]
      rw [compD_g ρd p e S hg ds acc (fun x hx => h x (List.mem_cons_of_mem _ hx)) (by omega)]
      simp [List.filter, hp]
    | true =>
      rw [if_pos rfl]
      simp only [h3 hp, getL_end]
      rw [ifp_pos (by omega), set_end]
      rw [compD_g ρd p e S hg ds (acc ++ [e d]) (fun x hx => h x (List.mem_cons_of_mem _ hx)) (by simp; omega)]
      simp [List.filter, hp]
theorem eLc_loc {n : Nat} {T : Tg} {vs : List Nat} {c : Ev → Sto → R Bool} {f : Ev → Sto → R D} {ρ : Ev} {S : Sto} {i : Nat} (ds : List D) (ρd : D → Ev) (p : D → Bool) (e : D → D) (hi : ρ[i]? = some (some (.loc n))) (hs : getQ S n = some ds)
    (h : ∀ d ∈ ds, ∀ S', T d (wipeD ρ vs) S' = some (ρd d, S') ∧ c (ρd d) S' = .ok (p d) S' ∧ (p d = true → f (ρd d) S' = .ok (e d) S')) (hl : ds.length ≤ sizeLine) (hlow : ∀ d ∈ ds, p d = true → low S.length (e d) = true) :
    eLc finFl (iSeq (eVar i)) T vs c f ρ S = .ok (.fl ((ds.filter p).map e)) S := by
  unfold eLc
  have hsrc : iSeq (eVar i) ρ S = .ok (ds, fun S => getQ S n = some ds) S := by
    unfold iSeq eVar
    simp only [hi, R.bind_ok, srcOf, hs]
  rw [hsrc]
  show (match compD (fun S => getQ S n = some ds) T c f S.length (wipeD ρ vs) ds (S ++ [Ob.lst []]) with
    | some S2 => finFl S S2
    | none => .stuck) = _
  have hg : ∀ acc, getQ (S ++ [.lst acc]) n = some ds := fun acc => by
    have hn : n < S.length := by
      rcases Nat.lt_or_ge n S.length with h | h
      · exact h
      · unfold getQ at hs
        rw [List.getElem?_eq_none h] at hs
        simp at hs
    unfold getQ at hs ⊢
    rw [List.getElem?_append_left hn]; exact hs
  rw [compD_g ρd p e S hg ds [] h (by simpa using hl)]
  simp only [List.nil_append]
  refine finFl_end (lowL_of fun d hd => ?_)
  obtain ⟨x, hx, rfl⟩ := List.mem_map.mp hd
  obtain ⟨h1, h2⟩ := List.mem_filter.mp hx
  exact hlow x h1 h2
theorem forD_grow {T : Tg} {B Z : Ev → Sto → SR} (I : Ev → Prop) (cost : Nat) : ∀ (ds : List D) (ρ : Ev) (S : Sto) (n : Nat) (rest : Sto), I ρ → Strm S n rest → n + ds.length * cost < 2 ^ 60 →
    (∀ d ∈ ds, ∀ ρ S n rest, I ρ → Strm S n rest → n + cost < 2 ^ 60 → ∃ ρ1 ρ2 S2 rest2, T d ρ S = some (ρ1, S) ∧ (B ρ1 S = .nx ρ2 S2 ∨ B ρ1 S = .ct ρ2 S2) ∧ I ρ2 ∧ Strm S2 (n + cost) rest2) →
    ∃ ρ' S' rest', I ρ' ∧ Strm S' (n + ds.length * cost) rest' ∧ forD yes T B Z ds ρ S = Z ρ' S'
  | [], ρ, S, n, rest, h, hs, _, _ => ⟨ρ, S, rest, h, by simpa using hs, forD_nil trivial⟩
  | d :: ds, ρ, S, n, rest, h, hs, hn, step => by
    have e1 : n + (d :: ds).length * cost = n + cost + ds.length * cost := by simp [Nat.add_mul]; omega
    rw [e1] at hn ⊢
    obtain ⟨ρ1, ρ2, S2, rest2, hT, hB, h2, s2⟩ := step d List.mem_cons_self ρ S n rest h hs (by omega)
    obtain ⟨ρ', S', rest', h3, s3, e⟩ := forD_grow I cost ds ρ2 S2 (n + cost) rest2 h2 s2 hn fun d' hd => step d' (List.mem_cons_of_mem _ hd)
    refine ⟨ρ', S', rest', h3, s3, ?_⟩
    rw [forD, if_pos (show yes S from trivial), hT]
    rcases hB with hB | hB <;> (simp only [hB]; exact e)
theorem law_grow {m N cost : Nat} {L : Ev → Sto → SR} (I : Option D → Ev → Prop) (hm : 2 ≤ m) (hN : (N : Int) < 2 ^ 62) (h0 : ∀ sc, I sc (sc :: some (.loc 1) :: List.replicate (m - 2) none)) (hc : N * cost < 2 ^ 60)
    (step : ∀ sc d ρ S n rest, I sc ρ → Strm S n rest → n + cost < 2 ^ 60 → ∃ ρ2 S2 rest2, L (ρ.set 2 (some d)) S = .nx ρ2 S2 ∧ I sc ρ2 ∧ Strm S2 (n + cost) rest2) :
    LawOk (fnC close m 1 (sSeq (sSet 1 (eCall F__law_stream (aCons (eVar 0) aNil))) (sSeq (sFor (iRange1 (aCons (eC (.int N)) aNil)) (tN 2) L sNil) (sRet (eC (.bl true)))))) := law_by fun ns hl _ => by
  obtain ⟨S0, h1, s0⟩ := stream_ok hl
  obtain ⟨ρ', S', _, _, _, hf⟩ := forD_grow (T := tN 2) (B := L) (Z := sNil) (I (some (.kl (ns.map D.int)))) cost (rangeD 0 N) (some (.kl (ns.map D.int)) :: some (.loc 1) :: List.replicate (m - 2) none) S0 0 [] (h0 _) s0 (by rw [rangeD_len]; omega) (by
    intro d hd ρ S n rest hI hS hn
    obtain ⟨ρ2, S2, rest2, e, i2, s2⟩ := step _ d ρ S n rest hI hS hn
    exact ⟨_, ρ2, S2, rest2, rfl, .inl e, i2, s2⟩)
  refine ⟨S', ?_⟩
  have hst : startD m [D.kl (ns.map D.int)] = some (.kl (ns.map D.int)) :: none :: List.replicate (m - 2) none := by
    obtain ⟨k, rfl⟩ : ∃ k, m = k + 2 := ⟨m - 2, by omega⟩
    simp [startD, List.replicate_succ]
  rw [hst]
  have hr : ((-(2 ^ 62) : Int) ≤ (N : Int) ∧ (N : Int) < 2 ^ 62) = True := by simp; omega
  simp only [eVar, eC, eOp, eT, eAnd, eOr, eNot, eIf, eAndV, eOrV, eNotV, eCall, aNil, aCons, aStar, sOf, eTup, eFl, eLoc, eSl, oNone, oSome, iOf, eNeg, eChain, eMt, bOf, eDict0, eRev, eListRg, iZipD, sRaise1, sRaise0, eCallV, List.lookup, R.bind_ok, R.bind_er, R.bind_stuck, R.toS_ok, R.toS_er, R.toS_stuck, SR.next_nx, SR.next_rt, SR.next_er, SR.next_bk, SR.next_ct, SR.next_stuck, sNil, sSeq, sBrk, sCnt, sExp, sRet, sRetN, sIf, sSet, sAsg, sAug, sPar2, sPar3, tN, DL.tTup, DL.tNil, DL.tCons, DL.tSub, iSeq, srcOf_tup, srcOf_fl, srcOf_kl, srcOf_ti, iRange1, iRange2, sFor, startD, List.map_cons, List.map_nil, List.length_cons, List.length_nil, List.replicate, List.cons_append, List.nil_append, List.getElem?_cons_zero, List.getElem?_cons_succ, List.set_cons_zero, List.set_cons_succ, dSub_int, dFdiv_int, dMod_int, dLt_int, dLe_int, dGt_int, dGe_int, dAddI_int, dSubI_int, dIsN_non, isN, dAdd_int, ll0, ll1, ll2, ll3, ll4, ll5, ll6, ll7, ll8, ll9, ll10, ll11, ll12, ll13, ll14, ll15, ll16, ll17, ll18, ll19, ll20, ll21, ll22, ll23, ll24, ll25, ll26, ll27, ll28, ll29, ll30, ll31, ll32, ll33, ll34, ll35, ll36, ll37, ll38, ll39, ll40, Nat.reduceSub, Nat.reduceAdd, Nat.reduceEqDiff, if_true, if_false, ifp_t, ifp_f, reduceIte, Bool.true_eq_false, Bool.false_eq_true, Option.map_some, Option.map_none, Option.bind_some, Option.bind_none, h1, hr, Int.toNat_natCast, hf]
end DL

/-! Far rings: runs of tokens, and their effects. -/
namespace DL
open PySem PySem.Spec L2
open PyProof.Rows hiding St
noncomputable def E1__law_total (ρ : Ev) (S : Sto) : R D :=
  (eOp dMulT (eOp dSub (eC (.int 1)) (eVar 1)) (eVar 2)) ρ S
noncomputable def B__law_total : Ev → Sto → SR :=
  (sRet (eCall bSum2 (aCons (eLc finFl (iSeq (eVar 0)) (tTup 2 (tCons (tN 1) (tCons (tN 2) tNil))) [1, 2] cYes E1__law_total) aNil)))
noncomputable def F__law_total : Fn := fnC close 3 1 B__law_total

noncomputable def L1__law_far (ρ : Ev) (S : Sto) : SR :=
  (sExp (eMt isLst mAppend (eVar 4) (aCons (eTup (aCons (eCall F__law_pick (aCons (eVar 0) (aCons (eVar 3) aNil))) (aCons (eOp dAdd (eC (.int 1)) (eCall F__law_draw (aCons (eVar 0) (aCons (eVar 2) aNil)))) aNil))) aNil))) ρ S
noncomputable def B__law_far : Ev → Sto → SR :=
  (sSeq (sPar2 3 4 (aCons (eCall F__law_pick (aCons (eVar 0) (aCons (eFl (aCons (eFl (aCons (eC (.int 0)) (aCons (eC (.int 1)) (aCons (eC (.int 2)) aNil)))) (aCons (eFl (aCons (eC (.int 0)) (aCons (eC (.int 2)) aNil))) (aCons (eFl (aCons (eC (.int 0)) (aCons (eC (.int 0)) (aCons (eC (.int 5)) (aCons (eC (.int 3)) aNil))))) (aCons (eFl (aCons (eC (.int 0)) (aCons (eC (.int 1)) (aCons (eC (.int 2)) (aCons (eC (.int 3)) (aCons (eC (.int 4)) (aCons (eC (.int 5)) aNil))))))) (aCons (eFl (aCons (eC (.int 1)) (aCons (eC (.int 0)) aNil))) (aCons (eFl (aCons (eC (.int 0)) aNil)) aNil))))))) aNil))) (aCons (eLoc aNil) aNil)))
    (sSeq (sFor (iRange1 (aCons (eOp dAdd (eC (.int 1)) (eCall F__law_draw (aCons (eVar 0) (aCons (eVar 1) aNil)))) aNil)) (tN 5) L1__law_far sNil)
    (sSeq (sSet 6 (eOp dSub (eCall F__law_draw (aCons (eVar 0) (aCons (eC (.int 5)) aNil))) (eCall F__law_total (aCons (eVar 4) aNil))))
    (sSeq (sIf (eAnd (eT (eOp (dEq false) (eCall F__law_draw (aCons (eVar 0) (aCons (eC (.int 2)) aNil))) (eC (.int 0)))) (eAnd (eT (eOp dGt (eVar 6) (eC (.int 0)))) (eT (eOp dLt (eCall bLen (aCons (eVar 4) aNil)) (eC (.int 12)))))) (sExp (eMt isLst mInsert (eVar 4) (aCons (eCall F__law_draw (aCons (eVar 0) (aCons (eOp dAdd (eCall bLen (aCons (eVar 4) aNil)) (eC (.int 1))) aNil))) (aCons (eTup (aCons (eC (.int 0)) (aCons (eVar 6) aNil))) aNil)))) sNil)
    (sRet (eCall bTuple (aCons (eVar 4) aNil)))))))
noncomputable def F__law_far : Fn := fnC close 7 3 B__law_far

noncomputable def E1__law_length (ρ : Ev) (S : Sto) : R D :=
  (eVar 2) ρ S
noncomputable def B__law_length : Ev → Sto → SR :=
  (sRet (eCall bSum2 (aCons (eLc finFl (iSeq (eVar 0)) (tTup 2 (tCons (tN 1) (tCons (tN 2) tNil))) [1, 2] cYes E1__law_length) aNil)))
noncomputable def F__law_length : Fn := fnC close 3 1 B__law_length

noncomputable def L1__law_tokens (ρ : Ev) (S : Sto) : SR :=
  (sSet 1 (eOp dAdd (eVar 1) (eOp dMulT (eTup (aCons (eVar 2) aNil)) (eVar 3)))) ρ S
noncomputable def B__law_tokens : Ev → Sto → SR :=
  (sSeq (sSet 1 (eTup aNil))
    (sSeq (sFor (iSeq (eVar 0)) (tTup 2 (tCons (tN 2) (tCons (tN 3) tNil))) L1__law_tokens sNil)
    (sRet (eVar 1))))
noncomputable def F__law_tokens : Fn := fnC close 4 1 B__law_tokens

noncomputable def L1__law_lowest (ρ : Ev) (S : Sto) : SR :=
  (sSeq (sSet 5 (eFl (aCons (eOp dSub (eOp dAdd (eVar 1) (eC (.int 1))) (eVar 3)) (aCons (eOp dAdd (eVar 1) (eOp dMulT (eOp dSub (eC (.int 1)) (eVar 3)) (eVar 4))) aNil))))
    (sSeq (sSet 2 (eCall bMinT (aCons (eIf (eT (eOp (dIsN false) (eVar 2) (eC .non))) (eVar 5) (eOp dAdd (eFl (aCons (eVar 2) aNil)) (eVar 5))) aNil)))
    (sSet 1 (eOp dIx (eVar 5) (eC (.int 1)))))) ρ S
noncomputable def B__law_lowest : Ev → Sto → SR :=
  (sSeq (sAsg (eTup (aCons (eC (.int 0)) (aCons (eC .non) aNil))) (tTup 2 (tCons (tN 1) (tCons (tN 2) tNil))))
    (sSeq (sFor (iSeq (eVar 0)) (tTup 2 (tCons (tN 3) (tCons (tN 4) tNil))) L1__law_lowest sNil)
    (sRet (eFl (aCons (eVar 2) (aCons (eVar 1) aNil))))))
noncomputable def F__law_lowest : Fn := fnC close 6 1 B__law_lowest

noncomputable def B__law_due : Ev → Sto → SR :=
  (sSeq (sIf (eT (eOp dLt (eCall F__law_length (aCons (eVar 0) aNil)) (eC (.int 200)))) (sRet (eCall bTuple (aCons (eCall F__law_missing (aCons (eCall F__law_tokens (aCons (eVar 0) aNil)) aNil)) aNil))) sNil)
    (sSeq (sSet 1 (eCall bMax (aCons (eC (.int 0)) (aCons (eOp dSub (eC (.int 1)) (eOp dIx (eCall F__law_lowest (aCons (eVar 0) aNil)) (eC (.int 0)))) aNil))))
    (sRet (eTup (aCons (eVar 1) (aCons (eOp dAdd (eVar 1) (eCall F__law_total (aCons (eVar 0) aNil))) aNil))))))
noncomputable def F__law_due : Fn := fnC close 2 1 B__law_due

noncomputable def E1_effect_of_runs (ρ : Ev) (S : Sto) : R D :=
  (eCall F_repeat_effect (aCons (eTup (aCons (eVar 2) (aCons (eC (.int 1)) aNil))) (aCons (eVar 3) aNil))) ρ S
noncomputable def B_effect_of_runs : Ev → Sto → SR :=
  (sSeq (sSet 1 (eLc finFl (iSeq (eVar 0)) (tTup 2 (tCons (tN 2) (tCons (tN 3) tNil))) [2, 3] cYes E1_effect_of_runs))
    (sRet (eCall F_join_effects (aStar (eVar 1) aNil))))
noncomputable def F_effect_of_runs : Fn := fnC close 4 1 B_effect_of_runs

noncomputable def B_far_effect : Ev → Sto → SR :=
  (sRet (eCall F_effect_of_runs (aCons (eVar 0) aNil)))
noncomputable def F_far_effect : Fn := fnC close 1 1 B_far_effect

noncomputable def E1_far_balance (ρ : Ev) (S : Sto) : R D :=
  (eOp dMulT (eOp dSub (eC (.int 1)) (eVar 1)) (eVar 2)) ρ S
noncomputable def B_far_balance : Ev → Sto → SR :=
  (sRet (eCall bSum2 (aCons (eLc finFl (iSeq (eVar 0)) (tTup 2 (tCons (tN 1) (tCons (tN 2) tNil))) [1, 2] cYes E1_far_balance) aNil)))
noncomputable def F_far_balance : Fn := fnC close 3 1 B_far_balance

noncomputable def E1_far_length (ρ : Ev) (S : Sto) : R D :=
  (eVar 2) ρ S
noncomputable def B_far_length : Ev → Sto → SR :=
  (sRet (eCall bSum2 (aCons (eLc finFl (iSeq (eVar 0)) (tTup 2 (tCons (tN 1) (tCons (tN 2) tNil))) [1, 2] cYes E1_far_length) aNil)))
noncomputable def F_far_length : Fn := fnC close 3 1 B_far_length

def eff (l : List Int) : Int × Int := (ne l, ne l + ((l.length : Int) - l.sum))
theorem stp_max : ∀ (b : List Int) (h m c : Int), (b.foldl stp (h, max m c)).2 = max c (b.foldl stp (h, m)).2
  | [], h, m, c => by simp; omega
  | t :: b, h, m, c => by
    rw [List.foldl_cons, List.foldl_cons]
    have e : stp (h, max m c) t = ((stp (h, m) t).1, max (stp (h, m) t).2 c) := by
      simp only [stp, Prod.mk.injEq, true_and]
      omega
    rw [e, stp_max b]
theorem stp_shift : ∀ (b : List Int) (h m k : Int), (b.foldl stp (h + k, m - k)).2 = (b.foldl stp (h, m)).2 - k
  | [], h, m, k => rfl
  | t :: b, h, m, k => by
    rw [List.foldl_cons, List.foldl_cons]
    have e : stp (h + k, m - k) t = ((stp (h, m) t).1 + k, (stp (h, m) t).2 - k) := by
      simp only [stp, Prod.mk.injEq]
      constructor <;> omega
    rw [e, stp_shift b]
theorem ne_app (a b : List Int) : ne (a ++ b) = max (ne a) (ne b - ht a) := by
  have e1 : ne (a ++ b) = (b.foldl stp (ht a, ne a)).2 := by
    unfold ne ht; rw [List.foldl_append]
  have e2 : (b.foldl stp (ht a, 0 - ht a)).2 = ne b - ht a := by
    have := stp_shift b 0 0 (ht a)
    rw [Int.zero_add] at this
    exact this
  rw [e1, ← e2]
  by_cases h : 0 - ht a ≤ ne a
  · have := stp_max b (ht a) (0 - ht a) (ne a)
    rw [show max (0 - ht a) (ne a) = ne a by omega] at this
    exact this
  · cases a with
    | nil => exfalso; exact h (by decide)
    | cons t a =>
      have := ne_ge (t :: a) (0, 0) (by simp)
      exfalso
      apply h
      show 0 - ht (t :: a) ≤ ne (t :: a)
      unfold ht ne
      omega
theorem eff_app (a b : List Int) : eff (a ++ b) = jn (eff a) (eff b) := by
  unfold eff jn
  rw [ne_app, ht_eq]
  simp only [List.length_append, List.sum_append, Int.natCast_add, Prod.mk.injEq]
  constructor <;> omega
theorem eff_nil : eff [] = (0, 0) := rfl
theorem eff_ok {l : List Int} (h : ∀ t ∈ l, Arity t) : Ok2 (eff l) := by
  refine ⟨ne_nn l, ?_⟩
  show 0 ≤ ne l + ((l.length : Int) - l.sum)
  cases l with
  | nil => decide
  | cons t a =>
    have := ne_ge (t :: a) (0, 0) (by simp)
    have e := ht_eq (t :: a)
    unfold ne
    unfold ht at e
    omega
theorem eff_fold : ∀ (ps : List (List Int)) (a : List Int), (ps.map eff).foldl jn (eff a) = eff (a ++ ps.flatten)
  | [], a => by simp
  | p :: ps, a => by
    rw [List.map_cons, List.foldl_cons, ← eff_app, eff_fold ps, List.flatten_cons, List.append_assoc]
theorem eff_flat (ps : List (List Int)) : (ps.map eff).foldl jn (0, 0) = eff ps.flatten := by
  have := eff_fold ps []
  rw [eff_nil] at this
  simpa using this
theorem eq_dp (a b : Int × Int) (S : Sto) : dEq true (dp a) (dp b) S = .ok (.bl (!decide (a = b))) S := by
  have := eq_ti true [a.1, a.2] [b.1, b.2] S
  rw [show ti [a.1, a.2] = dp a from rfl, show ti [b.1, b.2] = dp b from rfl] at this
  rw [this]
  obtain ⟨a1, a2⟩ := a
  obtain ⟨b1, b2⟩ := b
  simp
theorem effd (l : List Int) (hl : l.length < 10 ^ 6) (S : Sto) : F_effect_of [ti l] S = .ok (dp (eff l)) S := effect_ok l hl S
/-! ### runs -/
structure Run (e : Int × Int) : Prop where
  a0 : 0 ≤ e.1
  a5 : e.1 ≤ 5
  c1 : 1 ≤ e.2
  cM : e.2 ≤ 10 ^ 13
def toks (fs : List (Int × Int)) : List Int := (fs.map fun e => List.replicate e.2.toNat e.1).flatten
def tot (fs : List (Int × Int)) : Int := (fs.map fun e => (1 - e.1) * e.2).sum
def len (fs : List (Int × Int)) : Int := (fs.map fun e => e.2).sum
theorem sum_rep (a : Int) : ∀ n : Nat, (List.replicate n a).sum = a * n
  | 0 => by simp
  | n + 1 => by
    rw [List.replicate_succ, List.sum_cons, sum_rep a n, Int.natCast_add, Int.mul_add]; simp; omega
theorem toks_len : ∀ (fs : List (Int × Int)), (∀ e ∈ fs, Run e) → ((toks fs).length : Int) = len fs
  | [], _ => rfl
  | e :: fs, h => by
    have ih := toks_len fs fun x hx => h x (List.mem_cons_of_mem _ hx)
    have := (h e List.mem_cons_self).c1
    unfold toks len at ih ⊢
    rw [List.map_cons, List.flatten_cons, List.length_append, List.map_cons, List.sum_cons, Int.natCast_add, ih, List.length_replicate]
    omega
theorem toks_bal : ∀ (fs : List (Int × Int)), (∀ e ∈ fs, Run e) → ((toks fs).length : Int) - (toks fs).sum = tot fs
  | [], _ => rfl
  | e :: fs, h => by
    have ih := toks_bal fs fun x hx => h x (List.mem_cons_of_mem _ hx)
    have h1 := (h e List.mem_cons_self).c1
    unfold toks tot at ih ⊢
    rw [List.map_cons, List.flatten_cons, List.length_append, List.map_cons, List.sum_cons, Int.natCast_add, List.sum_append, sum_rep, List.length_replicate]
    have e1 : ((e.2.toNat : Nat) : Int) = e.2 := by omega
    rw [e1, Int.sub_mul, Int.one_mul]
    omega
theorem eff_one {a : Int} (h : 0 ≤ a) : eff [a] = (a, 1) := by
  unfold eff ne
  simp [stp]
  omega
theorem eff_run {e : Int × Int} (h : Run e) : eff (List.replicate e.2.toNat e.1) = rp (e.1, 1) e.2 := by
  have ok : Ok2 (e.1, 1) := ⟨h.a0, by show (0 : Int) ≤ 1; decide⟩
  have := jn_rep ok e.2.toNat
  have e1 : ((e.2.toNat : Nat) : Int) = e.2 := by have := h.c1; omega
  rw [e1, ← eff_one h.a0, ← List.map_replicate, eff_flat] at this
  rw [← eff_one h.a0, ← this]
  congr 1
  generalize e.2.toNat = n
  induction n with
  | zero => rfl
  | succ n ih => rw [List.replicate_succ, List.replicate_succ, List.flatten_cons, ← ih]; rfl
theorem eff_runs (fs : List (Int × Int)) (h : ∀ e ∈ fs, Run e) : (fs.map fun e => rp (e.1, 1) e.2).foldl jn (0, 0) = eff (toks fs) := by
  unfold toks
  rw [← eff_flat, List.map_map]
  congr 1
  apply List.map_congr_left
  intro e he
  exact (eff_run (h e he)).symm
/-! ### the small defs, of tuples -/
theorem iS_tup {i : Nat} {ds : List D} {ρ : Ev} (h : ρ[i]? = some (some (.tup ds))) (S : Sto) : iSeq (eVar i) ρ S = .ok (ds, yes) S := by
  unfold iSeq eVar
  simp only [h, R.bind_ok, srcOf_tup]
theorem mulT_int {i j : Int} (h : -(2 ^ 64) < i ∧ i < 2 ^ 64) (S : Sto) : dMulT (.int i) (.int j) S = .ok (.int (i * j)) S := mul_small h S
theorem sum_fli (l : List Int) (S : Sto) : bSum2 [.fl (l.map D.int)] S = .ok (.int l.sum) S := by
  show (match intsOf (l.map D.int) with
    | some is => R.ok (D.int is.sum) S
    | none => R.stuck) = _
  rw [intsOf_map]
theorem pair_lc {i j k : Nat} {f : Ev → Sto → R D} {ρ : Ev} {S : Sto} {src : Ev → Sto → R Src} {fs : List (Int × Int)} (g : Int × Int → Int) (ρd : Int × Int → Ev) (hs : src ρ S = .ok (fs.map dp, yes) S) (hl : fs.length ≤ 100)
    (hT : ∀ e ∈ fs, ∀ S', tTup 2 (tCons (tN j) (tCons (tN k) tNil)) (dp e) (wipeD ρ [j, k]) S' = some (ρd e, S')) (hf : ∀ e ∈ fs, ∀ S', f (ρd e) S' = .ok (.int (g e)) S') :
    eLc finFl src (tTup 2 (tCons (tN j) (tCons (tN k) tNil))) [j, k] cYes f ρ S = .ok (.fl ((fs.map g).map D.int)) S := by
  let un : D → Int × Int := fun d => match d with
    | .tup [.int a, .int b] => (a, b)
    | _ => (0, 0)
  have hu : ∀ e, un (dp e) = e := fun e => rfl
  rw [eLc_pure (src := src) (fs.map dp) (fun d => ρd (un d)) (fun _ => true) (fun d => .int (g (un d))) hs (by
    intro d hd S'
    obtain ⟨e, he, rfl⟩ := List.mem_map.mp hd
    rw [hu]
    exact ⟨hT e he S', rfl, fun _ => hf e he S'⟩) (by rw [List.length_map]; exact Nat.le_trans hl (by decide)) (by
    intro d hd _; rfl)]
  congr 2
  rw [List.filter_eq_self.mpr (fun _ _ => rfl), List.map_map, List.map_map]
  rfl
theorem total_ok (fs : List (Int × Int)) (hl : fs.length ≤ 100) (hr : ∀ e ∈ fs, Run e) (S : Sto) : F__law_total [.tup (fs.map dp)] S = .ok (.int (tot fs)) S := by
  refine fnC_rt rfl ?_ rfl
  have hst : startD 3 [D.tup (fs.map dp)] = [some (.tup (fs.map dp)), none, none] := rfl
  rw [hst]
  unfold B__law_total
  have key := pair_lc (i := 0) (j := 1) (k := 2) (f := E1__law_total) (ρ := [some (.tup (fs.map dp)), none, none]) (S := S) (src := iSeq (eVar 0)) (fs := fs) (fun e => (1 - e.1) * e.2) (fun e => [some (.tup (fs.map dp)), some (.int e.1), some (.int e.2)]) (iS_tup rfl S) hl (fun e _ S' => rfl) (by
    intro e he S'
    have h := hr e he
    have := h.a0
    have := h.a5
    have m := mulT_int (i := 1 - e.1) (j := e.2) (by omega)
    simp only [eVar, eC, eOp, eT, eAnd, eOr, eNot, eIf, eAndV, eOrV, eNotV, eCall, aNil, aCons, aStar, sOf, eTup, eFl, eLoc, eSl, oNone, oSome, iOf, eNeg, eChain, eMt, bOf, eDict0, eRev, eListRg, iZipD, sRaise1, sRaise0, eCallV, List.lookup, R.bind_ok, R.bind_er, R.bind_stuck, R.toS_ok, R.toS_er, R.toS_stuck, SR.next_nx, SR.next_rt, SR.next_er, SR.next_bk, SR.next_ct, SR.next_stuck, sNil, sSeq, sBrk, sCnt, sExp, sRet, sRetN, sIf, sSet, sAsg, sAug, sPar2, sPar3, tN, DL.tTup, DL.tNil, DL.tCons, DL.tSub, iSeq, srcOf_tup, srcOf_fl, srcOf_kl, srcOf_ti, iRange1, iRange2, sFor, startD, List.map_cons, List.map_nil, List.length_cons, List.length_nil, List.replicate, List.cons_append, List.nil_append, List.getElem?_cons_zero, List.getElem?_cons_succ, List.set_cons_zero, List.set_cons_succ, dSub_int, dFdiv_int, dMod_int, dLt_int, dLe_int, dGt_int, dGe_int, dAddI_int, dSubI_int, dIsN_non, isN, dAdd_int, ll0, ll1, ll2, ll3, ll4, ll5, ll6, ll7, ll8, ll9, ll10, ll11, ll12, ll13, ll14, ll15, ll16, ll17, ll18, ll19, ll20, ll21, ll22, ll23, ll24, ll25, ll26, ll27, ll28, ll29, ll30, ll31, ll32, ll33, ll34, ll35, ll36, ll37, ll38, ll39, ll40, Nat.reduceSub, Nat.reduceAdd, Nat.reduceEqDiff, if_true, if_false, ifp_t, ifp_f, reduceIte, Bool.true_eq_false, Bool.false_eq_true, Option.map_some, Option.map_none, Option.bind_some, Option.bind_none, E1__law_total, m])
  simp only [eVar, eC, eOp, eT, eAnd, eOr, eNot, eIf, eAndV, eOrV, eNotV, eCall, aNil, aCons, aStar, sOf, eTup, eFl, eLoc, eSl, oNone, oSome, iOf, eNeg, eChain, eMt, bOf, eDict0, eRev, eListRg, iZipD, sRaise1, sRaise0, eCallV, List.lookup, R.bind_ok, R.bind_er, R.bind_stuck, R.toS_ok, R.toS_er, R.toS_stuck, SR.next_nx, SR.next_rt, SR.next_er, SR.next_bk, SR.next_ct, SR.next_stuck, sNil, sSeq, sBrk, sCnt, sExp, sRet, sRetN, sIf, sSet, sAsg, sAug, sPar2, sPar3, tN, DL.tTup, DL.tNil, DL.tCons, DL.tSub, iSeq, srcOf_tup, srcOf_fl, srcOf_kl, srcOf_ti, iRange1, iRange2, sFor, startD, List.map_cons, List.map_nil, List.length_cons, List.length_nil, List.replicate, List.cons_append, List.nil_append, List.getElem?_cons_zero, List.getElem?_cons_succ, List.set_cons_zero, List.set_cons_succ, dSub_int, dFdiv_int, dMod_int, dLt_int, dLe_int, dGt_int, dGe_int, dAddI_int, dSubI_int, dIsN_non, isN, dAdd_int, ll0, ll1, ll2, ll3, ll4, ll5, ll6, ll7, ll8, ll9, ll10, ll11, ll12, ll13, ll14, ll15, ll16, ll17, ll18, ll19, ll20, ll21, ll22, ll23, ll24, ll25, ll26, ll27, ll28, ll29, ll30, ll31, ll32, ll33, ll34, ll35, ll36, ll37, ll38, ll39, ll40, Nat.reduceSub, Nat.reduceAdd, Nat.reduceEqDiff, if_true, if_false, ifp_t, ifp_f, reduceIte, Bool.true_eq_false, Bool.false_eq_true, Option.map_some, Option.map_none, Option.bind_some, Option.bind_none, key, sum_fli]
  rfl
theorem totalL_ok {S : Sto} {n : Nat} (fs : List (Int × Int)) (hq : getQ S n = some (fs.map dp)) (hl : fs.length ≤ 100) (hr : ∀ e ∈ fs, Run e) : F__law_total [.loc n] S = .ok (.int (tot fs)) S := by
  refine fnC_rt rfl ?_ rfl
  have hst : startD 3 [D.loc n] = [some (.loc n), none, none] := rfl
  rw [hst]
  unfold B__law_total
  let un : D → Int × Int := fun d => match d with
    | .tup [.int a, .int b] => (a, b)
    | _ => (0, 0)
  have hu : ∀ e, un (dp e) = e := fun e => rfl
  have key := eLc_loc (n := n) (T := tTup 2 (tCons (tN 1) (tCons (tN 2) tNil))) (vs := [1, 2]) (c := cYes) (f := E1__law_total) (ρ := [some (.loc n), none, none]) (S := S) (i := 0) (fs.map dp) (fun d => [some (.loc n), some (.int (un d).1), some (.int (un d).2)]) (fun _ => true) (fun d => .int ((1 - (un d).1) * (un d).2)) rfl hq (by
    intro d hd S'
    obtain ⟨e, he, rfl⟩ := List.mem_map.mp hd
    rw [hu]
    refine ⟨rfl, rfl, fun _ => ?_⟩
    have h := hr e he
    have := h.a0
    have := h.a5
    have m := mulT_int (i := 1 - e.1) (j := e.2) (by omega)
    simp only [eVar, eC, eOp, eT, eAnd, eOr, eNot, eIf, eAndV, eOrV, eNotV, eCall, aNil, aCons, aStar, sOf, eTup, eFl, eLoc, eSl, oNone, oSome, iOf, eNeg, eChain, eMt, bOf, eDict0, eRev, eListRg, iZipD, sRaise1, sRaise0, eCallV, List.lookup, R.bind_ok, R.bind_er, R.bind_stuck, R.toS_ok, R.toS_er, R.toS_stuck, SR.next_nx, SR.next_rt, SR.next_er, SR.next_bk, SR.next_ct, SR.next_stuck, sNil, sSeq, sBrk, sCnt, sExp, sRet, sRetN, sIf, sSet, sAsg, sAug, sPar2, sPar3, tN, DL.tTup, DL.tNil, DL.tCons, DL.tSub, iSeq, srcOf_tup, srcOf_fl, srcOf_kl, srcOf_ti, iRange1, iRange2, sFor, startD, List.map_cons, List.map_nil, List.length_cons, List.length_nil, List.replicate, List.cons_append, List.nil_append, List.getElem?_cons_zero, List.getElem?_cons_succ, List.set_cons_zero, List.set_cons_succ, dSub_int, dFdiv_int, dMod_int, dLt_int, dLe_int, dGt_int, dGe_int, dAddI_int, dSubI_int, dIsN_non, isN, dAdd_int, ll0, ll1, ll2, ll3, ll4, ll5, ll6, ll7, ll8, ll9, ll10, ll11, ll12, ll13, ll14, ll15, ll16, ll17, ll18, ll19, ll20, ll21, ll22, ll23, ll24, ll25, ll26, ll27, ll28, ll29, ll30, ll31, ll32, ll33, ll34, ll35, ll36, ll37, ll38, ll39, ll40, Nat.reduceSub, Nat.reduceAdd, Nat.reduceEqDiff, if_true, if_false, ifp_t, ifp_f, reduceIte, Bool.true_eq_false, Bool.false_eq_true, Option.map_some, Option.map_none, Option.bind_some, Option.bind_none, E1__law_total, m]) (by rw [List.length_map]; exact Nat.le_trans hl (by decide)) (by intro d hd _; rfl)
  have e1 : ((fs.map dp).filter fun _ => true).map (fun d => D.int ((1 - (un d).1) * (un d).2)) = (fs.map fun e => (1 - e.1) * e.2).map D.int := by
    rw [List.filter_eq_self.mpr (fun _ _ => rfl), List.map_map, List.map_map]
    rfl
  rw [e1] at key
  simp only [eVar, eC, eOp, eT, eAnd, eOr, eNot, eIf, eAndV, eOrV, eNotV, eCall, aNil, aCons, aStar, sOf, eTup, eFl, eLoc, eSl, oNone, oSome, iOf, eNeg, eChain, eMt, bOf, eDict0, eRev, eListRg, iZipD, sRaise1, sRaise0, eCallV, List.lookup, R.bind_ok, R.bind_er, R.bind_stuck, R.toS_ok, R.toS_er, R.toS_stuck, SR.next_nx, SR.next_rt, SR.next_er, SR.next_bk, SR.next_ct, SR.next_stuck, sNil, sSeq, sBrk, sCnt, sExp, sRet, sRetN, sIf, sSet, sAsg, sAug, sPar2, sPar3, tN, DL.tTup, DL.tNil, DL.tCons, DL.tSub, iSeq, srcOf_tup, srcOf_fl, srcOf_kl, srcOf_ti, iRange1, iRange2, sFor, startD, List.map_cons, List.map_nil, List.length_cons, List.length_nil, List.replicate, List.cons_append, List.nil_append, List.getElem?_cons_zero, List.getElem?_cons_succ, List.set_cons_zero, List.set_cons_succ, dSub_int, dFdiv_int, dMod_int, dLt_int, dLe_int, dGt_int, dGe_int, dAddI_int, dSubI_int, dIsN_non, isN, dAdd_int, ll0, ll1, ll2, ll3, ll4, ll5, ll6, ll7, ll8, ll9, ll10, ll11, ll12, ll13, ll14, ll15, ll16, ll17, ll18, ll19, ll20, ll21, ll22, ll23, ll24, ll25, ll26, ll27, ll28, ll29, ll30, ll31, ll32, ll33, ll34, ll35, ll36, ll37, ll38, ll39, ll40, Nat.reduceSub, Nat.reduceAdd, Nat.reduceEqDiff, if_true, if_false, ifp_t, ifp_f, reduceIte, Bool.true_eq_false, Bool.false_eq_true, Option.map_some, Option.map_none, Option.bind_some, Option.bind_none, key, sum_fli]
  rfl
theorem length_ok (fs : List (Int × Int)) (hl : fs.length ≤ 100) (S : Sto) : F__law_length [.tup (fs.map dp)] S = .ok (.int (len fs)) S := by
  refine fnC_rt rfl ?_ rfl
  have hst : startD 3 [D.tup (fs.map dp)] = [some (.tup (fs.map dp)), none, none] := rfl
  rw [hst]
  unfold B__law_length
  have key := pair_lc (i := 0) (j := 1) (k := 2) (f := E1__law_length) (ρ := [some (.tup (fs.map dp)), none, none]) (S := S) (src := iSeq (eVar 0)) (fs := fs) (fun e => e.2) (fun e => [some (.tup (fs.map dp)), some (.int e.1), some (.int e.2)]) (iS_tup rfl S) hl (fun e _ S' => rfl) (fun e he S' => rfl)
  simp only [eVar, eC, eOp, eT, eAnd, eOr, eNot, eIf, eAndV, eOrV, eNotV, eCall, aNil, aCons, aStar, sOf, eTup, eFl, eLoc, eSl, oNone, oSome, iOf, eNeg, eChain, eMt, bOf, eDict0, eRev, eListRg, iZipD, sRaise1, sRaise0, eCallV, List.lookup, R.bind_ok, R.bind_er, R.bind_stuck, R.toS_ok, R.toS_er, R.toS_stuck, SR.next_nx, SR.next_rt, SR.next_er, SR.next_bk, SR.next_ct, SR.next_stuck, sNil, sSeq, sBrk, sCnt, sExp, sRet, sRetN, sIf, sSet, sAsg, sAug, sPar2, sPar3, tN, DL.tTup, DL.tNil, DL.tCons, DL.tSub, iSeq, srcOf_tup, srcOf_fl, srcOf_kl, srcOf_ti, iRange1, iRange2, sFor, startD, List.map_cons, List.map_nil, List.length_cons, List.length_nil, List.replicate, List.cons_append, List.nil_append, List.getElem?_cons_zero, List.getElem?_cons_succ, List.set_cons_zero, List.set_cons_succ, dSub_int, dFdiv_int, dMod_int, dLt_int, dLe_int, dGt_int, dGe_int, dAddI_int, dSubI_int, dIsN_non, isN, dAdd_int, ll0, ll1, ll2, ll3, ll4, ll5, ll6, ll7, ll8, ll9, ll10, ll11, ll12, ll13, ll14, ll15, ll16, ll17, ll18, ll19, ll20, ll21, ll22, ll23, ll24, ll25, ll26, ll27, ll28, ll29, ll30, ll31, ll32, ll33, ll34, ll35, ll36, ll37, ll38, ll39, ll40, Nat.reduceSub, Nat.reduceAdd, Nat.reduceEqDiff, if_true, if_false, ifp_t, ifp_f, reduceIte, Bool.true_eq_false, Bool.false_eq_true, Option.map_some, Option.map_none, Option.bind_some, Option.bind_none, key, sum_fli]
  rfl
theorem far_length_ok (fs : List (Int × Int)) (hl : fs.length ≤ 100) (S : Sto) : F_far_length [.tup (fs.map dp)] S = .ok (.int (len fs)) S := length_ok fs hl S
theorem far_balance_ok (fs : List (Int × Int)) (hl : fs.length ≤ 100) (hr : ∀ e ∈ fs, Run e) (S : Sto) : F_far_balance [.tup (fs.map dp)] S = .ok (.int (tot fs)) S := total_ok fs hl hr S
theorem runs_ok (fs : List (Int × Int)) (hl : fs.length ≤ 40) (hr : ∀ e ∈ fs, Run e) (S : Sto) : F_effect_of_runs [.tup (fs.map dp)] S = .ok (dp (eff (toks fs))) S := by
  refine fnC_rt rfl ?_ rfl
  have hst : startD 4 [D.tup (fs.map dp)] = [some (.tup (fs.map dp)), none, none, none] := rfl
  rw [hst]
  unfold B_effect_of_runs
  let un : D → Int × Int := fun d => match d with
    | .tup [.int a, .int b] => (a, b)
    | _ => (0, 0)
  have hu : ∀ e, un (dp e) = e := fun e => rfl
  have key := eLc_pure (src := iSeq (eVar 0)) (T := tTup 2 (tCons (tN 2) (tCons (tN 3) tNil))) (vs := [2, 3]) (c := cYes) (f := E1_effect_of_runs) (ρ := [some (.tup (fs.map dp)), none, none, none]) (S := S) (fs.map dp) (fun d => [some (.tup (fs.map dp)), none, some (.int (un d).1), some (.int (un d).2)]) (fun _ => true) (fun d => dp (rp ((un d).1, 1) (un d).2)) (iS_tup rfl S) (by
    intro d hd S'
    obtain ⟨e, he, rfl⟩ := List.mem_map.mp hd
    rw [hu]
    refine ⟨rfl, rfl, fun _ => ?_⟩
    have h := hr e he
    have := h.c1
    have := h.cM
    have r := repeat_ok (e.1, 1) (n := e.2) (by omega) (by omega)
    have r' : ∀ S, F_repeat_effect [.tup [.int e.1, .int 1], .int e.2] S = .ok (dp (rp (e.1, 1) e.2)) S := r
    simp only [eVar, eC, eOp, eT, eAnd, eOr, eNot, eIf, eAndV, eOrV, eNotV, eCall, aNil, aCons, aStar, sOf, eTup, eFl, eLoc, eSl, oNone, oSome, iOf, eNeg, eChain, eMt, bOf, eDict0, eRev, eListRg, iZipD, sRaise1, sRaise0, eCallV, List.lookup, R.bind_ok, R.bind_er, R.bind_stuck, R.toS_ok, R.toS_er, R.toS_stuck, SR.next_nx, SR.next_rt, SR.next_er, SR.next_bk, SR.next_ct, SR.next_stuck, sNil, sSeq, sBrk, sCnt, sExp, sRet, sRetN, sIf, sSet, sAsg, sAug, sPar2, sPar3, tN, DL.tTup, DL.tNil, DL.tCons, DL.tSub, iSeq, srcOf_tup, srcOf_fl, srcOf_kl, srcOf_ti, iRange1, iRange2, sFor, startD, List.map_cons, List.map_nil, List.length_cons, List.length_nil, List.replicate, List.cons_append, List.nil_append, List.getElem?_cons_zero, List.getElem?_cons_succ, List.set_cons_zero, List.set_cons_succ, dSub_int, dFdiv_int, dMod_int, dLt_int, dLe_int, dGt_int, dGe_int, dAddI_int, dSubI_int, dIsN_non, isN, dAdd_int, ll0, ll1, ll2, ll3, ll4, ll5, ll6, ll7, ll8, ll9, ll10, ll11, ll12, ll13, ll14, ll15, ll16, ll17, ll18, ll19, ll20, ll21, ll22, ll23, ll24, ll25, ll26, ll27, ll28, ll29, ll30, ll31, ll32, ll33, ll34, ll35, ll36, ll37, ll38, ll39, ll40, Nat.reduceSub, Nat.reduceAdd, Nat.reduceEqDiff, if_true, if_false, ifp_t, ifp_f, reduceIte, Bool.true_eq_false, Bool.false_eq_true, Option.map_some, Option.map_none, Option.bind_some, Option.bind_none, E1_effect_of_runs, r']) (by rw [List.length_map]; exact Nat.le_trans hl (by decide)) (by intro d hd _; rfl)
  have e1 : ((fs.map dp).filter fun _ => true).map (fun d => dp (rp ((un d).1, 1) (un d).2)) = (fs.map fun e => rp (e.1, 1) e.2).map dp := by
    rw [List.filter_eq_self.mpr (fun _ _ => rfl), List.map_map, List.map_map]
    rfl
  rw [e1] at key
  have j := join_ok (fs.map fun e => rp (e.1, 1) e.2) (by rw [List.length_map]; exact hl)
  rw [eff_runs fs hr] at j
  have sq : ∀ (l : List D) S, seqOf S (.fl l) = some l := fun l S => rfl
  simp only [eVar, eC, eOp, eT, eAnd, eOr, eNot, eIf, eAndV, eOrV, eNotV, eCall, aNil, aCons, aStar, sOf, eTup, eFl, eLoc, eSl, oNone, oSome, iOf, eNeg, eChain, eMt, bOf, eDict0, eRev, eListRg, iZipD, sRaise1, sRaise0, eCallV, List.lookup, R.bind_ok, R.bind_er, R.bind_stuck, R.toS_ok, R.toS_er, R.toS_stuck, SR.next_nx, SR.next_rt, SR.next_er, SR.next_bk, SR.next_ct, SR.next_stuck, sNil, sSeq, sBrk, sCnt, sExp, sRet, sRetN, sIf, sSet, sAsg, sAug, sPar2, sPar3, tN, DL.tTup, DL.tNil, DL.tCons, DL.tSub, iSeq, srcOf_tup, srcOf_fl, srcOf_kl, srcOf_ti, iRange1, iRange2, sFor, startD, List.map_cons, List.map_nil, List.length_cons, List.length_nil, List.replicate, List.cons_append, List.nil_append, List.getElem?_cons_zero, List.getElem?_cons_succ, List.set_cons_zero, List.set_cons_succ, dSub_int, dFdiv_int, dMod_int, dLt_int, dLe_int, dGt_int, dGe_int, dAddI_int, dSubI_int, dIsN_non, isN, dAdd_int, ll0, ll1, ll2, ll3, ll4, ll5, ll6, ll7, ll8, ll9, ll10, ll11, ll12, ll13, ll14, ll15, ll16, ll17, ll18, ll19, ll20, ll21, ll22, ll23, ll24, ll25, ll26, ll27, ll28, ll29, ll30, ll31, ll32, ll33, ll34, ll35, ll36, ll37, ll38, ll39, ll40, Nat.reduceSub, Nat.reduceAdd, Nat.reduceEqDiff, if_true, if_false, ifp_t, ifp_f, reduceIte, Bool.true_eq_false, Bool.false_eq_true, Option.map_some, Option.map_none, Option.bind_some, Option.bind_none, key, sq, List.append_nil, j]
theorem far_effect_ok (fs : List (Int × Int)) (hl : fs.length ≤ 40) (hr : ∀ e ∈ fs, Run e) (S : Sto) : F_far_effect [.tup (fs.map dp)] S = .ok (dp (eff (toks fs))) S := by
  refine fnC_rt rfl ?_ rfl
  unfold B_far_effect
  simp only [eVar, eC, eOp, eT, eAnd, eOr, eNot, eIf, eAndV, eOrV, eNotV, eCall, aNil, aCons, aStar, sOf, eTup, eFl, eLoc, eSl, oNone, oSome, iOf, eNeg, eChain, eMt, bOf, eDict0, eRev, eListRg, iZipD, sRaise1, sRaise0, eCallV, List.lookup, R.bind_ok, R.bind_er, R.bind_stuck, R.toS_ok, R.toS_er, R.toS_stuck, SR.next_nx, SR.next_rt, SR.next_er, SR.next_bk, SR.next_ct, SR.next_stuck, sNil, sSeq, sBrk, sCnt, sExp, sRet, sRetN, sIf, sSet, sAsg, sAug, sPar2, sPar3, tN, DL.tTup, DL.tNil, DL.tCons, DL.tSub, iSeq, srcOf_tup, srcOf_fl, srcOf_kl, srcOf_ti, iRange1, iRange2, sFor, startD, List.map_cons, List.map_nil, List.length_cons, List.length_nil, List.replicate, List.cons_append, List.nil_append, List.getElem?_cons_zero, List.getElem?_cons_succ, List.set_cons_zero, List.set_cons_succ, dSub_int, dFdiv_int, dMod_int, dLt_int, dLe_int, dGt_int, dGe_int, dAddI_int, dSubI_int, dIsN_non, isN, dAdd_int, ll0, ll1, ll2, ll3, ll4, ll5, ll6, ll7, ll8, ll9, ll10, ll11, ll12, ll13, ll14, ll15, ll16, ll17, ll18, ll19, ll20, ll21, ll22, ll23, ll24, ll25, ll26, ll27, ll28, ll29, ll30, ll31, ll32, ll33, ll34, ll35, ll36, ll37, ll38, ll39, ll40, Nat.reduceSub, Nat.reduceAdd, Nat.reduceEqDiff, if_true, if_false, ifp_t, ifp_f, reduceIte, Bool.true_eq_false, Bool.false_eq_true, Option.map_some, Option.map_none, Option.bind_some, Option.bind_none, runs_ok fs hl hr]
/-! ### what is due -/
theorem tokens_loop (x0 : Option D) (S : Sto) : ∀ (fs : List (Int × Int)) (acc : List Int) (x2 x3 : Option D), (∀ e ∈ fs, Run e) → (acc.length : Int) + len fs < 200 →
    ∃ y2 y3, forD yes (tTup 2 (tCons (tN 2) (tCons (tN 3) tNil))) L1__law_tokens sNil (fs.map dp) [x0, some (ti acc), x2, x3] S = .nx [x0, some (ti (acc ++ toks fs)), y2, y3] S
  | [], acc, x2, x3, _, _ => ⟨x2, x3, by
      rw [show toks [] = [] from rfl, List.append_nil]
      exact forD_nil trivial⟩
  | e :: fs, acc, x2, x3, hr, hl => by
    have h := hr e List.mem_cons_self
    have hr' : ∀ e ∈ fs, Run e := fun x hx => hr x (List.mem_cons_of_mem _ hx)
    have c1 := h.c1
    have hlen : len (e :: fs) = e.2 + len fs := by unfold len; rw [List.map_cons, List.sum_cons]
    have hp : 0 ≤ len fs := by rw [← toks_len fs hr']; omega
    obtain ⟨n, hn⟩ : ∃ n : Nat, e.2 = n := ⟨e.2.toNat, by omega⟩
    obtain ⟨y2, y3, ih⟩ := tokens_loop x0 S fs (acc ++ List.replicate n e.1) (some (.int e.1)) (some (.int e.2)) hr' (by simp; omega)
    refine ⟨y2, y3, ?_⟩
    have m1 : ∀ S, dMulT (.tup [.int e.1]) (.int (n : Int)) S = .ok (ti (List.replicate n e.1)) S := fun S => by
      show ifp (-(2 ^ 63) ≤ (n : Int) ∧ (n : Int) ≤ 1000 ∧ [D.int e.1].length ≤ 1000) (R.ok (D.tup (List.replicate (n : Int).toNat [D.int e.1]).flatten) S) .stuck = _
      rw [ifp_pos ⟨by omega, by omega, by simp⟩]
      have : (List.replicate n [D.int e.1]).flatten = (List.replicate n e.1).map D.int := by
        rw [List.map_replicate]
        induction n with
        | zero => rfl
        | succ n ih => simp [List.replicate_succ]
      rw [Int.toNat_natCast, this]; rfl
    have ad := add_ti acc (List.replicate n e.1) (by rw [List.length_replicate]; exact Nat.le_trans (show acc.length + n ≤ 200 by omega) (by decide))
    rw [List.map_cons, forD_cons (ρ1 := [x0, some (ti acc), some (.int e.1), some (.int e.2)]) (S1 := S) (ρ2 := [x0, some (ti (acc ++ List.replicate n e.1)), some (.int e.1), some (.int e.2)]) (S2 := S) trivial rfl ?_]
    · rw [ih]
      have : toks (e :: fs) = List.replicate n e.1 ++ toks fs := by
        unfold toks
        rw [List.map_cons, List.flatten_cons, hn, Int.toNat_natCast]
      rw [this, List.append_assoc]
    · rw [hn]
      simp only [eVar, eC, eOp, eT, eAnd, eOr, eNot, eIf, eAndV, eOrV, eNotV, eCall, aNil, aCons, aStar, sOf, eTup, eFl, eLoc, eSl, oNone, oSome, iOf, eNeg, eChain, eMt, bOf, eDict0, eRev, eListRg, iZipD, sRaise1, sRaise0, eCallV, List.lookup, R.bind_ok, R.bind_er, R.bind_stuck, R.toS_ok, R.toS_er, R.toS_stuck, SR.next_nx, SR.next_rt, SR.next_er, SR.next_bk, SR.next_ct, SR.next_stuck, sNil, sSeq, sBrk, sCnt, sExp, sRet, sRetN, sIf, sSet, sAsg, sAug, sPar2, sPar3, tN, DL.tTup, DL.tNil, DL.tCons, DL.tSub, iSeq, srcOf_tup, srcOf_fl, srcOf_kl, srcOf_ti, iRange1, iRange2, sFor, startD, List.map_cons, List.map_nil, List.length_cons, List.length_nil, List.replicate, List.cons_append, List.nil_append, List.getElem?_cons_zero, List.getElem?_cons_succ, List.set_cons_zero, List.set_cons_succ, dSub_int, dFdiv_int, dMod_int, dLt_int, dLe_int, dGt_int, dGe_int, dAddI_int, dSubI_int, dIsN_non, isN, dAdd_int, ll0, ll1, ll2, ll3, ll4, ll5, ll6, ll7, ll8, ll9, ll10, ll11, ll12, ll13, ll14, ll15, ll16, ll17, ll18, ll19, ll20, ll21, ll22, ll23, ll24, ll25, ll26, ll27, ll28, ll29, ll30, ll31, ll32, ll33, ll34, ll35, ll36, ll37, ll38, ll39, ll40, Nat.reduceSub, Nat.reduceAdd, Nat.reduceEqDiff, if_true, if_false, ifp_t, ifp_f, reduceIte, Bool.true_eq_false, Bool.false_eq_true, Option.map_some, Option.map_none, Option.bind_some, Option.bind_none, L1__law_tokens, m1, ad]
theorem tokens_ok (fs : List (Int × Int)) (hr : ∀ e ∈ fs, Run e) (hl : len fs < 200) (S : Sto) : F__law_tokens [.tup (fs.map dp)] S = .ok (ti (toks fs)) S := by
  refine fnC_rt rfl ?_ rfl
  have hst : startD 4 [D.tup (fs.map dp)] = [some (.tup (fs.map dp)), none, none, none] := rfl
  rw [hst]
  unfold B__law_tokens
  obtain ⟨y2, y3, h⟩ := tokens_loop (some (.tup (fs.map dp))) S fs [] none none hr (by simpa using hl)
  have h' : forD yes (tTup 2 (tCons (tN 2) (tCons (tN 3) tNil))) L1__law_tokens sNil (fs.map dp) [some (.tup (fs.map dp)), some (.tup []), none, none] S = .nx [some (.tup (fs.map dp)), some (ti (toks fs)), y2, y3] S := h
  simp only [eVar, eC, eOp, eT, eAnd, eOr, eNot, eIf, eAndV, eOrV, eNotV, eCall, aNil, aCons, aStar, sOf, eTup, eFl, eLoc, eSl, oNone, oSome, iOf, eNeg, eChain, eMt, bOf, eDict0, eRev, eListRg, iZipD, sRaise1, sRaise0, eCallV, List.lookup, R.bind_ok, R.bind_er, R.bind_stuck, R.toS_ok, R.toS_er, R.toS_stuck, SR.next_nx, SR.next_rt, SR.next_er, SR.next_bk, SR.next_ct, SR.next_stuck, sNil, sSeq, sBrk, sCnt, sExp, sRet, sRetN, sIf, sSet, sAsg, sAug, sPar2, sPar3, tN, DL.tTup, DL.tNil, DL.tCons, DL.tSub, iSeq, srcOf_tup, srcOf_fl, srcOf_kl, srcOf_ti, iRange1, iRange2, sFor, startD, List.map_cons, List.map_nil, List.length_cons, List.length_nil, List.replicate, List.cons_append, List.nil_append, List.getElem?_cons_zero, List.getElem?_cons_succ, List.set_cons_zero, List.set_cons_succ, dSub_int, dFdiv_int, dMod_int, dLt_int, dLe_int, dGt_int, dGe_int, dAddI_int, dSubI_int, dIsN_non, isN, dAdd_int, ll0, ll1, ll2, ll3, ll4, ll5, ll6, ll7, ll8, ll9, ll10, ll11, ll12, ll13, ll14, ll15, ll16, ll17, ll18, ll19, ll20, ll21, ll22, ll23, ll24, ll25, ll26, ll27, ll28, ll29, ll30, ll31, ll32, ll33, ll34, ll35, ll36, ll37, ll38, ll39, ll40, Nat.reduceSub, Nat.reduceAdd, Nat.reduceEqDiff, if_true, if_false, ifp_t, ifp_f, reduceIte, Bool.true_eq_false, Bool.false_eq_true, Option.map_some, Option.map_none, Option.bind_some, Option.bind_none, h']
theorem low_step {e : Int × Int} (h : Run e) (hg : Int) : max 0 (1 - min (hg + 1 - e.1) (hg + (1 - e.1) * e.2)) = max 0 ((rp (e.1, 1) e.2).1 - hg) := by
  obtain ⟨a, c⟩ := e
  obtain ⟨a0, a5, c1, cM⟩ := h
  simp only at a0 a5 c1 cM ⊢
  rw [rp_pos (by omega)]
  simp only
  by_cases h0 : a ≤ 1
  · rw [if_pos h0]
    simp only
    have : a = 0 ∨ a = 1 := by omega
    rcases this with rfl | rfl
    · simp only [Int.sub_zero, Int.one_mul]; omega
    · simp only [Int.sub_self, Int.zero_mul]; omega
  · rw [if_neg h0]
    simp only
    have e1 : (1 - a) * c = -((a - 1) * c) := by rw [← Int.neg_mul]; congr 1; omega
    have e2 : (c - 1) * (a - 1) = (a - 1) * c - (a - 1) := by rw [Int.mul_comm, Int.mul_sub, Int.mul_one]
    have e3 : (a - 1) ≤ (a - 1) * c := by
      have := Int.mul_le_mul_of_nonneg_left c1 (show 0 ≤ a - 1 by omega)
      rw [Int.mul_one] at this
      exact this
    rw [e1, e2]
    omega
def optD : Option Int → D
  | none => .non
  | some v => .int v
def needs : Option Int → Int
  | none => 0
  | some v => max 0 (1 - v)
theorem lowest_loop (x0 : Option D) (S : Sto) : ∀ (fs pre : List (Int × Int)) (v : Option Int) (x3 x4 x5 : Option D), (∀ e ∈ fs, Run e) → needs v = ne (toks pre) →
    ∃ v' y3 y4 y5, forD yes (tTup 2 (tCons (tN 3) (tCons (tN 4) tNil))) L1__law_lowest sNil (fs.map dp) [x0, some (.int (ht (toks pre))), some (optD v), x3, x4, x5] S = .nx [x0, some (.int (ht (toks (pre ++ fs)))), some (optD v'), y3, y4, y5] S ∧ needs v' = ne (toks (pre ++ fs)) ∧ (fs ≠ [] → v' ≠ none)
  | [], pre, v, x3, x4, x5, _, hv => ⟨v, x3, x4, x5, by rw [List.append_nil]; exact forD_nil trivial, by rw [List.append_nil]; exact hv, fun h => absurd rfl h⟩
  | e :: fs, pre, v, x3, x4, x5, hr, hv => by
    have h := hr e List.mem_cons_self
    have hr' : ∀ e ∈ fs, Run e := fun x hx => hr x (List.mem_cons_of_mem _ hx)
    have a0 := h.a0
    have a5 := h.a5
    have c1 := h.c1
    generalize hH : ht (toks pre) = H
    have happ : toks (pre ++ [e]) = toks pre ++ List.replicate e.2.toNat e.1 := by
      unfold toks
      rw [List.map_append, List.flatten_append]; simp
    have hht : ht (toks (pre ++ [e])) = H + (1 - e.1) * e.2 := by
      rw [← hH, happ, ht_eq, ht_eq, List.length_append, List.sum_append, sum_rep, List.length_replicate]
      have e1 : ((e.2.toNat : Nat) : Int) = e.2 := by omega
      rw [Int.natCast_add, e1, Int.sub_mul, Int.one_mul]; omega
    have hne : ne (toks (pre ++ [e])) = max (needs v) ((rp (e.1, 1) e.2).1 - H) := by
      have : ne (List.replicate e.2.toNat e.1) = (rp (e.1, 1) e.2).1 := by rw [← eff_run h]; rfl
      rw [happ, ne_app, this, hv, hH]
    have ls := low_step h H
    have hnv : 0 ≤ needs v := by rw [hv]; exact ne_nn _
    obtain ⟨v1, hv1, hm⟩ : ∃ v1 : Int, needs (some v1) = ne (toks (pre ++ [e])) ∧ ∀ S, (eCall bMinT (aCons (eIf (eT (eOp (dIsN false) (eVar 2) (eC .non))) (eVar 5) (eOp dAdd (eFl (aCons (eVar 2) aNil)) (eVar 5))) aNil)) [x0, some (.int H), some (optD v), some (.int e.1), some (.int e.2), some (.fl [.int (H + 1 - e.1), .int (H + (1 - e.1) * e.2)])] S = .ok (.int v1) S := by
      cases v with
      | none =>
        refine ⟨min (H + 1 - e.1) (H + (1 - e.1) * e.2), ?_, fun S => ?_⟩
        · rw [hne]
          show max 0 (1 - _) = max 0 _
          rw [ls]
        · have i1 : ∀ S, dIsN false .non .non S = .ok (.bl true) S := fun S => rfl
          have m1 : ∀ i j S, bMinT [.fl [.int i, .int j]] S = .ok (.int (min i j)) S := fun i j S => rfl
          simp only [eVar, eC, eOp, eT, eAnd, eOr, eNot, eIf, eAndV, eOrV, eNotV, eCall, aNil, aCons, aStar, sOf, eTup, eFl, eLoc, eSl, oNone, oSome, iOf, eNeg, eChain, eMt, bOf, eDict0, eRev, eListRg, iZipD, sRaise1, sRaise0, eCallV, List.lookup, R.bind_ok, R.bind_er, R.bind_stuck, R.toS_ok, R.toS_er, R.toS_stuck, SR.next_nx, SR.next_rt, SR.next_er, SR.next_bk, SR.next_ct, SR.next_stuck, sNil, sSeq, sBrk, sCnt, sExp, sRet, sRetN, sIf, sSet, sAsg, sAug, sPar2, sPar3, tN, DL.tTup, DL.tNil, DL.tCons, DL.tSub, iSeq, srcOf_tup, srcOf_fl, srcOf_kl, srcOf_ti, iRange1, iRange2, sFor, startD, List.map_cons, List.map_nil, List.length_cons, List.length_nil, List.replicate, List.cons_append, List.nil_append, List.getElem?_cons_zero, List.getElem?_cons_succ, List.set_cons_zero, List.set_cons_succ, dSub_int, dFdiv_int, dMod_int, dLt_int, dLe_int, dGt_int, dGe_int, dAddI_int, dSubI_int, dIsN_non, isN, dAdd_int, ll0, ll1, ll2, ll3, ll4, ll5, ll6, ll7, ll8, ll9, ll10, ll11, ll12, ll13, ll14, ll15, ll16, ll17, ll18, ll19, ll20, ll21, ll22, ll23, ll24, ll25, ll26, ll27, ll28, ll29, ll30, ll31, ll32, ll33, ll34, ll35, ll36, ll37, ll38, ll39, ll40, Nat.reduceSub, Nat.reduceAdd, Nat.reduceEqDiff, if_true, if_false, ifp_t, ifp_f, reduceIte, Bool.true_eq_false, Bool.false_eq_true, Option.map_some, Option.map_none, Option.bind_some, Option.bind_none, optD, i1, m1]
      | some w =>
        refine ⟨min (min w (H + 1 - e.1)) (H + (1 - e.1) * e.2), ?_, fun S => ?_⟩
        · rw [hne]
          show max 0 (1 - _) = max (max 0 (1 - w)) _
          omega
        · have i1 : ∀ S, dIsN false (.int w) .non S = .ok (.bl false) S := fun S => rfl
          have a1 : ∀ i j S, dAdd (.fl [.int w]) (.fl [.int i, .int j]) S = .ok (.fl [.int w, .int i, .int j]) S := fun i j S => add_fl [.int w] _ (by simp) S
          have m1 : ∀ i j k S, bMinT [.fl [.int i, .int j, .int k]] S = .ok (.int (min (min i j) k)) S := fun i j k S => rfl
          simp only [eVar, eC, eOp, eT, eAnd, eOr, eNot, eIf, eAndV, eOrV, eNotV, eCall, aNil, aCons, aStar, sOf, eTup, eFl, eLoc, eSl, oNone, oSome, iOf, eNeg, eChain, eMt, bOf, eDict0, eRev, eListRg, iZipD, sRaise1, sRaise0, eCallV, List.lookup, R.bind_ok, R.bind_er, R.bind_stuck, R.toS_ok, R.toS_er, R.toS_stuck, SR.next_nx, SR.next_rt, SR.next_er, SR.next_bk, SR.next_ct, SR.next_stuck, sNil, sSeq, sBrk, sCnt, sExp, sRet, sRetN, sIf, sSet, sAsg, sAug, sPar2, sPar3, tN, DL.tTup, DL.tNil, DL.tCons, DL.tSub, iSeq, srcOf_tup, srcOf_fl, srcOf_kl, srcOf_ti, iRange1, iRange2, sFor, startD, List.map_cons, List.map_nil, List.length_cons, List.length_nil, List.replicate, List.cons_append, List.nil_append, List.getElem?_cons_zero, List.getElem?_cons_succ, List.set_cons_zero, List.set_cons_succ, dSub_int, dFdiv_int, dMod_int, dLt_int, dLe_int, dGt_int, dGe_int, dAddI_int, dSubI_int, dIsN_non, isN, dAdd_int, ll0, ll1, ll2, ll3, ll4, ll5, ll6, ll7, ll8, ll9, ll10, ll11, ll12, ll13, ll14, ll15, ll16, ll17, ll18, ll19, ll20, ll21, ll22, ll23, ll24, ll25, ll26, ll27, ll28, ll29, ll30, ll31, ll32, ll33, ll34, ll35, ll36, ll37, ll38, ll39, ll40, Nat.reduceSub, Nat.reduceAdd, Nat.reduceEqDiff, if_true, if_false, ifp_t, ifp_f, reduceIte, Bool.true_eq_false, Bool.false_eq_true, Option.map_some, Option.map_none, Option.bind_some, Option.bind_none, optD, i1, a1, m1]
    obtain ⟨v', y3, y4, y5, ih, ih2, ih3⟩ := lowest_loop x0 S fs (pre ++ [e]) (some v1) (some (.int e.1)) (some (.int e.2)) (some (.fl [.int (H + 1 - e.1), .int (H + (1 - e.1) * e.2)])) hr' hv1
    rw [hht] at ih
    have ea : pre ++ [e] ++ fs = pre ++ e :: fs := by simp
    rw [ea] at ih ih2
    refine ⟨v', y3, y4, y5, ?_, ih2, fun _ => ?_⟩
    · have mm := mulT_int (i := 1 - e.1) (j := e.2) (by omega)
      have i1 : ∀ S, dIx (.fl [.int (H + 1 - e.1), .int (H + (1 - e.1) * e.2)]) (.int 1) S = .ok (.int (H + (1 - e.1) * e.2)) S := fun S => rfl
      rw [List.map_cons, forD_cons (ρ1 := [x0, some (.int H), some (optD v), some (.int e.1), some (.int e.2), x5]) (S1 := S) (ρ2 := [x0, some (.int (H + (1 - e.1) * e.2)), some (.int v1), some (.int e.1), some (.int e.2), some (.fl [.int (H + 1 - e.1), .int (H + (1 - e.1) * e.2)])]) (S2 := S) trivial rfl ?_]
      · exact ih
      · have st1 : (sSet 5 (eFl (aCons (eOp dSub (eOp dAdd (eVar 1) (eC (.int 1))) (eVar 3)) (aCons (eOp dAdd (eVar 1) (eOp dMulT (eOp dSub (eC (.int 1)) (eVar 3)) (eVar 4))) aNil)))) [x0, some (.int H), some (optD v), some (.int e.1), some (.int e.2), x5] S = .nx [x0, some (.int H), some (optD v), some (.int e.1), some (.int e.2), some (.fl [.int (H + 1 - e.1), .int (H + (1 - e.1) * e.2)])] S := by
          simp only [eVar, eC, eOp, eT, eAnd, eOr, eNot, eIf, eAndV, eOrV, eNotV, eCall, aNil, aCons, aStar, sOf, eTup, eFl, eLoc, eSl, oNone, oSome, iOf, eNeg, eChain, eMt, bOf, eDict0, eRev, eListRg, iZipD, sRaise1, sRaise0, eCallV, List.lookup, R.bind_ok, R.bind_er, R.bind_stuck, R.toS_ok, R.toS_er, R.toS_stuck, SR.next_nx, SR.next_rt, SR.next_er, SR.next_bk, SR.next_ct, SR.next_stuck, sNil, sSeq, sBrk, sCnt, sExp, sRet, sRetN, sIf, sSet, sAsg, sAug, sPar2, sPar3, tN, DL.tTup, DL.tNil, DL.tCons, DL.tSub, iSeq, srcOf_tup, srcOf_fl, srcOf_kl, srcOf_ti, iRange1, iRange2, sFor, startD, List.map_cons, List.map_nil, List.length_cons, List.length_nil, List.replicate, List.cons_append, List.nil_append, List.getElem?_cons_zero, List.getElem?_cons_succ, List.set_cons_zero, List.set_cons_succ, dSub_int, dFdiv_int, dMod_int, dLt_int, dLe_int, dGt_int, dGe_int, dAddI_int, dSubI_int, dIsN_non, isN, dAdd_int, ll0, ll1, ll2, ll3, ll4, ll5, ll6, ll7, ll8, ll9, ll10, ll11, ll12, ll13, ll14, ll15, ll16, ll17, ll18, ll19, ll20, ll21, ll22, ll23, ll24, ll25, ll26, ll27, ll28, ll29, ll30, ll31, ll32, ll33, ll34, ll35, ll36, ll37, ll38, ll39, ll40, Nat.reduceSub, Nat.reduceAdd, Nat.reduceEqDiff, if_true, if_false, ifp_t, ifp_f, reduceIte, Bool.true_eq_false, Bool.false_eq_true, Option.map_some, Option.map_none, Option.bind_some, Option.bind_none, mm]
        have st2 : (sSet 2 (eCall bMinT (aCons (eIf (eT (eOp (dIsN false) (eVar 2) (eC .non))) (eVar 5) (eOp dAdd (eFl (aCons (eVar 2) aNil)) (eVar 5))) aNil))) [x0, some (.int H), some (optD v), some (.int e.1), some (.int e.2), some (.fl [.int (H + 1 - e.1), .int (H + (1 - e.1) * e.2)])] S = .nx [x0, some (.int H), some (.int v1), some (.int e.1), some (.int e.2), some (.fl [.int (H + 1 - e.1), .int (H + (1 - e.1) * e.2)])] S := by
          unfold sSet
          rw [hm S]
          rfl
        unfold L1__law_lowest
        rw [sSeq, st1, SR.next_nx, sSeq, st2, SR.next_nx]
        simp only [eVar, eC, eOp, eT, eAnd, eOr, eNot, eIf, eAndV, eOrV, eNotV, eCall, aNil, aCons, aStar, sOf, eTup, eFl, eLoc, eSl, oNone, oSome, iOf, eNeg, eChain, eMt, bOf, eDict0, eRev, eListRg, iZipD, sRaise1, sRaise0, eCallV, List.lookup, R.bind_ok, R.bind_er, R.bind_stuck, R.toS_ok, R.toS_er, R.toS_stuck, SR.next_nx, SR.next_rt, SR.next_er, SR.next_bk, SR.next_ct, SR.next_stuck, sNil, sSeq, sBrk, sCnt, sExp, sRet, sRetN, sIf, sSet, sAsg, sAug, sPar2, sPar3, tN, DL.tTup, DL.tNil, DL.tCons, DL.tSub, iSeq, srcOf_tup, srcOf_fl, srcOf_kl, srcOf_ti, iRange1, iRange2, sFor, startD, List.map_cons, List.map_nil, List.length_cons, List.length_nil, List.replicate, List.cons_append, List.nil_append, List.getElem?_cons_zero, List.getElem?_cons_succ, List.set_cons_zero, List.set_cons_succ, dSub_int, dFdiv_int, dMod_int, dLt_int, dLe_int, dGt_int, dGe_int, dAddI_int, dSubI_int, dIsN_non, isN, dAdd_int, ll0, ll1, ll2, ll3, ll4, ll5, ll6, ll7, ll8, ll9, ll10, ll11, ll12, ll13, ll14, ll15, ll16, ll17, ll18, ll19, ll20, ll21, ll22, ll23, ll24, ll25, ll26, ll27, ll28, ll29, ll30, ll31, ll32, ll33, ll34, ll35, ll36, ll37, ll38, ll39, ll40, Nat.reduceSub, Nat.reduceAdd, Nat.reduceEqDiff, if_true, if_false, ifp_t, ifp_f, reduceIte, Bool.true_eq_false, Bool.false_eq_true, Option.map_some, Option.map_none, Option.bind_some, Option.bind_none, i1]
    · cases fs with
      | nil =>
        have : v' = some v1 := by
          rw [List.map_nil, forD_nil trivial] at ih
          simp only [sNil, SR.nx.injEq, List.cons.injEq, Option.some.injEq] at ih
          have h2 := ih.1.2.2.1
          cases v' with
          | none => cases h2
          | some w => cases h2; rfl
        rw [this]; simp
      | cons f fs => exact ih3 (by simp)
theorem lowest_ok (fs : List (Int × Int)) (hf : fs ≠ []) (hr : ∀ e ∈ fs, Run e) (S : Sto) : ∃ w hgt : Int, F__law_lowest [.tup (fs.map dp)] S = .ok (.fl [.int w, .int hgt]) S ∧ max 0 (1 - w) = ne (toks fs) := by
  obtain ⟨v', y3, y4, y5, h1, h2, h3⟩ := lowest_loop (some (.tup (fs.map dp))) S fs [] none none none none hr rfl
  rw [List.nil_append] at h1 h2
  obtain ⟨w, rfl⟩ : ∃ w, v' = some w := by
    cases v' with
    | none => exact absurd rfl (h3 hf)
    | some w => exact ⟨w, rfl⟩
  refine ⟨w, ht (toks fs), ?_, h2⟩
  refine fnC_rt rfl ?_ rfl
  have hst : startD 6 [D.tup (fs.map dp)] = [some (.tup (fs.map dp)), none, none, none, none, none] := rfl
  rw [hst]
  unfold B__law_lowest
  have h1' : forD yes (tTup 2 (tCons (tN 3) (tCons (tN 4) tNil))) L1__law_lowest sNil (fs.map dp) [some (.tup (fs.map dp)), some (.int 0), some .non, none, none, none] S = .nx [some (.tup (fs.map dp)), some (.int (ht (toks fs))), some (.int w), y3, y4, y5] S := h1
  simp only [eVar, eC, eOp, eT, eAnd, eOr, eNot, eIf, eAndV, eOrV, eNotV, eCall, aNil, aCons, aStar, sOf, eTup, eFl, eLoc, eSl, oNone, oSome, iOf, eNeg, eChain, eMt, bOf, eDict0, eRev, eListRg, iZipD, sRaise1, sRaise0, eCallV, List.lookup, R.bind_ok, R.bind_er, R.bind_stuck, R.toS_ok, R.toS_er, R.toS_stuck, SR.next_nx, SR.next_rt, SR.next_er, SR.next_bk, SR.next_ct, SR.next_stuck, sNil, sSeq, sBrk, sCnt, sExp, sRet, sRetN, sIf, sSet, sAsg, sAug, sPar2, sPar3, tN, DL.tTup, DL.tNil, DL.tCons, DL.tSub, iSeq, srcOf_tup, srcOf_fl, srcOf_kl, srcOf_ti, iRange1, iRange2, sFor, startD, List.map_cons, List.map_nil, List.length_cons, List.length_nil, List.replicate, List.cons_append, List.nil_append, List.getElem?_cons_zero, List.getElem?_cons_succ, List.set_cons_zero, List.set_cons_succ, dSub_int, dFdiv_int, dMod_int, dLt_int, dLe_int, dGt_int, dGe_int, dAddI_int, dSubI_int, dIsN_non, isN, dAdd_int, ll0, ll1, ll2, ll3, ll4, ll5, ll6, ll7, ll8, ll9, ll10, ll11, ll12, ll13, ll14, ll15, ll16, ll17, ll18, ll19, ll20, ll21, ll22, ll23, ll24, ll25, ll26, ll27, ll28, ll29, ll30, ll31, ll32, ll33, ll34, ll35, ll36, ll37, ll38, ll39, ll40, Nat.reduceSub, Nat.reduceAdd, Nat.reduceEqDiff, if_true, if_false, ifp_t, ifp_f, reduceIte, Bool.true_eq_false, Bool.false_eq_true, Option.map_some, Option.map_none, Option.bind_some, Option.bind_none, h1']
theorem due_ok (fs : List (Int × Int)) (hf : fs ≠ []) (hl : fs.length ≤ 40) (hr : ∀ e ∈ fs, Run e) (S : Sto) : F__law_due [.tup (fs.map dp)] S = .ok (dp (eff (toks fs))) S := by
  refine fnC_rt rfl ?_ rfl
  have hst : startD 2 [D.tup (fs.map dp)] = [some (.tup (fs.map dp)), none] := rfl
  rw [hst]
  unfold B__law_due
  have l1 := length_ok fs (by omega)
  by_cases h2 : len fs < 200
  · have tk := tokens_ok fs hr h2
    have ms := missing_ok (toks fs)
    have e1 : ∀ S, bTuple [.fl [.int (ne (toks fs)), .int (ht (toks fs) + ne (toks fs))]] S = .ok (dp (eff (toks fs))) S := fun S => by
      have e2 : ht (toks fs) + ne (toks fs) = ne (toks fs) + (((toks fs).length : Int) - (toks fs).sum) := by rw [ht_eq]; omega
      show R.ok (D.tup [.int (ne (toks fs)), .int (ht (toks fs) + ne (toks fs))]) S = R.ok (D.tup [.int (ne (toks fs)), .int (ne (toks fs) + (((toks fs).length : Int) - (toks fs).sum))]) S
      rw [e2]
    simp only [eVar, eC, eOp, eT, eAnd, eOr, eNot, eIf, eAndV, eOrV, eNotV, eCall, aNil, aCons, aStar, sOf, eTup, eFl, eLoc, eSl, oNone, oSome, iOf, eNeg, eChain, eMt, bOf, eDict0, eRev, eListRg, iZipD, sRaise1, sRaise0, eCallV, List.lookup, R.bind_ok, R.bind_er, R.bind_stuck, R.toS_ok, R.toS_er, R.toS_stuck, SR.next_nx, SR.next_rt, SR.next_er, SR.next_bk, SR.next_ct, SR.next_stuck, sNil, sSeq, sBrk, sCnt, sExp, sRet, sRetN, sIf, sSet, sAsg, sAug, sPar2, sPar3, tN, DL.tTup, DL.tNil, DL.tCons, DL.tSub, iSeq, srcOf_tup, srcOf_fl, srcOf_kl, srcOf_ti, iRange1, iRange2, sFor, startD, List.map_cons, List.map_nil, List.length_cons, List.length_nil, List.replicate, List.cons_append, List.nil_append, List.getElem?_cons_zero, List.getElem?_cons_succ, List.set_cons_zero, List.set_cons_succ, dSub_int, dFdiv_int, dMod_int, dLt_int, dLe_int, dGt_int, dGe_int, dAddI_int, dSubI_int, dIsN_non, isN, dAdd_int, ll0, ll1, ll2, ll3, ll4, ll5, ll6, ll7, ll8, ll9, ll10, ll11, ll12, ll13, ll14, ll15, ll16, ll17, ll18, ll19, ll20, ll21, ll22, ll23, ll24, ll25, ll26, ll27, ll28, ll29, ll30, ll31, ll32, ll33, ll34, ll35, ll36, ll37, ll38, ll39, ll40, Nat.reduceSub, Nat.reduceAdd, Nat.reduceEqDiff, if_true, if_false, ifp_t, ifp_f, reduceIte, Bool.true_eq_false, Bool.false_eq_true, Option.map_some, Option.map_none, Option.bind_some, Option.bind_none, l1, h2, decide_true, tk, ms, e1]
  · obtain ⟨w, hg, lo, hw⟩ := lowest_ok fs hf hr S
    have to := total_ok fs (by omega) hr
    have i0 : ∀ S, dIx (.fl [.int w, .int hg]) (.int 0) S = .ok (.int w) S := fun S => rfl
    have e1 : dp (eff (toks fs)) = .tup [.int (ne (toks fs)), .int (ne (toks fs) + tot fs)] := by
      unfold dp eff
      rw [toks_bal fs hr]
    simp only [eVar, eC, eOp, eT, eAnd, eOr, eNot, eIf, eAndV, eOrV, eNotV, eCall, aNil, aCons, aStar, sOf, eTup, eFl, eLoc, eSl, oNone, oSome, iOf, eNeg, eChain, eMt, bOf, eDict0, eRev, eListRg, iZipD, sRaise1, sRaise0, eCallV, List.lookup, R.bind_ok, R.bind_er, R.bind_stuck, R.toS_ok, R.toS_er, R.toS_stuck, SR.next_nx, SR.next_rt, SR.next_er, SR.next_bk, SR.next_ct, SR.next_stuck, sNil, sSeq, sBrk, sCnt, sExp, sRet, sRetN, sIf, sSet, sAsg, sAug, sPar2, sPar3, tN, DL.tTup, DL.tNil, DL.tCons, DL.tSub, iSeq, srcOf_tup, srcOf_fl, srcOf_kl, srcOf_ti, iRange1, iRange2, sFor, startD, List.map_cons, List.map_nil, List.length_cons, List.length_nil, List.replicate, List.cons_append, List.nil_append, List.getElem?_cons_zero, List.getElem?_cons_succ, List.set_cons_zero, List.set_cons_succ, dSub_int, dFdiv_int, dMod_int, dLt_int, dLe_int, dGt_int, dGe_int, dAddI_int, dSubI_int, dIsN_non, isN, dAdd_int, ll0, ll1, ll2, ll3, ll4, ll5, ll6, ll7, ll8, ll9, ll10, ll11, ll12, ll13, ll14, ll15, ll16, ll17, ll18, ll19, ll20, ll21, ll22, ll23, ll24, ll25, ll26, ll27, ll28, ll29, ll30, ll31, ll32, ll33, ll34, ll35, ll36, ll37, ll38, ll39, ll40, Nat.reduceSub, Nat.reduceAdd, Nat.reduceEqDiff, if_true, if_false, ifp_t, ifp_f, reduceIte, Bool.true_eq_false, Bool.false_eq_true, Option.map_some, Option.map_none, Option.bind_some, Option.bind_none, l1, h2, decide_false, lo, i0, bMax_two, hw, to, e1]
/-! ### a drawn far ring -/
def menusF : List (List Int) := [[0, 1, 2], [0, 2], [0, 0, 5, 3], [0, 1, 2, 3, 4, 5], [1, 0], [0]]
theorem tot_low : ∀ (fs : List (Int × Int)) (M : Int), (∀ e ∈ fs, Run e ∧ e.2 ≤ M) → 0 ≤ M → -(4 * M * fs.length) ≤ tot fs
  | [], M, _, _ => by simp [tot]
  | e :: fs, M, h, hM => by
    have ih := tot_low fs M (fun x hx => h x (List.mem_cons_of_mem _ hx)) hM
    obtain ⟨r, hc⟩ := h e List.mem_cons_self
    have a0 := r.a0
    have a5 := r.a5
    have c1 := r.c1
    have e1 : tot (e :: fs) = (1 - e.1) * e.2 + tot fs := by unfold tot; rw [List.map_cons, List.sum_cons]
    have e2 : -(4 * M) ≤ (1 - e.1) * e.2 := by
      have h1 : (-4) * e.2 ≤ (1 - e.1) * e.2 := Int.mul_le_mul_of_nonneg_right (by omega) (by omega)
      omega
    rw [e1, List.length_cons, Int.natCast_add, Int.mul_add]
    simp only [Int.natCast_one, Int.mul_one]
    omega
theorem far_step {S : Sto} {n : Nat} {rest : Sto} {fs : List (Int × Int)} {menu : List Int} {most : Int} (h : Strm S n (rest ++ [.lst (fs.map dp)])) (hm : menu ≠ []) (hml : menu.length ≤ 6) (ha : ∀ t ∈ menu, Arity t) (h0 : 0 < most) (h1 : most ≤ 10 ^ 10) (hl : fs.length < 30) (hr : ∀ e ∈ fs, Run e ∧ e.2 ≤ most) (hn : n + 2 < 2 ^ 60) (x1 x5 x6 : Option D) :
    ∃ (fs' : List (Int × Int)) (S' : Sto), L1__law_far [some (.loc 1), x1, some (.int most), some (.fl (menu.map D.int)), some (.loc (rest.length + 2)), x5, x6] S = .nx [some (.loc 1), x1, some (.int most), some (.fl (menu.map D.int)), some (.loc (rest.length + 2)), x5, x6] S' ∧ Strm S' (n + 2) (rest ++ [.lst (fs'.map dp)]) ∧ fs'.length = fs.length + 1 ∧ ∀ e ∈ fs', Run e ∧ e.2 ≤ most := by
  obtain ⟨y, S1, p1, p2, s1⟩ := pick_fl h (xs := menu.map D.int) (by simpa using hm) (by simp; omega) (by omega)
  obtain ⟨a, hi, rfl⟩ := List.mem_map.mp p2
  obtain ⟨z, S2, z1, z2, z3, s2⟩ := draw_ok s1 h0 (log2_small 200 (by omega) (by decide) (by decide)) (by omega)
  have ar := ha a hi
  unfold Arity at ar
  have gl := s2.getL_end
  have ap : mAppend (.loc (rest.length + 2)) [.tup [.int a, .int (1 + z)]] S2 = .ok .non (S2.set (rest.length + 2) (.lst (fs.map dp ++ [dp (a, 1 + z)]))) := by
    show (match getL S2 (rest.length + 2) with
      | some xs => ifp (xs.length < sizeLine) (R.ok D.non (S2.set (rest.length + 2) (.lst (xs ++ [D.tup [.int a, .int (1 + z)]])))) .stuck
      | none => .stuck) = _
    rw [gl]
    exact ifp_pos (by rw [List.length_map]; exact Nat.lt_of_lt_of_le hl (by decide))
  have il : isLst S1 (.loc (rest.length + 2)) = true := by
    unfold isLst
    rw [show lstOf S1 (.loc (rest.length + 2)) = some (fs.map dp) from s1.getL_end]; rfl
  have il2 : isLst S (.loc (rest.length + 2)) = true := by
    unfold isLst
    rw [show lstOf S (.loc (rest.length + 2)) = some (fs.map dp) from h.getL_end]; rfl
  have il3 : isLst S2 (.loc (rest.length + 2)) = true := by
    unfold isLst
    rw [show lstOf S2 (.loc (rest.length + 2)) = some (fs.map dp) from gl]; rfl
  refine ⟨fs ++ [(a, 1 + z)], S2.set (rest.length + 2) (.lst (fs.map dp ++ [dp (a, 1 + z)])), ?_, ?_, by simp, ?_⟩
  · simp only [eVar, eC, eOp, eT, eAnd, eOr, eNot, eIf, eAndV, eOrV, eNotV, eCall, aNil, aCons, aStar, sOf, eTup, eFl, eLoc, eSl, oNone, oSome, iOf, eNeg, eChain, eMt, bOf, eDict0, eRev, eListRg, iZipD, sRaise1, sRaise0, eCallV, List.lookup, R.bind_ok, R.bind_er, R.bind_stuck, R.toS_ok, R.toS_er, R.toS_stuck, SR.next_nx, SR.next_rt, SR.next_er, SR.next_bk, SR.next_ct, SR.next_stuck, sNil, sSeq, sBrk, sCnt, sExp, sRet, sRetN, sIf, sSet, sAsg, sAug, sPar2, sPar3, tN, DL.tTup, DL.tNil, DL.tCons, DL.tSub, iSeq, srcOf_tup, srcOf_fl, srcOf_kl, srcOf_ti, iRange1, iRange2, sFor, startD, List.map_cons, List.map_nil, List.length_cons, List.length_nil, List.replicate, List.cons_append, List.nil_append, List.getElem?_cons_zero, List.getElem?_cons_succ, List.set_cons_zero, List.set_cons_succ, dSub_int, dFdiv_int, dMod_int, dLt_int, dLe_int, dGt_int, dGe_int, dAddI_int, dSubI_int, dIsN_non, isN, dAdd_int, ll0, ll1, ll2, ll3, ll4, ll5, ll6, ll7, ll8, ll9, ll10, ll11, ll12, ll13, ll14, ll15, ll16, ll17, ll18, ll19, ll20, ll21, ll22, ll23, ll24, ll25, ll26, ll27, ll28, ll29, ll30, ll31, ll32, ll33, ll34, ll35, ll36, ll37, ll38, ll39, ll40, Nat.reduceSub, Nat.reduceAdd, Nat.reduceEqDiff, if_true, if_false, ifp_t, ifp_f, reduceIte, Bool.true_eq_false, Bool.false_eq_true, Option.map_some, Option.map_none, Option.bind_some, Option.bind_none, L1__law_far, il2, p1, z1, il3, ap]
  · have := s2.set_end (.lst (fs.map dp ++ [dp (a, 1 + z)]))
    rw [List.map_append]
    exact this
  · intro e he
    rcases List.mem_append.mp he with he | he
    · exact hr e he
    · rw [List.mem_singleton.mp he]
      exact ⟨⟨ar.1, ar.2, by show 1 ≤ 1 + z; omega, by show 1 + z ≤ 10 ^ 13; omega⟩, by show 1 + z ≤ most; omega⟩
theorem lowL_dps (n : Nat) (fs : List (Int × Int)) : lowL n (fs.map dp) = true := lowL_of fun d hd => by
  obtain ⟨e, _, rfl⟩ := List.mem_map.mp hd
  rfl
theorem far_ok {S : Sto} {n : Nat} {rest : Sto} (h : Strm S n rest) {most : Int} (h0 : 0 < most) (h1 : most ≤ 10 ^ 10) (hn : n + 40 < 2 ^ 60) :
    ∃ (fs : List (Int × Int)) (S' : Sto), F__law_far [.loc 1, .int 12, .int most] S = .ok (.tup (fs.map dp)) S' ∧ fs ≠ [] ∧ fs.length ≤ 13 ∧ (∀ e ∈ fs, Run e) ∧ Strm S' (n + 40) rest := by
  obtain ⟨m, S1, m1, m2, s1⟩ := pick_fl h (xs := [.fl ([0, 1, 2].map D.int), .fl ([0, 2].map D.int), .fl ([0, 0, 5, 3].map D.int), .fl ([0, 1, 2, 3, 4, 5].map D.int), .fl ([1, 0].map D.int), .fl ([0].map D.int)]) (by simp) (by simp) (by omega)
  obtain ⟨menu, rfl, me, ml, ma⟩ : ∃ menu : List Int, m = .fl (menu.map D.int) ∧ menu ≠ [] ∧ menu.length ≤ 6 ∧ ∀ t ∈ menu, Arity t := by
    have am : ∀ l : List Int, (l.all fun t => decide (0 ≤ t ∧ t ≤ 5)) = true → ∀ t ∈ l, Arity t := fun l hl t ht => by
      have := List.all_eq_true.mp hl t ht
      simpa [Arity] using this
    simp only [List.mem_cons, List.not_mem_nil, or_false] at m2
    rcases m2 with rfl | rfl | rfl | rfl | rfl | rfl <;> exact ⟨_, rfl, by simp, by simp, am _ (by decide)⟩
  have sA := s1.app [.lst []]
  have hlen1 : S1.length = rest.length + 2 := s1.len
  obtain ⟨z, S2, z1, z2, z3, s2⟩ := draw_ok sA (m := 12) (by decide) (by decide) (by omega)
  obtain ⟨size, hsz⟩ : ∃ size : Nat, 1 + z = (size : Int) := ⟨(1 + z).toNat, by omega⟩
  have hr : ((-(2 ^ 62) : Int) ≤ (size : Int) ∧ (size : Int) < 2 ^ 62) = True := by simp; omega
  have key := forD_all (T := tN 5) (B := L1__law_far) (Z := sNil) (fun i ρ S => (∃ x5, ρ = [some (.loc 1), some (.int 12), some (.int most), some (.fl (menu.map D.int)), some (.loc (rest.length + 2)), x5, none]) ∧ ∃ fs : List (Int × Int), Strm S (n + 2 + 2 * i) (rest ++ [.lst (fs.map dp)]) ∧ fs.length = i ∧ ∀ e ∈ fs, Run e ∧ e.2 ≤ most)
    (rangeD 0 size) 0 [some (.loc 1), some (.int 12), some (.int most), some (.fl (menu.map D.int)), some (.loc (rest.length + 2)), none, none] S2 ⟨⟨none, rfl⟩, [], s2, rfl, by simp⟩ ?_
  · obtain ⟨ρ', S3, ⟨⟨x5, rfl⟩, fs, s3, l3, r3⟩, hf⟩ := key
    rw [rangeD_len, Nat.zero_add] at l3 s3
    have r3' : ∀ e ∈ fs, Run e := fun e he => (r3 e he).1
    have tl := tot_low fs most r3 (by omega)
    have tl2 : 4 * most * (fs.length : Int) ≤ 4 * 10 ^ 10 * 12 := Int.mul_le_mul (by omega) (by omega) (by omega) (by omega)
    obtain ⟨u, S4, u1, u2, u3, s4⟩ := draw_ok s3 (m := 5) (by decide) (by decide) (by omega)
    have to := totalL_ok (n := rest.length + 2) fs s4.getQ_end (by omega) r3'
    obtain ⟨v, S5, v1, v2, v3, s5⟩ := draw_ok s4 (m := 2) (by decide) (by decide) (by omega)
    have ln : bLen [.loc (rest.length + 2)] S5 = .ok (.int (fs.length : Int)) S5 := by
      have := bLen_loc (S := S5) s5.getQ_end
      rw [List.length_map] at this
      exact this
    have hst : startD 7 [D.loc 1, .int 12, .int most] = [some (.loc 1), some (.int 12), some (.int most), none, none, none, none] := rfl
    have fin : ∀ (fs' : List (Int × Int)) (S6 : Sto) (k : Nat), Strm S6 k (rest ++ [.lst (fs'.map dp)]) → B__law_far [some (.loc 1), some (.int 12), some (.int most), none, none, none, none] S = .rt (.tup (fs'.map dp)) S6 → F__law_far [.loc 1, .int 12, .int most] S = .ok (.tup (fs'.map dp)) (S6.take S.length) ∧ Strm (S6.take S.length) k rest := by
      intro fs' S6 k s6 hB
      obtain ⟨q1, q2⟩ := h.trunc s6
      refine ⟨?_, q2⟩
      unfold F__law_far fnC
      rw [if_pos (show [D.loc 1, D.int 12, D.int most].length = 3 from rfl), hst, hB]
      show close S (.tup (fs'.map dp)) S6 = _
      unfold close
      rw [if_neg (by rw [s6.len, h.len]; simp), if_pos ⟨q1, by rw [low]; exact lowL_dps _ _⟩]
    have e0 : ([D.fl ([0, 1, 2].map D.int), .fl ([0, 2].map D.int), .fl ([0, 0, 5, 3].map D.int), .fl ([0, 1, 2, 3, 4, 5].map D.int), .fl ([1, 0].map D.int), .fl ([0].map D.int)] : List D) = [.fl [.int 0, .int 1, .int 2], .fl [.int 0, .int 2], .fl [.int 0, .int 0, .int 5, .int 3], .fl [.int 0, .int 1, .int 2, .int 3, .int 4, .int 5], .fl [.int 1, .int 0], .fl [.int 0]] := rfl
    rw [e0] at m1
    by_cases hv : v = 0
    · have ev : (v == 0) = true := by simpa using hv
      by_cases hg : u - tot fs > 0
      · by_cases hc : (fs.length : Int) < 12
        · obtain ⟨p, S6, p1, p2, p3, s6⟩ := draw_ok s5 (m := (fs.length : Int) + 1) (by omega) (log2_small 200 (by omega) (by decide) (by decide)) (by omega)
          have gl := s6.getL_end
          have ins : mInsert (.loc (rest.length + 2)) [.int p, .tup [.int 0, .int (u - tot fs)]] S6 = .ok .non (S6.set (rest.length + 2) (.lst ((fs.take p.toNat ++ [(0, u - tot fs)] ++ fs.drop p.toNat).map dp))) := by
            show (match getL S6 (rest.length + 2) with
              | some xs => ifp (xs.length < sizeLine ∧ 0 ≤ p ∧ p < 2 ^ 63) (R.ok D.non (S6.set (rest.length + 2) (.lst (xs.take p.toNat ++ [D.tup [.int 0, .int (u - tot fs)]] ++ xs.drop p.toNat)))) .stuck
              | none => .stuck) = _
            rw [gl]
            show ifp ((fs.map dp).length < sizeLine ∧ 0 ≤ p ∧ p < 2 ^ 63) _ _ = _
            rw [ifp_pos ⟨by rw [List.length_map]; exact Nat.lt_of_lt_of_le (show fs.length < 30 by omega) (by decide), p2, by omega⟩]
            simp only [List.map_append, List.map_take, List.map_drop]
            rfl
          have s7 := s6.set_end (.lst ((fs.take p.toNat ++ [(0, u - tot fs)] ++ fs.drop p.toNat).map dp))
          have tp : bTuple [.loc (rest.length + 2)] (S6.set (rest.length + 2) (.lst ((fs.take p.toNat ++ [(0, u - tot fs)] ++ fs.drop p.toNat).map dp))) = .ok (.tup ((fs.take p.toNat ++ [(0, u - tot fs)] ++ fs.drop p.toNat).map dp)) (S6.set (rest.length + 2) (.lst ((fs.take p.toNat ++ [(0, u - tot fs)] ++ fs.drop p.toNat).map dp))) := bTuple_loc s7.getQ_end
          have il5 : isLst S5 (.loc (rest.length + 2)) = true := by
            unfold isLst
            rw [show lstOf S5 (.loc (rest.length + 2)) = some (fs.map dp) from s5.getL_end]; rfl
          have il6 : isLst S6 (.loc (rest.length + 2)) = true := by
            unfold isLst
            rw [show lstOf S6 (.loc (rest.length + 2)) = some (fs.map dp) from gl]; rfl
          generalize hfs' : fs.take p.toNat ++ [(0, u - tot fs)] ++ fs.drop p.toNat = fs' at ins s7 tp
          generalize hS7 : S6.set (rest.length + 2) (.lst (fs'.map dp)) = S7 at ins s7 tp
          have hB : B__law_far [some (.loc 1), some (.int 12), some (.int most), none, none, none, none] S = .rt (.tup (fs'.map dp)) S7 := by
            unfold B__law_far
            simp only [eVar, eC, eOp, eT, eAnd, eOr, eNot, eIf, eAndV, eOrV, eNotV, eCall, aNil, aCons, aStar, sOf, eTup, eFl, eLoc, eSl, oNone, oSome, iOf, eNeg, eChain, eMt, bOf, eDict0, eRev, eListRg, iZipD, sRaise1, sRaise0, eCallV, List.lookup, R.bind_ok, R.bind_er, R.bind_stuck, R.toS_ok, R.toS_er, R.toS_stuck, SR.next_nx, SR.next_rt, SR.next_er, SR.next_bk, SR.next_ct, SR.next_stuck, sNil, sSeq, sBrk, sCnt, sExp, sRet, sRetN, sIf, sSet, sAsg, sAug, sPar2, sPar3, tN, DL.tTup, DL.tNil, DL.tCons, DL.tSub, iSeq, srcOf_tup, srcOf_fl, srcOf_kl, srcOf_ti, iRange1, iRange2, sFor, startD, List.map_cons, List.map_nil, List.length_cons, List.length_nil, List.replicate, List.cons_append, List.nil_append, List.getElem?_cons_zero, List.getElem?_cons_succ, List.set_cons_zero, List.set_cons_succ, dSub_int, dFdiv_int, dMod_int, dLt_int, dLe_int, dGt_int, dGe_int, dAddI_int, dSubI_int, dIsN_non, isN, dAdd_int, ll0, ll1, ll2, ll3, ll4, ll5, ll6, ll7, ll8, ll9, ll10, ll11, ll12, ll13, ll14, ll15, ll16, ll17, ll18, ll19, ll20, ll21, ll22, ll23, ll24, ll25, ll26, ll27, ll28, ll29, ll30, ll31, ll32, ll33, ll34, ll35, ll36, ll37, ll38, ll39, ll40, Nat.reduceSub, Nat.reduceAdd, Nat.reduceEqDiff, if_true, if_false, ifp_t, ifp_f, reduceIte, Bool.true_eq_false, Bool.false_eq_true, Option.map_some, Option.map_none, Option.bind_some, Option.bind_none, m1, hlen1, z1, hsz, hr, Int.toNat_natCast, hf, u1, to, v1, dEq_int, ev, hg, decide_true, ln, hc, il5, p1, il6, ins, tp]
          obtain ⟨f1, f2⟩ := fin fs' S7 _ s7 hB
          refine ⟨fs', _, f1, ?_, ?_, ?_, f2.mono (by omega)⟩
          · intro hc; rw [hc] at hfs'; simp at hfs'
          · rw [← hfs']; simp; omega
          · intro e he
            rw [← hfs'] at he
            rcases List.mem_append.mp he with he | he
            · rcases List.mem_append.mp he with he | he
              · exact r3' e (List.mem_of_mem_take he)
              · rw [List.mem_singleton.mp he]
                exact ⟨by show (0 : Int) ≤ 0; omega, by show (0 : Int) ≤ 5; omega, by show 1 ≤ u - tot fs; omega, by show u - tot fs ≤ 10 ^ 13; omega⟩
            · exact r3' e (List.mem_of_mem_drop he)
        · have tp : bTuple [.loc (rest.length + 2)] S5 = .ok (.tup (fs.map dp)) S5 := bTuple_loc s5.getQ_end
          have hB : B__law_far [some (.loc 1), some (.int 12), some (.int most), none, none, none, none] S = .rt (.tup (fs.map dp)) S5 := by
            unfold B__law_far
            simp only [eVar, eC, eOp, eT, eAnd, eOr, eNot, eIf, eAndV, eOrV, eNotV, eCall, aNil, aCons, aStar, sOf, eTup, eFl, eLoc, eSl, oNone, oSome, iOf, eNeg, eChain, eMt, bOf, eDict0, eRev, eListRg, iZipD, sRaise1, sRaise0, eCallV, List.lookup, R.bind_ok, R.bind_er, R.bind_stuck, R.toS_ok, R.toS_er, R.toS_stuck, SR.next_nx, SR.next_rt, SR.next_er, SR.next_bk, SR.next_ct, SR.next_stuck, sNil, sSeq, sBrk, sCnt, sExp, sRet, sRetN, sIf, sSet, sAsg, sAug, sPar2, sPar3, tN, DL.tTup, DL.tNil, DL.tCons, DL.tSub, iSeq, srcOf_tup, srcOf_fl, srcOf_kl, srcOf_ti, iRange1, iRange2, sFor, startD, List.map_cons, List.map_nil, List.length_cons, List.length_nil, List.replicate, List.cons_append, List.nil_append, List.getElem?_cons_zero, List.getElem?_cons_succ, List.set_cons_zero, List.set_cons_succ, dSub_int, dFdiv_int, dMod_int, dLt_int, dLe_int, dGt_int, dGe_int, dAddI_int, dSubI_int, dIsN_non, isN, dAdd_int, ll0, ll1, ll2, ll3, ll4, ll5, ll6, ll7, ll8, ll9, ll10, ll11, ll12, ll13, ll14, ll15, ll16, ll17, ll18, ll19, ll20, ll21, ll22, ll23, ll24, ll25, ll26, ll27, ll28, ll29, ll30, ll31, ll32, ll33, ll34, ll35, ll36, ll37, ll38, ll39, ll40, Nat.reduceSub, Nat.reduceAdd, Nat.reduceEqDiff, if_true, if_false, ifp_t, ifp_f, reduceIte, Bool.true_eq_false, Bool.false_eq_true, Option.map_some, Option.map_none, Option.bind_some, Option.bind_none, m1, hlen1, z1, hsz, hr, Int.toNat_natCast, hf, u1, to, v1, dEq_int, ev, hg, decide_true, ln, hc, decide_false, tp]
          obtain ⟨f1, f2⟩ := fin fs S5 _ s5 hB
          exact ⟨fs, _, f1, fun hc => by rw [hc] at l3; simp at l3; omega, by omega, r3', f2.mono (by omega)⟩
      · have tp : bTuple [.loc (rest.length + 2)] S5 = .ok (.tup (fs.map dp)) S5 := bTuple_loc s5.getQ_end
        have hB : B__law_far [some (.loc 1), some (.int 12), some (.int most), none, none, none, none] S = .rt (.tup (fs.map dp)) S5 := by
          unfold B__law_far
          simp only [eVar, eC, eOp, eT, eAnd, eOr, eNot, eIf, eAndV, eOrV, eNotV, eCall, aNil, aCons, aStar, sOf, eTup, eFl, eLoc, eSl, oNone, oSome, iOf, eNeg, eChain, eMt, bOf, eDict0, eRev, eListRg, iZipD, sRaise1, sRaise0, eCallV, List.lookup, R.bind_ok, R.bind_er, R.bind_stuck, R.toS_ok, R.toS_er, R.toS_stuck, SR.next_nx, SR.next_rt, SR.next_er, SR.next_bk, SR.next_ct, SR.next_stuck, sNil, sSeq, sBrk, sCnt, sExp, sRet, sRetN, sIf, sSet, sAsg, sAug, sPar2, sPar3, tN, DL.tTup, DL.tNil, DL.tCons, DL.tSub, iSeq, srcOf_tup, srcOf_fl, srcOf_kl, srcOf_ti, iRange1, iRange2, sFor, startD, List.map_cons, List.map_nil, List.length_cons, List.length_nil, List.replicate, List.cons_append, List.nil_append, List.getElem?_cons_zero, List.getElem?_cons_succ, List.set_cons_zero, List.set_cons_succ, dSub_int, dFdiv_int, dMod_int, dLt_int, dLe_int, dGt_int, dGe_int, dAddI_int, dSubI_int, dIsN_non, isN, dAdd_int, ll0, ll1, ll2, ll3, ll4, ll5, ll6, ll7, ll8, ll9, ll10, ll11, ll12, ll13, ll14, ll15, ll16, ll17, ll18, ll19, ll20, ll21, ll22, ll23, ll24, ll25, ll26, ll27, ll28, ll29, ll30, ll31, ll32, ll33, ll34, ll35, ll36, ll37, ll38, ll39, ll40, Nat.reduceSub, Nat.reduceAdd, Nat.reduceEqDiff, if_true, if_false, ifp_t, ifp_f, reduceIte, Bool.true_eq_false, Bool.false_eq_true, Option.map_some, Option.map_none, Option.bind_some, Option.bind_none, m1, hlen1, z1, hsz, hr, Int.toNat_natCast, hf, u1, to, v1, dEq_int, ev, hg, decide_true, decide_false, tp]
        obtain ⟨f1, f2⟩ := fin fs S5 _ s5 hB
        exact ⟨fs, _, f1, fun hc => by rw [hc] at l3; simp at l3; omega, by omega, r3', f2.mono (by omega)⟩
    · have ev : (v == 0) = false := by simpa using hv
      have tp : bTuple [.loc (rest.length + 2)] S5 = .ok (.tup (fs.map dp)) S5 := bTuple_loc s5.getQ_end
      have hB : B__law_far [some (.loc 1), some (.int 12), some (.int most), none, none, none, none] S = .rt (.tup (fs.map dp)) S5 := by
        unfold B__law_far
        simp only [eVar, eC, eOp, eT, eAnd, eOr, eNot, eIf, eAndV, eOrV, eNotV, eCall, aNil, aCons, aStar, sOf, eTup, eFl, eLoc, eSl, oNone, oSome, iOf, eNeg, eChain, eMt, bOf, eDict0, eRev, eListRg, iZipD, sRaise1, sRaise0, eCallV, List.lookup, R.bind_ok, R.bind_er, R.bind_stuck, R.toS_ok, R.toS_er, R.toS_stuck, SR.next_nx, SR.next_rt, SR.next_er, SR.next_bk, SR.next_ct, SR.next_stuck, sNil, sSeq, sBrk, sCnt, sExp, sRet, sRetN, sIf, sSet, sAsg, sAug, sPar2, sPar3, tN, DL.tTup, DL.tNil, DL.tCons, DL.tSub, iSeq, srcOf_tup, srcOf_fl, srcOf_kl, srcOf_ti, iRange1, iRange2, sFor, startD, List.map_cons, List.map_nil, List.length_cons, List.length_nil, List.replicate, List.cons_append, List.nil_append, List.getElem?_cons_zero, List.getElem?_cons_succ, List.set_cons_zero, List.set_cons_succ, dSub_int, dFdiv_int, dMod_int, dLt_int, dLe_int, dGt_int, dGe_int, dAddI_int, dSubI_int, dIsN_non, isN, dAdd_int, ll0, ll1, ll2, ll3, ll4, ll5, ll6, ll7, ll8, ll9, ll10, ll11, ll12, ll13, ll14, ll15, ll16, ll17, ll18, ll19, ll20, ll21, ll22, ll23, ll24, ll25, ll26, ll27, ll28, ll29, ll30, ll31, ll32, ll33, ll34, ll35, ll36, ll37, ll38, ll39, ll40, Nat.reduceSub, Nat.reduceAdd, Nat.reduceEqDiff, if_true, if_false, ifp_t, ifp_f, reduceIte, Bool.true_eq_false, Bool.false_eq_true, Option.map_some, Option.map_none, Option.bind_some, Option.bind_none, m1, hlen1, z1, hsz, hr, Int.toNat_natCast, hf, u1, to, v1, dEq_int, ev, tp]
      obtain ⟨f1, f2⟩ := fin fs S5 _ s5 hB
      exact ⟨fs, _, f1, fun hc => by rw [hc] at l3; simp at l3; omega, by omega, r3', f2.mono (by omega)⟩
  · rintro j d ρ S' hj ⟨⟨x5, rfl⟩, fs, sj, lj, rj⟩
    obtain ⟨hj', rfl⟩ := rangeD_get hj
    rw [Nat.zero_add] at sj lj ⊢
    obtain ⟨fs', S'', g1, g2, g3, g4⟩ := far_step sj me ml ma h0 h1 (by omega) rj (by omega) (some (.int 12)) (some (.int (0 + (j : Int)))) none
    exact ⟨_, _, _, S'', rfl, .inl g1, ⟨_, rfl⟩, fs', g2.mono (by omega), by omega, g4⟩
end DL

/-! Far rings: drawn ones, and as they are read from a position. -/
namespace DL
open PySem PySem.Spec L2
open PyProof.Rows hiding St
noncomputable def B_check_position : Ev → Sto → SR :=
  (sIf (eNot (eT (eCall F_is_integer (aCons (eVar 1) (aCons (eC (.int 0)) (aCons (eOp dSub (eCall F_far_length (aCons (eVar 0) aNil)) (eC (.int 1))) aNil)))))) (sRaise1 "NoPlace" "value" (aCons (eVar 1) aNil)) sNil)
noncomputable def F_check_position : Fn := fnC close 2 2 B_check_position

noncomputable def L1_runs_from (ρ : Ev) (S : Sto) : SR :=
  (sSeq (sSet 7 (eCall bMinT (aCons (eCall bMax (aCons (eOp dSub (eVar 1) (eVar 4)) (aCons (eC (.int 0)) aNil))) (aCons (eVar 6) aNil))))
    (sSeq (sIf (eT (eOp dGt (eVar 7) (eC (.int 0)))) (sExp (eMt isLst mAppend (eVar 2) (aCons (eTup (aCons (eVar 5) (aCons (eVar 7) aNil))) aNil))) sNil)
    (sSeq (sIf (eT (eOp dLt (eVar 7) (eVar 6))) (sExp (eMt isLst mAppend (eVar 3) (aCons (eTup (aCons (eVar 5) (aCons (eOp dSub (eVar 6) (eVar 7)) aNil))) aNil))) sNil)
    (sAug 4 dAddI (eVar 6))))) ρ S
noncomputable def B_runs_from : Ev → Sto → SR :=
  (sSeq (sPar3 2 3 4 (aCons (eLoc aNil) (aCons (eLoc aNil) (aCons (eC (.int 0)) aNil))))
    (sSeq (sFor (iSeq (eVar 0)) (tTup 2 (tCons (tN 5) (tCons (tN 6) tNil))) L1_runs_from sNil)
    (sRet (eFl (aStar (eVar 3) (aStar (eVar 2) aNil))))))
noncomputable def F_runs_from : Fn := fnC close 8 2 B_runs_from

noncomputable def B_far_need : Ev → Sto → SR :=
  (sSeq (sExp (eCall F_check_position (aCons (eVar 0) (aCons (eVar 1) aNil))))
    (sRet (eOp dIx (eCall F_effect_of_runs (aCons (eCall F_runs_from (aCons (eVar 0) (aCons (eVar 1) aNil))) aNil)) (eC (.int 0)))))
noncomputable def F_far_need : Fn := fnC close 2 2 B_far_need

noncomputable def L1__law_parts (ρ : Ev) (S : Sto) : SR :=
  (sSeq (sSet 7 (eCall bMax (aCons (eC (.int 0)) (aCons (eCall bMinT (aCons (eVar 6) (aCons (eOp dSub (eVar 1) (eVar 4)) aNil))) aNil))))
    (sSeq (sSet 2 (eOp dAdd (eVar 2) (eOp dMulT (eFl (aCons (eTup (aCons (eVar 5) (aCons (eVar 7) aNil))) aNil)) (eCall bInt (aCons (eOp dGt (eVar 7) (eC (.int 0))) aNil)))))
    (sSeq (sSet 3 (eOp dAdd (eVar 3) (eOp dMulT (eFl (aCons (eTup (aCons (eVar 5) (aCons (eOp dSub (eVar 6) (eVar 7)) aNil))) aNil)) (eCall bInt (aCons (eOp dLt (eVar 7) (eVar 6)) aNil)))))
    (sSet 4 (eOp dAdd (eVar 4) (eVar 6)))))) ρ S
noncomputable def B__law_parts : Ev → Sto → SR :=
  (sSeq (sPar3 2 3 4 (aCons (eFl aNil) (aCons (eFl aNil) (aCons (eC (.int 0)) aNil))))
    (sSeq (sFor (iSeq (eVar 0)) (tTup 2 (tCons (tN 5) (tCons (tN 6) tNil))) L1__law_parts sNil)
    (sRet (eOp dAdd (eVar 3) (eVar 2)))))
noncomputable def F__law_parts : Fn := fnC close 8 2 B__law_parts

noncomputable def B__law_far_need : Ev → Sto → SR :=
  (sRet (eCall bMax (aCons (eC (.int 0)) (aCons (eOp dSub (eC (.int 1)) (eOp dIx (eCall F__law_lowest (aCons (eCall F__law_parts (aCons (eVar 0) (aCons (eVar 1) aNil))) aNil)) (eC (.int 0)))) aNil))))
noncomputable def F__law_far_need : Fn := fnC close 2 2 B__law_far_need

noncomputable def B__law_odds : Ev → Sto → SR :=
  (sRet (eFl (aCons (eCall F__law_odd (aCons (eVar 0) aNil)) (aCons (eCall F__law_odd (aCons (eVar 0) aNil)) (aCons (eNeg (eC (.int 1))) (aCons (eVar 1) (aCons (eC (.bl true)) (aCons (eC .non) (aCons (eOp dAdd (eVar 1) (eOp dPow (eC (.int 10)) (eC (.int 20)))) (aCons (eCall bStr (aCons (eVar 1) aNil)) aNil))))))))))
noncomputable def F__law_odds : Fn := fnC close 2 2 B__law_odds

noncomputable def B__law_whole : Ev → Sto → SR :=
  (sSeq (sIf (eOr (eNot (eT (eCall bIsi (aCons (eVar 0) (aCons (eC (.ty "int")) aNil))))) (eT (eCall bIsi (aCons (eVar 0) (aCons (eC (.ty "bool")) aNil))))) (sRet (eC (.bl false))) sNil)
    (sRet (eChain dLe dLe (eVar 1) (eVar 0) (eVar 2))))
noncomputable def F__law_whole : Fn := fnC close 3 3 B__law_whole

theorem len_le : ∀ (fs : List (Int × Int)) (M : Int), (∀ e ∈ fs, Run e ∧ e.2 ≤ M) → len fs ≤ M * fs.length
  | [], M, _ => by simp [len]
  | e :: fs, M, h => by
    have ih := len_le fs M fun x hx => h x (List.mem_cons_of_mem _ hx)
    have := (h e List.mem_cons_self).2
    have e1 : len (e :: fs) = e.2 + len fs := by unfold len; rw [List.map_cons, List.sum_cons]
    rw [e1, List.length_cons, Int.natCast_add, Int.mul_add]
    simp
    omega
theorem len_app (a b : List (Int × Int)) : len (a ++ b) = len a + len b := by unfold len; rw [List.map_append, List.sum_append]
theorem far_ok2 {S : Sto} {n : Nat} {rest : Sto} (h : Strm S n rest) {runs most : Int} (hr0 : 0 < runs) (hr1 : runs ≤ 12) (h0 : 0 < most) (h1 : most ≤ 10 ^ 10) (hn : n + 40 < 2 ^ 60) :
    ∃ (fs : List (Int × Int)) (S' : Sto), F__law_far [.loc 1, .int runs, .int most] S = .ok (.tup (fs.map dp)) S' ∧ fs ≠ [] ∧ (fs.length : Int) ≤ runs + 1 ∧ fs.length ≤ 12 ∧ (∀ e ∈ fs, Run e) ∧ len fs ≤ 5 * (most * runs) + 4 ∧ Strm S' (n + 40) rest := by
  obtain ⟨m, S1, m1, m2, s1⟩ := pick_fl h (xs := [.fl ([0, 1, 2].map D.int), .fl ([0, 2].map D.int), .fl ([0, 0, 5, 3].map D.int), .fl ([0, 1, 2, 3, 4, 5].map D.int), .fl ([1, 0].map D.int), .fl ([0].map D.int)]) (by simp) (by simp) (by omega)
  obtain ⟨menu, rfl, me, ml, ma⟩ : ∃ menu : List Int, m = .fl (menu.map D.int) ∧ menu ≠ [] ∧ menu.length ≤ 6 ∧ ∀ t ∈ menu, Arity t := by
    have am : ∀ l : List Int, (l.all fun t => decide (0 ≤ t ∧ t ≤ 5)) = true → ∀ t ∈ l, Arity t := fun l hl t ht => by
      have := List.all_eq_true.mp hl t ht
      simpa [Arity] using this
    simp only [List.mem_cons, List.not_mem_nil, or_false] at m2
    rcases m2 with rfl | rfl | rfl | rfl | rfl | rfl <;> exact ⟨_, rfl, by simp, by simp, am _ (by decide)⟩
  have sA := s1.app [.lst []]
  have hlen1 : S1.length = rest.length + 2 := s1.len
  obtain ⟨z, S2, z1, z2, z3, s2⟩ := draw_ok sA (m := runs) (by omega) (log2_small 60 (by omega) (by decide) (by decide)) (by omega)
  obtain ⟨size, hsz⟩ : ∃ size : Nat, 1 + z = (size : Int) := ⟨(1 + z).toNat, by omega⟩
  have hr : ((-(2 ^ 62) : Int) ≤ (size : Int) ∧ (size : Int) < 2 ^ 62) = True := by simp; omega
  have key := forD_all (T := tN 5) (B := L1__law_far) (Z := sNil) (fun i ρ S => (∃ x5, ρ = [some (.loc 1), some (.int runs), some (.int most), some (.fl (menu.map D.int)), some (.loc (rest.length + 2)), x5, none]) ∧ ∃ fs : List (Int × Int), Strm S (n + 2 + 2 * i) (rest ++ [.lst (fs.map dp)]) ∧ fs.length = i ∧ ∀ e ∈ fs, Run e ∧ e.2 ≤ most)
    (rangeD 0 size) 0 [some (.loc 1), some (.int runs), some (.int most), some (.fl (menu.map D.int)), some (.loc (rest.length + 2)), none, none] S2 ⟨⟨none, rfl⟩, [], s2, rfl, by simp⟩ ?_
  · obtain ⟨ρ', S3, ⟨⟨x5, rfl⟩, fs, s3, l3, r3⟩, hf⟩ := key
    rw [rangeD_len, Nat.zero_add] at l3 s3
    have r3' : ∀ e ∈ fs, Run e := fun e he => (r3 e he).1
    have tl := tot_low fs most r3 (by omega)
    have ml := len_le fs most r3
    have mr : most * (fs.length : Int) ≤ most * runs := Int.mul_le_mul_of_nonneg_left (by omega) (by omega)
    have mr0 : 0 ≤ most * runs := Int.mul_nonneg (by omega) (by omega)
    have ta : 4 * most * (fs.length : Int) = 4 * (most * (fs.length : Int)) := Int.mul_assoc ..
    have tl2 : 4 * most * (fs.length : Int) ≤ 4 * 10 ^ 10 * 12 := Int.mul_le_mul (by omega) (by omega) (by omega) (by omega)
    obtain ⟨u, S4, u1, u2, u3, s4⟩ := draw_ok s3 (m := 5) (by decide) (by decide) (by omega)
    have to := totalL_ok (n := rest.length + 2) fs s4.getQ_end (by omega) r3'
    obtain ⟨v, S5, v1, v2, v3, s5⟩ := draw_ok s4 (m := 2) (by decide) (by decide) (by omega)
    have ln : bLen [.loc (rest.length + 2)] S5 = .ok (.int (fs.length : Int)) S5 := by
      have := bLen_loc (S := S5) s5.getQ_end
      rw [List.length_map] at this
      exact this
    have hst : startD 7 [D.loc 1, .int runs, .int most] = [some (.loc 1), some (.int runs), some (.int most), none, none, none, none] := rfl
    have fin : ∀ (fs' : List (Int × Int)) (S6 : Sto) (k : Nat), Strm S6 k (rest ++ [.lst (fs'.map dp)]) → B__law_far [some (.loc 1), some (.int runs), some (.int most), none, none, none, none] S = .rt (.tup (fs'.map dp)) S6 → F__law_far [.loc 1, .int runs, .int most] S = .ok (.tup (fs'.map dp)) (S6.take S.length) ∧ Strm (S6.take S.length) k rest := by
      intro fs' S6 k s6 hB
      obtain ⟨q1, q2⟩ := h.trunc s6
      refine ⟨?_, q2⟩
      unfold F__law_far fnC
      rw [if_pos (show [D.loc 1, D.int runs, D.int most].length = 3 from rfl), hst, hB]
      show close S (.tup (fs'.map dp)) S6 = _
      unfold close
      rw [if_neg (by rw [s6.len, h.len]; simp), if_pos ⟨q1, by rw [low]; exact lowL_dps _ _⟩]
    have e0 : ([D.fl ([0, 1, 2].map D.int), .fl ([0, 2].map D.int), .fl ([0, 0, 5, 3].map D.int), .fl ([0, 1, 2, 3, 4, 5].map D.int), .fl ([1, 0].map D.int), .fl ([0].map D.int)] : List D) = [.fl [.int 0, .int 1, .int 2], .fl [.int 0, .int 2], .fl [.int 0, .int 0, .int 5, .int 3], .fl [.int 0, .int 1, .int 2, .int 3, .int 4, .int 5], .fl [.int 1, .int 0], .fl [.int 0]] := rfl
    rw [e0] at m1
    by_cases hv : v = 0
    · have ev : (v == 0) = true := by simpa using hv
      by_cases hg : u - tot fs > 0
      · by_cases hc : (fs.length : Int) < 12
        · obtain ⟨p, S6, p1, p2, p3, s6⟩ := draw_ok s5 (m := (fs.length : Int) + 1) (by omega) (log2_small 200 (by omega) (by decide) (by decide)) (by omega)
          have gl := s6.getL_end
          have ins : mInsert (.loc (rest.length + 2)) [.int p, .tup [.int 0, .int (u - tot fs)]] S6 = .ok .non (S6.set (rest.length + 2) (.lst ((fs.take p.toNat ++ [(0, u - tot fs)] ++ fs.drop p.toNat).map dp))) := by
            show (match getL S6 (rest.length + 2) with
              | some xs => ifp (xs.length < sizeLine ∧ 0 ≤ p ∧ p < 2 ^ 63) (R.ok D.non (S6.set (rest.length + 2) (.lst (xs.take p.toNat ++ [D.tup [.int 0, .int (u - tot fs)]] ++ xs.drop p.toNat)))) .stuck
              | none => .stuck) = _
            rw [gl]
            show ifp ((fs.map dp).length < sizeLine ∧ 0 ≤ p ∧ p < 2 ^ 63) _ _ = _
            rw [ifp_pos ⟨by rw [List.length_map]; exact Nat.lt_of_lt_of_le (show fs.length < 30 by omega) (by decide), p2, by omega⟩]
            simp only [List.map_append, List.map_take, List.map_drop]
            rfl
          have s7 := s6.set_end (.lst ((fs.take p.toNat ++ [(0, u - tot fs)] ++ fs.drop p.toNat).map dp))
          have tp : bTuple [.loc (rest.length + 2)] (S6.set (rest.length + 2) (.lst ((fs.take p.toNat ++ [(0, u - tot fs)] ++ fs.drop p.toNat).map dp))) = .ok (.tup ((fs.take p.toNat ++ [(0, u - tot fs)] ++ fs.drop p.toNat).map dp)) (S6.set (rest.length + 2) (.lst ((fs.take p.toNat ++ [(0, u - tot fs)] ++ fs.drop p.toNat).map dp))) := bTuple_loc s7.getQ_end
          have il5 : isLst S5 (.loc (rest.length + 2)) = true := by
            unfold isLst
            rw [show lstOf S5 (.loc (rest.length + 2)) = some (fs.map dp) from s5.getL_end]; rfl
          have il6 : isLst S6 (.loc (rest.length + 2)) = true := by
            unfold isLst
            rw [show lstOf S6 (.loc (rest.length + 2)) = some (fs.map dp) from gl]; rfl
          generalize hfs' : fs.take p.toNat ++ [(0, u - tot fs)] ++ fs.drop p.toNat = fs' at ins s7 tp
          generalize hS7 : S6.set (rest.length + 2) (.lst (fs'.map dp)) = S7 at ins s7 tp
          have hB : B__law_far [some (.loc 1), some (.int runs), some (.int most), none, none, none, none] S = .rt (.tup (fs'.map dp)) S7 := by
            unfold B__law_far
            simp only [eVar, eC, eOp, eT, eAnd, eOr, eNot, eIf, eAndV, eOrV, eNotV, eCall, aNil, aCons, aStar, sOf, eTup, eFl, eLoc, eSl, oNone, oSome, iOf, eNeg, eChain, eMt, bOf, eDict0, eRev, eListRg, iZipD, sRaise1, sRaise0, eCallV, List.lookup, R.bind_ok, R.bind_er, R.bind_stuck, R.toS_ok, R.toS_er, R.toS_stuck, SR.next_nx, SR.next_rt, SR.next_er, SR.next_bk, SR.next_ct, SR.next_stuck, sNil, sSeq, sBrk, sCnt, sExp, sRet, sRetN, sIf, sSet, sAsg, sAug, sPar2, sPar3, tN, DL.tTup, DL.tNil, DL.tCons, DL.tSub, iSeq, srcOf_tup, srcOf_fl, srcOf_kl, srcOf_ti, iRange1, iRange2, sFor, startD, List.map_cons, List.map_nil, List.length_cons, List.length_nil, List.replicate, List.cons_append, List.nil_append, List.getElem?_cons_zero, List.getElem?_cons_succ, List.set_cons_zero, List.set_cons_succ, dSub_int, dFdiv_int, dMod_int, dLt_int, dLe_int, dGt_int, dGe_int, dAddI_int, dSubI_int, dIsN_non, isN, dAdd_int, ll0, ll1, ll2, ll3, ll4, ll5, ll6, ll7, ll8, ll9, ll10, ll11, ll12, ll13, ll14, ll15, ll16, ll17, ll18, ll19, ll20, ll21, ll22, ll23, ll24, ll25, ll26, ll27, ll28, ll29, ll30, ll31, ll32, ll33, ll34, ll35, ll36, ll37, ll38, ll39, ll40, Nat.reduceSub, Nat.reduceAdd, Nat.reduceEqDiff, if_true, if_false, ifp_t, ifp_f, reduceIte, Bool.true_eq_false, Bool.false_eq_true, Option.map_some, Option.map_none, Option.bind_some, Option.bind_none, tSq, sSet2, seqOf_fl, seqOf_tup, seqOf_ti, m1, hlen1, z1, hsz, hr, Int.toNat_natCast, hf, u1, to, v1, dEq_int, ev, hg, decide_true, ln, hc, il5, p1, il6, ins, tp]
          obtain ⟨f1, f2⟩ := fin fs' S7 _ s7 hB
          refine ⟨fs', _, f1, ?_, ?_, ?_, ?_, ?_, f2.mono (by omega)⟩
          · intro hc; rw [hc] at hfs'; simp at hfs'
          · rw [← hfs']; simp; omega
          · rw [← hfs']; simp; omega
          · intro e he
            rw [← hfs'] at he
            rcases List.mem_append.mp he with he | he
            · rcases List.mem_append.mp he with he | he
              · exact r3' e (List.mem_of_mem_take he)
              · rw [List.mem_singleton.mp he]
                exact ⟨by show (0 : Int) ≤ 0; omega, by show (0 : Int) ≤ 5; omega, by show 1 ≤ u - tot fs; omega, by show u - tot fs ≤ 10 ^ 13; omega⟩
            · exact r3' e (List.mem_of_mem_drop he)
          · have : len fs' = len fs + (u - tot fs) := by
              have e1 : len fs = len (fs.take p.toNat) + len (fs.drop p.toNat) := by
                have := len_app (fs.take p.toNat) (fs.drop p.toNat)
                rw [List.take_append_drop] at this
                exact this
              have e2 : len [((0 : Int), u - tot fs)] = u - tot fs := by simp [len]
              rw [← hfs', len_app, len_app, e1, e2]
              omega
            omega
        · have tp : bTuple [.loc (rest.length + 2)] S5 = .ok (.tup (fs.map dp)) S5 := bTuple_loc s5.getQ_end
          have hB : B__law_far [some (.loc 1), some (.int runs), some (.int most), none, none, none, none] S = .rt (.tup (fs.map dp)) S5 := by
            unfold B__law_far
            simp only [eVar, eC, eOp, eT, eAnd, eOr, eNot, eIf, eAndV, eOrV, eNotV, eCall, aNil, aCons, aStar, sOf, eTup, eFl, eLoc, eSl, oNone, oSome, iOf, eNeg, eChain, eMt, bOf, eDict0, eRev, eListRg, iZipD, sRaise1, sRaise0, eCallV, List.lookup, R.bind_ok, R.bind_er, R.bind_stuck, R.toS_ok, R.toS_er, R.toS_stuck, SR.next_nx, SR.next_rt, SR.next_er, SR.next_bk, SR.next_ct, SR.next_stuck, sNil, sSeq, sBrk, sCnt, sExp, sRet, sRetN, sIf, sSet, sAsg, sAug, sPar2, sPar3, tN, DL.tTup, DL.tNil, DL.tCons, DL.tSub, iSeq, srcOf_tup, srcOf_fl, srcOf_kl, srcOf_ti, iRange1, iRange2, sFor, startD, List.map_cons, List.map_nil, List.length_cons, List.length_nil, List.replicate, List.cons_append, List.nil_append, List.getElem?_cons_zero, List.getElem?_cons_succ, List.set_cons_zero, List.set_cons_succ, dSub_int, dFdiv_int, dMod_int, dLt_int, dLe_int, dGt_int, dGe_int, dAddI_int, dSubI_int, dIsN_non, isN, dAdd_int, ll0, ll1, ll2, ll3, ll4, ll5, ll6, ll7, ll8, ll9, ll10, ll11, ll12, ll13, ll14, ll15, ll16, ll17, ll18, ll19, ll20, ll21, ll22, ll23, ll24, ll25, ll26, ll27, ll28, ll29, ll30, ll31, ll32, ll33, ll34, ll35, ll36, ll37, ll38, ll39, ll40, Nat.reduceSub, Nat.reduceAdd, Nat.reduceEqDiff, if_true, if_false, ifp_t, ifp_f, reduceIte, Bool.true_eq_false, Bool.false_eq_true, Option.map_some, Option.map_none, Option.bind_some, Option.bind_none, tSq, sSet2, seqOf_fl, seqOf_tup, seqOf_ti, m1, hlen1, z1, hsz, hr, Int.toNat_natCast, hf, u1, to, v1, dEq_int, ev, hg, decide_true, ln, hc, decide_false, tp]
          obtain ⟨f1, f2⟩ := fin fs S5 _ s5 hB
          exact ⟨fs, _, f1, fun hc => by rw [hc] at l3; simp at l3; omega, by omega, by omega, r3', by omega, f2.mono (by omega)⟩
      · have tp : bTuple [.loc (rest.length + 2)] S5 = .ok (.tup (fs.map dp)) S5 := bTuple_loc s5.getQ_end
        have hB : B__law_far [some (.loc 1), some (.int runs), some (.int most), none, none, none, none] S = .rt (.tup (fs.map dp)) S5 := by
          unfold B__law_far
          simp only [eVar, eC, eOp, eT, eAnd, eOr, eNot, eIf, eAndV, eOrV, eNotV, eCall, aNil, aCons, aStar, sOf, eTup, eFl, eLoc, eSl, oNone, oSome, iOf, eNeg, eChain, eMt, bOf, eDict0, eRev, eListRg, iZipD, sRaise1, sRaise0, eCallV, List.lookup, R.bind_ok, R.bind_er, R.bind_stuck, R.toS_ok, R.toS_er, R.toS_stuck, SR.next_nx, SR.next_rt, SR.next_er, SR.next_bk, SR.next_ct, SR.next_stuck, sNil, sSeq, sBrk, sCnt, sExp, sRet, sRetN, sIf, sSet, sAsg, sAug, sPar2, sPar3, tN, DL.tTup, DL.tNil, DL.tCons, DL.tSub, iSeq, srcOf_tup, srcOf_fl, srcOf_kl, srcOf_ti, iRange1, iRange2, sFor, startD, List.map_cons, List.map_nil, List.length_cons, List.length_nil, List.replicate, List.cons_append, List.nil_append, List.getElem?_cons_zero, List.getElem?_cons_succ, List.set_cons_zero, List.set_cons_succ, dSub_int, dFdiv_int, dMod_int, dLt_int, dLe_int, dGt_int, dGe_int, dAddI_int, dSubI_int, dIsN_non, isN, dAdd_int, ll0, ll1, ll2, ll3, ll4, ll5, ll6, ll7, ll8, ll9, ll10, ll11, ll12, ll13, ll14, ll15, ll16, ll17, ll18, ll19, ll20, ll21, ll22, ll23, ll24, ll25, ll26, ll27, ll28, ll29, ll30, ll31, ll32, ll33, ll34, ll35, ll36, ll37, ll38, ll39, ll40, Nat.reduceSub, Nat.reduceAdd, Nat.reduceEqDiff, if_true, if_false, ifp_t, ifp_f, reduceIte, Bool.true_eq_false, Bool.false_eq_true, Option.map_some, Option.map_none, Option.bind_some, Option.bind_none, tSq, sSet2, seqOf_fl, seqOf_tup, seqOf_ti, m1, hlen1, z1, hsz, hr, Int.toNat_natCast, hf, u1, to, v1, dEq_int, ev, hg, decide_true, decide_false, tp]
        obtain ⟨f1, f2⟩ := fin fs S5 _ s5 hB
        exact ⟨fs, _, f1, fun hc => by rw [hc] at l3; simp at l3; omega, by omega, by omega, r3', by omega, f2.mono (by omega)⟩
    · have ev : (v == 0) = false := by simpa using hv
      have tp : bTuple [.loc (rest.length + 2)] S5 = .ok (.tup (fs.map dp)) S5 := bTuple_loc s5.getQ_end
      have hB : B__law_far [some (.loc 1), some (.int runs), some (.int most), none, none, none, none] S = .rt (.tup (fs.map dp)) S5 := by
        unfold B__law_far
        simp only [eVar, eC, eOp, eT, eAnd, eOr, eNot, eIf, eAndV, eOrV, eNotV, eCall, aNil, aCons, aStar, sOf, eTup, eFl, eLoc, eSl, oNone, oSome, iOf, eNeg, eChain, eMt, bOf, eDict0, eRev, eListRg, iZipD, sRaise1, sRaise0, eCallV, List.lookup, R.bind_ok, R.bind_er, R.bind_stuck, R.toS_ok, R.toS_er, R.toS_stuck, SR.next_nx, SR.next_rt, SR.next_er, SR.next_bk, SR.next_ct, SR.next_stuck, sNil, sSeq, sBrk, sCnt, sExp, sRet, sRetN, sIf, sSet, sAsg, sAug, sPar2, sPar3, tN, DL.tTup, DL.tNil, DL.tCons, DL.tSub, iSeq, srcOf_tup, srcOf_fl, srcOf_kl, srcOf_ti, iRange1, iRange2, sFor, startD, List.map_cons, List.map_nil, List.length_cons, List.length_nil, List.replicate, List.cons_append, List.nil_append, List.getElem?_cons_zero, List.getElem?_cons_succ, List.set_cons_zero, List.set_cons_succ, dSub_int, dFdiv_int, dMod_int, dLt_int, dLe_int, dGt_int, dGe_int, dAddI_int, dSubI_int, dIsN_non, isN, dAdd_int, ll0, ll1, ll2, ll3, ll4, ll5, ll6, ll7, ll8, ll9, ll10, ll11, ll12, ll13, ll14, ll15, ll16, ll17, ll18, ll19, ll20, ll21, ll22, ll23, ll24, ll25, ll26, ll27, ll28, ll29, ll30, ll31, ll32, ll33, ll34, ll35, ll36, ll37, ll38, ll39, ll40, Nat.reduceSub, Nat.reduceAdd, Nat.reduceEqDiff, if_true, if_false, ifp_t, ifp_f, reduceIte, Bool.true_eq_false, Bool.false_eq_true, Option.map_some, Option.map_none, Option.bind_some, Option.bind_none, tSq, sSet2, seqOf_fl, seqOf_tup, seqOf_ti, m1, hlen1, z1, hsz, hr, Int.toNat_natCast, hf, u1, to, v1, dEq_int, ev, tp]
      obtain ⟨f1, f2⟩ := fin fs S5 _ s5 hB
      exact ⟨fs, _, f1, fun hc => by rw [hc] at l3; simp at l3; omega, by omega, by omega, r3', by omega, f2.mono (by omega)⟩
  · rintro j d ρ S' hj ⟨⟨x5, rfl⟩, fs, sj, lj, rj⟩
    obtain ⟨hj', rfl⟩ := rangeD_get hj
    rw [Nat.zero_add] at sj lj ⊢
    obtain ⟨fs', S'', g1, g2, g3, g4⟩ := far_step sj me ml ma h0 h1 (by omega) rj (by omega) (some (.int runs)) (some (.int (0 + (j : Int)))) none
    exact ⟨_, _, _, S'', rfl, .inl g1, ⟨_, rfl⟩, fs', g2.mono (by omega), by omega, g4⟩
/-! ### as it is read from a position -/
def passed (c d : Int) : Int := min (max d 0) c
def befR : Int → List (Int × Int) → List (Int × Int)
  | _, [] => []
  | d, e :: fs => (if 0 < passed e.2 d then [(e.1, passed e.2 d)] else []) ++ befR (d - e.2) fs
def aftR : Int → List (Int × Int) → List (Int × Int)
  | _, [] => []
  | d, e :: fs => (if passed e.2 d < e.2 then [(e.1, e.2 - passed e.2 d)] else []) ++ aftR (d - e.2) fs
theorem toks_cons (e : Int × Int) (fs : List (Int × Int)) : toks (e :: fs) = List.replicate e.2.toNat e.1 ++ toks fs := by
  unfold toks; rw [List.map_cons, List.flatten_cons]
theorem toks_app (a b : List (Int × Int)) : toks (a ++ b) = toks a ++ toks b := by
  unfold toks; rw [List.map_append, List.flatten_append]
theorem toks_if (c : Prop) [Decidable c] (e : Int × Int) (h : ¬ c → e.2.toNat = 0) : toks (if c then [e] else []) = List.replicate e.2.toNat e.1 := by
  by_cases hc : c
  · rw [if_pos hc, toks_cons]; simp [toks]
  · rw [if_neg hc, h hc]; rfl
theorem toks_bef : ∀ (fs : List (Int × Int)) (d : Int), (∀ e ∈ fs, Run e) → toks (befR d fs) = (toks fs).take d.toNat
  | [], d, _ => by simp [befR, toks]
  | e :: fs, d, h => by
    have c1 := (h e List.mem_cons_self).c1
    rw [befR, toks_app, toks_cons, toks_if _ _ (by intro hc; show (passed e.2 d).toNat = 0; omega), toks_bef fs (d - e.2) fun x hx => h x (List.mem_cons_of_mem _ hx), List.take_append, List.take_replicate, List.length_replicate]
    congr 1
    · congr 1
      unfold passed; show (min (max d 0) e.2).toNat = _; omega
    · congr 1; omega
theorem toks_aft : ∀ (fs : List (Int × Int)) (d : Int), (∀ e ∈ fs, Run e) → toks (aftR d fs) = (toks fs).drop d.toNat
  | [], d, _ => by simp [aftR, toks]
  | e :: fs, d, h => by
    have c1 := (h e List.mem_cons_self).c1
    rw [aftR, toks_app, toks_cons, toks_if _ _ (by intro hc; show (e.2 - passed e.2 d).toNat = 0; omega), toks_aft fs (d - e.2) fun x hx => h x (List.mem_cons_of_mem _ hx), List.drop_append, List.drop_replicate, List.length_replicate]
    congr 1
    · congr 1
      unfold passed; show (e.2 - min (max d 0) e.2).toNat = _; omega
    · congr 1; omega
theorem bef_run : ∀ (fs : List (Int × Int)) (d : Int), (∀ e ∈ fs, Run e) → (∀ e ∈ befR d fs, Run e) ∧ (befR d fs).length ≤ fs.length
  | [], d, _ => by simp [befR]
  | e :: fs, d, h => by
    have hr := h e List.mem_cons_self
    obtain ⟨i1, i2⟩ := bef_run fs (d - e.2) fun x hx => h x (List.mem_cons_of_mem _ hx)
    rw [befR]
    by_cases hc : 0 < passed e.2 d
    · rw [if_pos hc]
      refine ⟨fun x hx => ?_, by simp; omega⟩
      rcases List.mem_append.mp hx with hx | hx
      · rw [List.mem_singleton.mp hx]
        have hp : passed e.2 d ≤ e.2 := by unfold passed; omega
        have := hr.cM
        exact ⟨hr.a0, hr.a5, by show 1 ≤ passed e.2 d; omega, by show passed e.2 d ≤ 10 ^ 13; omega⟩
      · exact i1 x hx
    · rw [if_neg hc]
      exact ⟨fun x hx => i1 x (by simpa using hx), by simp; omega⟩
theorem aft_run : ∀ (fs : List (Int × Int)) (d : Int), (∀ e ∈ fs, Run e) → (∀ e ∈ aftR d fs, Run e) ∧ (aftR d fs).length ≤ fs.length
  | [], d, _ => by simp [aftR]
  | e :: fs, d, h => by
    have hr := h e List.mem_cons_self
    obtain ⟨i1, i2⟩ := aft_run fs (d - e.2) fun x hx => h x (List.mem_cons_of_mem _ hx)
    rw [aftR]
    by_cases hc : passed e.2 d < e.2
    · rw [if_pos hc]
      refine ⟨fun x hx => ?_, by simp; omega⟩
      rcases List.mem_append.mp hx with hx | hx
      · rw [List.mem_singleton.mp hx]
        have hp : 0 ≤ passed e.2 d := by have := hr.c1; unfold passed; omega
        have := hr.cM
        exact ⟨hr.a0, hr.a5, by show 1 ≤ e.2 - passed e.2 d; omega, by show e.2 - passed e.2 d ≤ 10 ^ 13; omega⟩
      · exact i1 x hx
    · rw [if_neg hc]
      exact ⟨fun x hx => i1 x (by simpa using hx), by simp; omega⟩
def rdR (p : Int) (fs : List (Int × Int)) : List (Int × Int) := aftR p fs ++ befR p fs
theorem toks_rd (fs : List (Int × Int)) (p : Nat) (h : ∀ e ∈ fs, Run e) : toks (rdR p fs) = rot (toks fs) p := by
  unfold rdR rot
  rw [toks_app, toks_aft fs p h, toks_bef fs p h, Int.toNat_natCast]
theorem rd_run (fs : List (Int × Int)) (p : Int) (h : ∀ e ∈ fs, Run e) : (∀ e ∈ rdR p fs, Run e) ∧ (rdR p fs).length ≤ 2 * fs.length := by
  obtain ⟨a1, a2⟩ := aft_run fs p h
  obtain ⟨b1, b2⟩ := bef_run fs p h
  refine ⟨fun e he => ?_, by unfold rdR; rw [List.length_append]; omega⟩
  unfold rdR at he
  rcases List.mem_append.mp he with he | he
  · exact a1 e he
  · exact b1 e he
theorem rd_ne (fs : List (Int × Int)) (p : Nat) (h : ∀ e ∈ fs, Run e) (h0 : fs ≠ []) : rdR p fs ≠ [] := by
  intro hc
  have e := toks_rd fs p h
  rw [hc] at e
  cases fs with
  | nil => exact h0 rfl
  | cons f fs =>
    have c1 := (h f List.mem_cons_self).c1
    have : (rot (toks (f :: fs)) p).length = (toks (f :: fs)).length := by
      unfold rot; rw [List.length_append, List.length_drop, List.length_take]; omega
    rw [← e, toks_cons, List.length_append, List.length_replicate] at this
    simp [toks] at this
    omega
/-! ### the defs -/
theorem append_at {S : Sto} {n : Nat} {ds : List D} {d : D} (h : getL S n = some ds) (hl : ds.length < 10 ^ 6) : mAppend (.loc n) [d] S = .ok .non (S.set n (.lst (ds ++ [d]))) := by
  show (match getL S n with
    | some xs => ifp (xs.length < sizeLine) (R.ok D.non (S.set n (.lst (xs ++ [d])))) .stuck
    | none => .stuck) = _
  rw [h]
  exact ifp_pos (Nat.lt_of_lt_of_le hl (by decide))
theorem isLst_at {S : Sto} {n : Nat} {ds : List D} (h : getL S n = some ds) : isLst S (.loc n) = true := by
  unfold isLst
  rw [show lstOf S (.loc n) = some ds from h]; rfl
def two (S : Sto) (b a : List D) : Sto := S ++ [.lst b, .lst a]
theorem two_len (S : Sto) (b a : List D) : (two S b a).length = S.length + 2 := by simp [two]
theorem two_L0 (S : Sto) (b a : List D) : getL (two S b a) S.length = some b := getL_of (by simp [two])
theorem two_L1 (S : Sto) (b a : List D) : getL (two S b a) (S.length + 1) = some a := getL_of (by simp [two])
theorem two_Q0 (S : Sto) (b a : List D) : getQ (two S b a) S.length = some b := getQ_of (by simp [two])
theorem two_Q1 (S : Sto) (b a : List D) : getQ (two S b a) (S.length + 1) = some a := getQ_of (by simp [two])
theorem two_s0 (S : Sto) (b a c : List D) : (two S b a).set S.length (.lst c) = two S c a := by simp [two, List.set_append]
theorem two_s1 (S : Sto) (b a c : List D) : (two S b a).set (S.length + 1) (.lst c) = two S b c := by simp [two, List.set_append]
theorem pass_ok (p st c : Int) (S : Sto) : bMax [.int (p - st), .int 0] S = .ok (.int (max (p - st) 0)) S := rfl
theorem pass_ok2 (m c : Int) (S : Sto) : bMinT [.int m, .int c] S = .ok (.int (min m c)) S := rfl
theorem runs_loop (x0 : Option D) (p : Int) (S : Sto) : ∀ (fs B A : List (Int × Int)) (st : Int) (x5 x6 x7 : Option D), (∀ e ∈ fs, Run e) → B.length + fs.length < 1000 → A.length + fs.length < 1000 →
    ∃ y4 y5 y6 y7, forD yes (tTup 2 (tCons (tN 5) (tCons (tN 6) tNil))) L1_runs_from sNil (fs.map dp) [x0, some (.int p), some (.loc S.length), some (.loc (S.length + 1)), some (.int st), x5, x6, x7] (two S (B.map dp) (A.map dp)) = .nx [x0, some (.int p), some (.loc S.length), some (.loc (S.length + 1)), y4, y5, y6, y7] (two S ((B ++ befR (p - st) fs).map dp) ((A ++ aftR (p - st) fs).map dp))
  | [], B, A, st, x5, x6, x7, _, _, _ => by
    refine ⟨some (.int st), x5, x6, x7, ?_⟩
    rw [List.map_nil, forD_nil trivial, befR, aftR, List.append_nil, List.append_nil]
    rfl
  | e :: fs, B, A, st, x5, x6, x7, hr, hB, hA => by
    have h0 := hr e List.mem_cons_self
    rw [List.length_cons] at hB hA
    have k1 : ∀ S, bMax [.int (p - st), .int 0] S = .ok (.int (max (p - st) 0)) S := fun S => rfl
    have k2 : ∀ S, bMinT [.int (max (p - st) 0), .int e.2] S = .ok (.int (passed e.2 (p - st))) S := fun S => rfl
    obtain ⟨B', hB', hl1, f1⟩ : ∃ B' : List (Int × Int), B' = B ++ (if 0 < passed e.2 (p - st) then [(e.1, passed e.2 (p - st))] else []) ∧ B'.length ≤ B.length + 1 ∧ ∀ (A : List D) (z0 z1 z4 : Option D), sIf (eT (eOp dGt (eVar 7) (eC (.int 0)))) (sExp (eMt isLst mAppend (eVar 2) (aCons (eTup (aCons (eVar 5) (aCons (eVar 7) aNil))) aNil))) sNil [z0, z1, some (.loc S.length), some (.loc (S.length + 1)), z4, some (.int e.1), some (.int e.2), some (.int (passed e.2 (p - st)))] (two S (B.map dp) A) = .nx [z0, z1, some (.loc S.length), some (.loc (S.length + 1)), z4, some (.int e.1), some (.int e.2), some (.int (passed e.2 (p - st)))] (two S (B'.map dp) A) := by
      by_cases hc : 0 < passed e.2 (p - st)
      · refine ⟨_, rfl, by rw [if_pos hc]; simp, fun A z0 z1 z4 => ?_⟩
        rw [if_pos hc]
        have ap := append_at (d := dp (e.1, passed e.2 (p - st))) (two_L0 S (B.map dp) A) (by rw [List.length_map]; omega)
        rw [two_s0] at ap
        have ap' : mAppend (.loc S.length) [.tup [.int e.1, .int (passed e.2 (p - st))]] (two S (B.map dp) A) = .ok .non (two S ((B ++ [(e.1, passed e.2 (p - st))]).map dp) A) := by rw [List.map_append]; exact ap
        have il := isLst_at (two_L0 S (B.map dp) A)
        simp only [eVar, eC, eOp, eT, eAnd, eOr, eNot, eIf, eAndV, eOrV, eNotV, eCall, aNil, aCons, aStar, sOf, eTup, eFl, eLoc, eSl, oNone, oSome, iOf, eNeg, eChain, eMt, bOf, eDict0, eRev, eListRg, iZipD, sRaise1, sRaise0, eCallV, List.lookup, R.bind_ok, R.bind_er, R.bind_stuck, R.toS_ok, R.toS_er, R.toS_stuck, SR.next_nx, SR.next_rt, SR.next_er, SR.next_bk, SR.next_ct, SR.next_stuck, sNil, sSeq, sBrk, sCnt, sExp, sRet, sRetN, sIf, sSet, sAsg, sAug, sPar2, sPar3, tN, DL.tTup, DL.tNil, DL.tCons, DL.tSub, iSeq, srcOf_tup, srcOf_fl, srcOf_kl, srcOf_ti, iRange1, iRange2, sFor, startD, List.map_cons, List.map_nil, List.length_cons, List.length_nil, List.replicate, List.cons_append, List.nil_append, List.getElem?_cons_zero, List.getElem?_cons_succ, List.set_cons_zero, List.set_cons_succ, dSub_int, dFdiv_int, dMod_int, dLt_int, dLe_int, dGt_int, dGe_int, dAddI_int, dSubI_int, dIsN_non, isN, dAdd_int, ll0, ll1, ll2, ll3, ll4, ll5, ll6, ll7, ll8, ll9, ll10, ll11, ll12, ll13, ll14, ll15, ll16, ll17, ll18, ll19, ll20, ll21, ll22, ll23, ll24, ll25, ll26, ll27, ll28, ll29, ll30, ll31, ll32, ll33, ll34, ll35, ll36, ll37, ll38, ll39, ll40, Nat.reduceSub, Nat.reduceAdd, Nat.reduceEqDiff, if_true, if_false, ifp_t, ifp_f, reduceIte, Bool.true_eq_false, Bool.false_eq_true, Option.map_some, Option.map_none, Option.bind_some, Option.bind_none, tSq, sSet2, seqOf_fl, seqOf_tup, seqOf_ti, hc, decide_true, il, ap']
      · refine ⟨_, rfl, by rw [if_neg hc]; simp, fun A z0 z1 z4 => ?_⟩
        rw [if_neg hc, List.append_nil]
        simp only [eVar, eC, eOp, eT, eAnd, eOr, eNot, eIf, eAndV, eOrV, eNotV, eCall, aNil, aCons, aStar, sOf, eTup, eFl, eLoc, eSl, oNone, oSome, iOf, eNeg, eChain, eMt, bOf, eDict0, eRev, eListRg, iZipD, sRaise1, sRaise0, eCallV, List.lookup, R.bind_ok, R.bind_er, R.bind_stuck, R.toS_ok, R.toS_er, R.toS_stuck, SR.next_nx, SR.next_rt, SR.next_er, SR.next_bk, SR.next_ct, SR.next_stuck, sNil, sSeq, sBrk, sCnt, sExp, sRet, sRetN, sIf, sSet, sAsg, sAug, sPar2, sPar3, tN, DL.tTup, DL.tNil, DL.tCons, DL.tSub, iSeq, srcOf_tup, srcOf_fl, srcOf_kl, srcOf_ti, iRange1, iRange2, sFor, startD, List.map_cons, List.map_nil, List.length_cons, List.length_nil, List.replicate, List.cons_append, List.nil_append, List.getElem?_cons_zero, List.getElem?_cons_succ, List.set_cons_zero, List.set_cons_succ, dSub_int, dFdiv_int, dMod_int, dLt_int, dLe_int, dGt_int, dGe_int, dAddI_int, dSubI_int, dIsN_non, isN, dAdd_int, ll0, ll1, ll2, ll3, ll4, ll5, ll6, ll7, ll8, ll9, ll10, ll11, ll12, ll13, ll14, ll15, ll16, ll17, ll18, ll19, ll20, ll21, ll22, ll23, ll24, ll25, ll26, ll27, ll28, ll29, ll30, ll31, ll32, ll33, ll34, ll35, ll36, ll37, ll38, ll39, ll40, Nat.reduceSub, Nat.reduceAdd, Nat.reduceEqDiff, if_true, if_false, ifp_t, ifp_f, reduceIte, Bool.true_eq_false, Bool.false_eq_true, Option.map_some, Option.map_none, Option.bind_some, Option.bind_none, tSq, sSet2, seqOf_fl, seqOf_tup, seqOf_ti, hc, decide_false]
    obtain ⟨A', hA', hl2, f2⟩ : ∃ A' : List (Int × Int), A' = A ++ (if passed e.2 (p - st) < e.2 then [(e.1, e.2 - passed e.2 (p - st))] else []) ∧ A'.length ≤ A.length + 1 ∧ ∀ (B : List D) (z0 z1 z4 : Option D), sIf (eT (eOp dLt (eVar 7) (eVar 6))) (sExp (eMt isLst mAppend (eVar 3) (aCons (eTup (aCons (eVar 5) (aCons (eOp dSub (eVar 6) (eVar 7)) aNil))) aNil))) sNil [z0, z1, some (.loc S.length), some (.loc (S.length + 1)), z4, some (.int e.1), some (.int e.2), some (.int (passed e.2 (p - st)))] (two S B (A.map dp)) = .nx [z0, z1, some (.loc S.length), some (.loc (S.length + 1)), z4, some (.int e.1), some (.int e.2), some (.int (passed e.2 (p - st)))] (two S B (A'.map dp)) := by
      by_cases hc : passed e.2 (p - st) < e.2
      · refine ⟨_, rfl, by rw [if_pos hc]; simp, fun B z0 z1 z4 => ?_⟩
        rw [if_pos hc]
        have ap := append_at (d := dp (e.1, e.2 - passed e.2 (p - st))) (two_L1 S B (A.map dp)) (by rw [List.length_map]; omega)
        rw [two_s1] at ap
        have ap' : mAppend (.loc (S.length + 1)) [.tup [.int e.1, .int (e.2 - passed e.2 (p - st))]] (two S B (A.map dp)) = .ok .non (two S B ((A ++ [(e.1, e.2 - passed e.2 (p - st))]).map dp)) := by rw [List.map_append]; exact ap
        have il := isLst_at (two_L1 S B (A.map dp))
        simp only [eVar, eC, eOp, eT, eAnd, eOr, eNot, eIf, eAndV, eOrV, eNotV, eCall, aNil, aCons, aStar, sOf, eTup, eFl, eLoc, eSl, oNone, oSome, iOf, eNeg, eChain, eMt, bOf, eDict0, eRev, eListRg, iZipD, sRaise1, sRaise0, eCallV, List.lookup, R.bind_ok, R.bind_er, R.bind_stuck, R.toS_ok, R.toS_er, R.toS_stuck, SR.next_nx, SR.next_rt, SR.next_er, SR.next_bk, SR.next_ct, SR.next_stuck, sNil, sSeq, sBrk, sCnt, sExp, sRet, sRetN, sIf, sSet, sAsg, sAug, sPar2, sPar3, tN, DL.tTup, DL.tNil, DL.tCons, DL.tSub, iSeq, srcOf_tup, srcOf_fl, srcOf_kl, srcOf_ti, iRange1, iRange2, sFor, startD, List.map_cons, List.map_nil, List.length_cons, List.length_nil, List.replicate, List.cons_append, List.nil_append, List.getElem?_cons_zero, List.getElem?_cons_succ, List.set_cons_zero, List.set_cons_succ, dSub_int, dFdiv_int, dMod_int, dLt_int, dLe_int, dGt_int, dGe_int, dAddI_int, dSubI_int, dIsN_non, isN, dAdd_int, ll0, ll1, ll2, ll3, ll4, ll5, ll6, ll7, ll8, ll9, ll10, ll11, ll12, ll13, ll14, ll15, ll16, ll17, ll18, ll19, ll20, ll21, ll22, ll23, ll24, ll25, ll26, ll27, ll28, ll29, ll30, ll31, ll32, ll33, ll34, ll35, ll36, ll37, ll38, ll39, ll40, Nat.reduceSub, Nat.reduceAdd, Nat.reduceEqDiff, if_true, if_false, ifp_t, ifp_f, reduceIte, Bool.true_eq_false, Bool.false_eq_true, Option.map_some, Option.map_none, Option.bind_some, Option.bind_none, tSq, sSet2, seqOf_fl, seqOf_tup, seqOf_ti, hc, decide_true, il, ap']
      · refine ⟨_, rfl, by rw [if_neg hc]; simp, fun B z0 z1 z4 => ?_⟩
        rw [if_neg hc, List.append_nil]
        simp only [eVar, eC, eOp, eT, eAnd, eOr, eNot, eIf, eAndV, eOrV, eNotV, eCall, aNil, aCons, aStar, sOf, eTup, eFl, eLoc, eSl, oNone, oSome, iOf, eNeg, eChain, eMt, bOf, eDict0, eRev, eListRg, iZipD, sRaise1, sRaise0, eCallV, List.lookup, R.bind_ok, R.bind_er, R.bind_stuck, R.toS_ok, R.toS_er, R.toS_stuck, SR.next_nx, SR.next_rt, SR.next_er, SR.next_bk, SR.next_ct, SR.next_stuck, sNil, sSeq, sBrk, sCnt, sExp, sRet, sRetN, sIf, sSet, sAsg, sAug, sPar2, sPar3, tN, DL.tTup, DL.tNil, DL.tCons, DL.tSub, iSeq, srcOf_tup, srcOf_fl, srcOf_kl, srcOf_ti, iRange1, iRange2, sFor, startD, List.map_cons, List.map_nil, List.length_cons, List.length_nil, List.replicate, List.cons_append, List.nil_append, List.getElem?_cons_zero, List.getElem?_cons_succ, List.set_cons_zero, List.set_cons_succ, dSub_int, dFdiv_int, dMod_int, dLt_int, dLe_int, dGt_int, dGe_int, dAddI_int, dSubI_int, dIsN_non, isN, dAdd_int, ll0, ll1, ll2, ll3, ll4, ll5, ll6, ll7, ll8, ll9, ll10, ll11, ll12, ll13, ll14, ll15, ll16, ll17, ll18, ll19, ll20, ll21, ll22, ll23, ll24, ll25, ll26, ll27, ll28, ll29, ll30, ll31, ll32, ll33, ll34, ll35, ll36, ll37, ll38, ll39, ll40, Nat.reduceSub, Nat.reduceAdd, Nat.reduceEqDiff, if_true, if_false, ifp_t, ifp_f, reduceIte, Bool.true_eq_false, Bool.false_eq_true, Option.map_some, Option.map_none, Option.bind_some, Option.bind_none, tSq, sSet2, seqOf_fl, seqOf_tup, seqOf_ti, hc, decide_false]
    obtain ⟨y4, y5, y6, y7, ih⟩ := runs_loop x0 p S fs B' A' (st + e.2) (some (.int e.1)) (some (.int e.2)) (some (.int (passed e.2 (p - st)))) (fun x hx => hr x (List.mem_cons_of_mem _ hx)) (by omega) (by omega)
    refine ⟨y4, y5, y6, y7, ?_⟩
    rw [List.map_cons, forD_cons (ρ1 := [x0, some (.int p), some (.loc S.length), some (.loc (S.length + 1)), some (.int st), some (.int e.1), some (.int e.2), x7]) (S1 := two S (B.map dp) (A.map dp)) (ρ2 := [x0, some (.int p), some (.loc S.length), some (.loc (S.length + 1)), some (.int (st + e.2)), some (.int e.1), some (.int e.2), some (.int (passed e.2 (p - st)))]) (S2 := two S (B'.map dp) (A'.map dp)) trivial rfl ?_, ih]
    · rw [befR, aftR, hB', hA', show p - (st + e.2) = p - st - e.2 by omega, List.append_assoc, List.append_assoc]
    · generalize hf1 : sIf (eT (eOp dGt (eVar 7) (eC (.int 0)))) (sExp (eMt isLst mAppend (eVar 2) (aCons (eTup (aCons (eVar 5) (aCons (eVar 7) aNil))) aNil))) sNil = I1 at f1
      generalize hf2 : sIf (eT (eOp dLt (eVar 7) (eVar 6))) (sExp (eMt isLst mAppend (eVar 3) (aCons (eTup (aCons (eVar 5) (aCons (eOp dSub (eVar 6) (eVar 7)) aNil))) aNil))) sNil = I2 at f2
      unfold L1_runs_from
      rw [hf1, hf2]
      simp only [eVar, eC, eOp, eT, eAnd, eOr, eNot, eIf, eAndV, eOrV, eNotV, eCall, aNil, aCons, aStar, sOf, eTup, eFl, eLoc, eSl, oNone, oSome, iOf, eNeg, eChain, eMt, bOf, eDict0, eRev, eListRg, iZipD, sRaise1, sRaise0, eCallV, List.lookup, R.bind_ok, R.bind_er, R.bind_stuck, R.toS_ok, R.toS_er, R.toS_stuck, SR.next_nx, SR.next_rt, SR.next_er, SR.next_bk, SR.next_ct, SR.next_stuck, sNil, sSeq, sBrk, sCnt, sExp, sRet, sRetN, sIf, sSet, sAsg, sAug, sPar2, sPar3, tN, DL.tTup, DL.tNil, DL.tCons, DL.tSub, iSeq, srcOf_tup, srcOf_fl, srcOf_kl, srcOf_ti, iRange1, iRange2, sFor, startD, List.map_cons, List.map_nil, List.length_cons, List.length_nil, List.replicate, List.cons_append, List.nil_append, List.getElem?_cons_zero, List.getElem?_cons_succ, List.set_cons_zero, List.set_cons_succ, dSub_int, dFdiv_int, dMod_int, dLt_int, dLe_int, dGt_int, dGe_int, dAddI_int, dSubI_int, dIsN_non, isN, dAdd_int, ll0, ll1, ll2, ll3, ll4, ll5, ll6, ll7, ll8, ll9, ll10, ll11, ll12, ll13, ll14, ll15, ll16, ll17, ll18, ll19, ll20, ll21, ll22, ll23, ll24, ll25, ll26, ll27, ll28, ll29, ll30, ll31, ll32, ll33, ll34, ll35, ll36, ll37, ll38, ll39, ll40, Nat.reduceSub, Nat.reduceAdd, Nat.reduceEqDiff, if_true, if_false, ifp_t, ifp_f, reduceIte, Bool.true_eq_false, Bool.false_eq_true, Option.map_some, Option.map_none, Option.bind_some, Option.bind_none, tSq, sSet2, seqOf_fl, seqOf_tup, seqOf_ti, k1, k2, f1, f2]
theorem runs_from_ok (fs : List (Int × Int)) (hl : fs.length < 400) (hr : ∀ e ∈ fs, Run e) (p : Int) (S : Sto) : F_runs_from [.tup (fs.map dp), .int p] S = .ok (.fl ((rdR p fs).map dp)) S := by
  have hst : startD 8 [D.tup (fs.map dp), D.int p] = [some (.tup (fs.map dp)), some (.int p), none, none, none, none, none, none] := rfl
  obtain ⟨y4, y5, y6, y7, lp⟩ := runs_loop (some (.tup (fs.map dp))) p S fs [] [] 0 none none none hr (by simp; omega) (by simp; omega)
  rw [Int.sub_zero, List.nil_append, List.nil_append] at lp
  have lp' : forD yes (tTup 2 (tCons (tN 5) (tCons (tN 6) tNil))) L1_runs_from sNil (fs.map dp) [some (.tup (fs.map dp)), some (.int p), some (.loc S.length), some (.loc (S.length + 1)), some (.int 0), none, none, none] (S ++ [.lst []] ++ [.lst []]) = .nx [some (.tup (fs.map dp)), some (.int p), some (.loc S.length), some (.loc (S.length + 1)), y4, y5, y6, y7] (two S ((befR p fs).map dp) ((aftR p fs).map dp)) := by
    rw [List.append_assoc]; exact lp
  have hl1 : (S ++ [Ob.lst []]).length = S.length + 1 := by simp
  have q0 : seqOf (two S ((befR p fs).map dp) ((aftR p fs).map dp)) (.loc S.length) = some ((befR p fs).map dp) := two_Q0 ..
  have q1 : seqOf (two S ((befR p fs).map dp) ((aftR p fs).map dp)) (.loc (S.length + 1)) = some ((aftR p fs).map dp) := two_Q1 ..
  have hlen : ((aftR p fs).map dp ++ (befR p fs).map dp).length ≤ sizeLine := by
    have := (rd_run fs p hr).2
    unfold rdR at this
    rw [← List.map_append, List.length_map]
    exact Nat.le_trans (show (aftR p fs ++ befR p fs).length ≤ 10 ^ 6 by omega) (by decide)
  refine fnC_cut rfl (S' := two S ((befR p fs).map dp) ((aftR p fs).map dp)) (l := [.lst ((befR p fs).map dp), .lst ((aftR p fs).map dp)]) ?_ rfl (by show lowL _ _ = true; exact lowL_dps _ _)
  rw [hst]
  unfold B_runs_from
  simp only [eVar, eC, eOp, eT, eAnd, eOr, eNot, eIf, eAndV, eOrV, eNotV, eCall, aNil, aCons, aStar, sOf, eTup, eFl, eLoc, eSl, oNone, oSome, iOf, eNeg, eChain, eMt, bOf, eDict0, eRev, eListRg, iZipD, sRaise1, sRaise0, eCallV, List.lookup, R.bind_ok, R.bind_er, R.bind_stuck, R.toS_ok, R.toS_er, R.toS_stuck, SR.next_nx, SR.next_rt, SR.next_er, SR.next_bk, SR.next_ct, SR.next_stuck, sNil, sSeq, sBrk, sCnt, sExp, sRet, sRetN, sIf, sSet, sAsg, sAug, sPar2, sPar3, tN, DL.tTup, DL.tNil, DL.tCons, DL.tSub, iSeq, srcOf_tup, srcOf_fl, srcOf_kl, srcOf_ti, iRange1, iRange2, sFor, startD, List.map_cons, List.map_nil, List.length_cons, List.length_nil, List.replicate, List.cons_append, List.nil_append, List.getElem?_cons_zero, List.getElem?_cons_succ, List.set_cons_zero, List.set_cons_succ, dSub_int, dFdiv_int, dMod_int, dLt_int, dLe_int, dGt_int, dGe_int, dAddI_int, dSubI_int, dIsN_non, isN, dAdd_int, ll0, ll1, ll2, ll3, ll4, ll5, ll6, ll7, ll8, ll9, ll10, ll11, ll12, ll13, ll14, ll15, ll16, ll17, ll18, ll19, ll20, ll21, ll22, ll23, ll24, ll25, ll26, ll27, ll28, ll29, ll30, ll31, ll32, ll33, ll34, ll35, ll36, ll37, ll38, ll39, ll40, Nat.reduceSub, Nat.reduceAdd, Nat.reduceEqDiff, if_true, if_false, ifp_t, ifp_f, reduceIte, Bool.true_eq_false, Bool.false_eq_true, Option.map_some, Option.map_none, Option.bind_some, Option.bind_none, tSq, sSet2, seqOf_fl, seqOf_tup, seqOf_ti, hl1, lp', q0, q1, List.append_nil, ifp_pos hlen]
  unfold rdR
  rw [List.map_append]
theorem mulL1 (x : D) (b : Bool) (S : Sto) : dMulT (.fl [x]) (.int (if b then 1 else 0)) S = .ok (.fl (if b then [x] else [])) S := by
  show ifp (-(2 ^ 63) ≤ (if b then (1 : Int) else 0) ∧ (if b then (1 : Int) else 0) < 2 ^ 63 ∧ [x].length * (if b then (1 : Int) else 0).toNat ≤ sizeLine) (R.ok (D.fl (List.replicate (if b then (1 : Int) else 0).toNat [x]).flatten) S) .stuck = _
  cases b with
  | true => rw [ifp_pos ⟨by decide, by decide, by show 1 ≤ sizeLine; decide⟩]; rfl
  | false => rw [ifp_pos ⟨by decide, by decide, by show 0 ≤ sizeLine; decide⟩]; rfl
theorem bIntB (b : Bool) (S : Sto) : bInt [.bl b] S = .ok (.int (if b then 1 else 0)) S := rfl
theorem parts_loop (x0 : Option D) (p : Int) (S : Sto) : ∀ (fs B A : List (Int × Int)) (st : Int) (x5 x6 x7 : Option D), (∀ e ∈ fs, Run e) → B.length + fs.length < 1000 → A.length + fs.length < 1000 →
    ∃ y4 y5 y6 y7, forD yes (tTup 2 (tCons (tN 5) (tCons (tN 6) tNil))) L1__law_parts sNil (fs.map dp) [x0, some (.int p), some (.fl (B.map dp)), some (.fl (A.map dp)), some (.int st), x5, x6, x7] S = .nx [x0, some (.int p), some (.fl ((B ++ befR (p - st) fs).map dp)), some (.fl ((A ++ aftR (p - st) fs).map dp)), y4, y5, y6, y7] S
  | [], B, A, st, x5, x6, x7, _, _, _ => by
    refine ⟨some (.int st), x5, x6, x7, ?_⟩
    rw [List.map_nil, forD_nil trivial, befR, aftR, List.append_nil, List.append_nil]
    rfl
  | e :: fs, B, A, st, x5, x6, x7, hr, hB, hA => by
    have h0 := hr e List.mem_cons_self
    have c1 := h0.c1
    rw [List.length_cons] at hB hA
    have k1 : ∀ S, bMinT [.int e.2, .int (p - st)] S = .ok (.int (min e.2 (p - st))) S := fun S => rfl
    have k2 : ∀ S, bMax [.int 0, .int (min e.2 (p - st))] S = .ok (.int (passed e.2 (p - st))) S := fun S => by
      show R.ok (D.int (max 0 (min e.2 (p - st)))) S = _
      have : max 0 (min e.2 (p - st)) = passed e.2 (p - st) := by unfold passed; omega
      rw [this]
    have m1 := mulL1 (dp (e.1, passed e.2 (p - st))) (decide (0 < passed e.2 (p - st)))
    have m2 := mulL1 (dp (e.1, e.2 - passed e.2 (p - st))) (decide (passed e.2 (p - st) < e.2))
    have m1' : ∀ S, dMulT (.fl [.tup [.int e.1, .int (passed e.2 (p - st))]]) (.int (if decide (0 < passed e.2 (p - st)) = true then 1 else 0)) S = .ok (.fl ((if 0 < passed e.2 (p - st) then [(e.1, passed e.2 (p - st))] else []).map dp)) S := fun S => by
      rw [show D.tup [.int e.1, .int (passed e.2 (p - st))] = dp (e.1, passed e.2 (p - st)) from rfl, m1]
      by_cases hc : 0 < passed e.2 (p - st) <;> simp [hc]
    have m2' : ∀ S, dMulT (.fl [.tup [.int e.1, .int (e.2 - passed e.2 (p - st))]]) (.int (if decide (passed e.2 (p - st) < e.2) = true then 1 else 0)) S = .ok (.fl ((if passed e.2 (p - st) < e.2 then [(e.1, e.2 - passed e.2 (p - st))] else []).map dp)) S := fun S => by
      rw [show D.tup [.int e.1, .int (e.2 - passed e.2 (p - st))] = dp (e.1, e.2 - passed e.2 (p - st)) from rfl, m2]
      by_cases hc : passed e.2 (p - st) < e.2 <;> simp [hc]
    obtain ⟨b, hb, hbl⟩ : ∃ b : List (Int × Int), (if 0 < passed e.2 (p - st) then [(e.1, passed e.2 (p - st))] else []) = b ∧ b.length ≤ 1 := ⟨_, rfl, by split <;> simp⟩
    obtain ⟨a, ha, hal⟩ : ∃ a : List (Int × Int), (if passed e.2 (p - st) < e.2 then [(e.1, e.2 - passed e.2 (p - st))] else []) = a ∧ a.length ≤ 1 := ⟨_, rfl, by split <;> simp⟩
    rw [hb] at m1'
    rw [ha] at m2'
    have a1 : ∀ S, dAdd (.fl (B.map dp)) (.fl (b.map dp)) S = .ok (.fl ((B ++ b).map dp)) S := fun S => by rw [List.map_append]; exact add_fl _ _ (by rw [List.length_map, List.length_map]; omega) S
    have a2 : ∀ S, dAdd (.fl (A.map dp)) (.fl (a.map dp)) S = .ok (.fl ((A ++ a).map dp)) S := fun S => by rw [List.map_append]; exact add_fl _ _ (by rw [List.length_map, List.length_map]; omega) S
    obtain ⟨y4, y5, y6, y7, ih⟩ := parts_loop x0 p S fs (B ++ b) (A ++ a) (st + e.2) (some (.int e.1)) (some (.int e.2)) (some (.int (passed e.2 (p - st)))) (fun x hx => hr x (List.mem_cons_of_mem _ hx)) (by rw [List.length_append]; omega) (by rw [List.length_append]; omega)
    refine ⟨y4, y5, y6, y7, ?_⟩
    rw [List.map_cons, forD_cons (ρ1 := [x0, some (.int p), some (.fl (B.map dp)), some (.fl (A.map dp)), some (.int st), some (.int e.1), some (.int e.2), x7]) (S1 := S) (ρ2 := [x0, some (.int p), some (.fl ((B ++ b).map dp)), some (.fl ((A ++ a).map dp)), some (.int (st + e.2)), some (.int e.1), some (.int e.2), some (.int (passed e.2 (p - st)))]) (S2 := S) trivial rfl ?_, ih]
    · rw [befR, aftR, hb, ha, show p - (st + e.2) = p - st - e.2 by omega, List.append_assoc, List.append_assoc]
    · simp only [eVar, eC, eOp, eT, eAnd, eOr, eNot, eIf, eAndV, eOrV, eNotV, eCall, aNil, aCons, aStar, sOf, eTup, eFl, eLoc, eSl, oNone, oSome, iOf, eNeg, eChain, eMt, bOf, eDict0, eRev, eListRg, iZipD, sRaise1, sRaise0, eCallV, List.lookup, R.bind_ok, R.bind_er, R.bind_stuck, R.toS_ok, R.toS_er, R.toS_stuck, SR.next_nx, SR.next_rt, SR.next_er, SR.next_bk, SR.next_ct, SR.next_stuck, sNil, sSeq, sBrk, sCnt, sExp, sRet, sRetN, sIf, sSet, sAsg, sAug, sPar2, sPar3, tN, DL.tTup, DL.tNil, DL.tCons, DL.tSub, iSeq, srcOf_tup, srcOf_fl, srcOf_kl, srcOf_ti, iRange1, iRange2, sFor, startD, List.map_cons, List.map_nil, List.length_cons, List.length_nil, List.replicate, List.cons_append, List.nil_append, List.getElem?_cons_zero, List.getElem?_cons_succ, List.set_cons_zero, List.set_cons_succ, dSub_int, dFdiv_int, dMod_int, dLt_int, dLe_int, dGt_int, dGe_int, dAddI_int, dSubI_int, dIsN_non, isN, dAdd_int, ll0, ll1, ll2, ll3, ll4, ll5, ll6, ll7, ll8, ll9, ll10, ll11, ll12, ll13, ll14, ll15, ll16, ll17, ll18, ll19, ll20, ll21, ll22, ll23, ll24, ll25, ll26, ll27, ll28, ll29, ll30, ll31, ll32, ll33, ll34, ll35, ll36, ll37, ll38, ll39, ll40, Nat.reduceSub, Nat.reduceAdd, Nat.reduceEqDiff, if_true, if_false, ifp_t, ifp_f, reduceIte, Bool.true_eq_false, Bool.false_eq_true, Option.map_some, Option.map_none, Option.bind_some, Option.bind_none, tSq, sSet2, seqOf_fl, seqOf_tup, seqOf_ti, L1__law_parts, k1, k2, bIntB, m1', a1, m2', a2]
theorem parts_ok (fs : List (Int × Int)) (hl : fs.length < 400) (hr : ∀ e ∈ fs, Run e) (p : Int) (S : Sto) : F__law_parts [.tup (fs.map dp), .int p] S = .ok (.fl ((rdR p fs).map dp)) S := by
  have hst : startD 8 [D.tup (fs.map dp), D.int p] = [some (.tup (fs.map dp)), some (.int p), none, none, none, none, none, none] := rfl
  obtain ⟨y4, y5, y6, y7, lp⟩ := parts_loop (some (.tup (fs.map dp))) p S fs [] [] 0 none none none hr (by simp; omega) (by simp; omega)
  rw [Int.sub_zero, List.nil_append, List.nil_append, List.map_nil] at lp
  have a2 : ∀ S, dAdd (.fl ((aftR p fs).map dp)) (.fl ((befR p fs).map dp)) S = .ok (.fl ((rdR p fs).map dp)) S := fun S => by
    unfold rdR
    rw [List.map_append]
    exact add_fl _ _ (by
      have := (rd_run fs p hr).2
      unfold rdR at this
      rw [List.length_append] at this
      rw [List.length_map, List.length_map]; omega) S
  refine fnC_rt rfl ?_ rfl
  rw [hst]
  unfold B__law_parts
  simp only [eVar, eC, eOp, eT, eAnd, eOr, eNot, eIf, eAndV, eOrV, eNotV, eCall, aNil, aCons, aStar, sOf, eTup, eFl, eLoc, eSl, oNone, oSome, iOf, eNeg, eChain, eMt, bOf, eDict0, eRev, eListRg, iZipD, sRaise1, sRaise0, eCallV, List.lookup, R.bind_ok, R.bind_er, R.bind_stuck, R.toS_ok, R.toS_er, R.toS_stuck, SR.next_nx, SR.next_rt, SR.next_er, SR.next_bk, SR.next_ct, SR.next_stuck, sNil, sSeq, sBrk, sCnt, sExp, sRet, sRetN, sIf, sSet, sAsg, sAug, sPar2, sPar3, tN, DL.tTup, DL.tNil, DL.tCons, DL.tSub, iSeq, srcOf_tup, srcOf_fl, srcOf_kl, srcOf_ti, iRange1, iRange2, sFor, startD, List.map_cons, List.map_nil, List.length_cons, List.length_nil, List.replicate, List.cons_append, List.nil_append, List.getElem?_cons_zero, List.getElem?_cons_succ, List.set_cons_zero, List.set_cons_succ, dSub_int, dFdiv_int, dMod_int, dLt_int, dLe_int, dGt_int, dGe_int, dAddI_int, dSubI_int, dIsN_non, isN, dAdd_int, ll0, ll1, ll2, ll3, ll4, ll5, ll6, ll7, ll8, ll9, ll10, ll11, ll12, ll13, ll14, ll15, ll16, ll17, ll18, ll19, ll20, ll21, ll22, ll23, ll24, ll25, ll26, ll27, ll28, ll29, ll30, ll31, ll32, ll33, ll34, ll35, ll36, ll37, ll38, ll39, ll40, Nat.reduceSub, Nat.reduceAdd, Nat.reduceEqDiff, if_true, if_false, ifp_t, ifp_f, reduceIte, Bool.true_eq_false, Bool.false_eq_true, Option.map_some, Option.map_none, Option.bind_some, Option.bind_none, tSq, sSet2, seqOf_fl, seqOf_tup, seqOf_ti, lp, a2]
theorem iS_fl {i : Nat} {ds : List D} {ρ : Ev} (h : ρ[i]? = some (some (.fl ds))) (S : Sto) : iSeq (eVar i) ρ S = .ok (ds, yes) S := by
  unfold iSeq eVar
  simp only [h, R.bind_ok, srcOf_fl]
theorem lowest_fl (fs : List (Int × Int)) (hf : fs ≠ []) (hr : ∀ e ∈ fs, Run e) (S : Sto) : ∃ w : Int, F__law_lowest [.fl (fs.map dp)] S = .ok (.fl [.int w, .int (ht (toks fs))]) S ∧ max 0 (1 - w) = ne (toks fs) := by
  obtain ⟨v', y3, y4, y5, h1, h2, h3⟩ := lowest_loop (some (.fl (fs.map dp))) S fs [] none none none none hr rfl
  rw [List.nil_append] at h1 h2
  obtain ⟨w, rfl⟩ : ∃ w, v' = some w := by
    cases v' with
    | none => exact absurd rfl (h3 hf)
    | some w => exact ⟨w, rfl⟩
  refine ⟨w, ?_, h2⟩
  refine fnC_rt rfl ?_ rfl
  have hst : startD 6 [D.fl (fs.map dp)] = [some (.fl (fs.map dp)), none, none, none, none, none] := rfl
  rw [hst]
  unfold B__law_lowest
  have h1' : forD yes (tTup 2 (tCons (tN 3) (tCons (tN 4) tNil))) L1__law_lowest sNil (fs.map dp) [some (.fl (fs.map dp)), some (.int 0), some .non, none, none, none] S = .nx [some (.fl (fs.map dp)), some (.int (ht (toks fs))), some (.int w), y3, y4, y5] S := h1
  simp only [eVar, eC, eOp, eT, eAnd, eOr, eNot, eIf, eAndV, eOrV, eNotV, eCall, aNil, aCons, aStar, sOf, eTup, eFl, eLoc, eSl, oNone, oSome, iOf, eNeg, eChain, eMt, bOf, eDict0, eRev, eListRg, iZipD, sRaise1, sRaise0, eCallV, List.lookup, R.bind_ok, R.bind_er, R.bind_stuck, R.toS_ok, R.toS_er, R.toS_stuck, SR.next_nx, SR.next_rt, SR.next_er, SR.next_bk, SR.next_ct, SR.next_stuck, sNil, sSeq, sBrk, sCnt, sExp, sRet, sRetN, sIf, sSet, sAsg, sAug, sPar2, sPar3, tN, DL.tTup, DL.tNil, DL.tCons, DL.tSub, iSeq, srcOf_tup, srcOf_fl, srcOf_kl, srcOf_ti, iRange1, iRange2, sFor, startD, List.map_cons, List.map_nil, List.length_cons, List.length_nil, List.replicate, List.cons_append, List.nil_append, List.getElem?_cons_zero, List.getElem?_cons_succ, List.set_cons_zero, List.set_cons_succ, dSub_int, dFdiv_int, dMod_int, dLt_int, dLe_int, dGt_int, dGe_int, dAddI_int, dSubI_int, dIsN_non, isN, dAdd_int, ll0, ll1, ll2, ll3, ll4, ll5, ll6, ll7, ll8, ll9, ll10, ll11, ll12, ll13, ll14, ll15, ll16, ll17, ll18, ll19, ll20, ll21, ll22, ll23, ll24, ll25, ll26, ll27, ll28, ll29, ll30, ll31, ll32, ll33, ll34, ll35, ll36, ll37, ll38, ll39, ll40, Nat.reduceSub, Nat.reduceAdd, Nat.reduceEqDiff, if_true, if_false, ifp_t, ifp_f, reduceIte, Bool.true_eq_false, Bool.false_eq_true, Option.map_some, Option.map_none, Option.bind_some, Option.bind_none, tSq, sSet2, seqOf_fl, seqOf_tup, seqOf_ti, h1']
theorem runs_fl (fs : List (Int × Int)) (hl : fs.length ≤ 40) (hr : ∀ e ∈ fs, Run e) (S : Sto) : F_effect_of_runs [.fl (fs.map dp)] S = .ok (dp (eff (toks fs))) S := by
  refine fnC_rt rfl ?_ rfl
  have hst : startD 4 [D.fl (fs.map dp)] = [some (.fl (fs.map dp)), none, none, none] := rfl
  rw [hst]
  unfold B_effect_of_runs
  let un : D → Int × Int := fun d => match d with
    | .tup [.int a, .int b] => (a, b)
    | _ => (0, 0)
  have hu : ∀ e, un (dp e) = e := fun e => rfl
  have key := eLc_pure (src := iSeq (eVar 0)) (T := tTup 2 (tCons (tN 2) (tCons (tN 3) tNil))) (vs := [2, 3]) (c := cYes) (f := E1_effect_of_runs) (ρ := [some (.fl (fs.map dp)), none, none, none]) (S := S) (fs.map dp) (fun d => [some (.fl (fs.map dp)), none, some (.int (un d).1), some (.int (un d).2)]) (fun _ => true) (fun d => dp (rp ((un d).1, 1) (un d).2)) (iS_fl rfl S) (by
    intro d hd S'
    obtain ⟨e, he, rfl⟩ := List.mem_map.mp hd
    rw [hu]
    refine ⟨rfl, rfl, fun _ => ?_⟩
    have h := hr e he
    have := h.c1
    have := h.cM
    have r := repeat_ok (e.1, 1) (n := e.2) (by omega) (by omega)
    have r' : ∀ S, F_repeat_effect [.tup [.int e.1, .int 1], .int e.2] S = .ok (dp (rp (e.1, 1) e.2)) S := r
    simp only [eVar, eC, eOp, eT, eAnd, eOr, eNot, eIf, eAndV, eOrV, eNotV, eCall, aNil, aCons, aStar, sOf, eTup, eFl, eLoc, eSl, oNone, oSome, iOf, eNeg, eChain, eMt, bOf, eDict0, eRev, eListRg, iZipD, sRaise1, sRaise0, eCallV, List.lookup, R.bind_ok, R.bind_er, R.bind_stuck, R.toS_ok, R.toS_er, R.toS_stuck, SR.next_nx, SR.next_rt, SR.next_er, SR.next_bk, SR.next_ct, SR.next_stuck, sNil, sSeq, sBrk, sCnt, sExp, sRet, sRetN, sIf, sSet, sAsg, sAug, sPar2, sPar3, tN, DL.tTup, DL.tNil, DL.tCons, DL.tSub, iSeq, srcOf_tup, srcOf_fl, srcOf_kl, srcOf_ti, iRange1, iRange2, sFor, startD, List.map_cons, List.map_nil, List.length_cons, List.length_nil, List.replicate, List.cons_append, List.nil_append, List.getElem?_cons_zero, List.getElem?_cons_succ, List.set_cons_zero, List.set_cons_succ, dSub_int, dFdiv_int, dMod_int, dLt_int, dLe_int, dGt_int, dGe_int, dAddI_int, dSubI_int, dIsN_non, isN, dAdd_int, ll0, ll1, ll2, ll3, ll4, ll5, ll6, ll7, ll8, ll9, ll10, ll11, ll12, ll13, ll14, ll15, ll16, ll17, ll18, ll19, ll20, ll21, ll22, ll23, ll24, ll25, ll26, ll27, ll28, ll29, ll30, ll31, ll32, ll33, ll34, ll35, ll36, ll37, ll38, ll39, ll40, Nat.reduceSub, Nat.reduceAdd, Nat.reduceEqDiff, if_true, if_false, ifp_t, ifp_f, reduceIte, Bool.true_eq_false, Bool.false_eq_true, Option.map_some, Option.map_none, Option.bind_some, Option.bind_none, tSq, sSet2, seqOf_fl, seqOf_tup, seqOf_ti, E1_effect_of_runs, r']) (by rw [List.length_map]; exact Nat.le_trans hl (by decide)) (by intro d hd _; rfl)
  have e1 : ((fs.map dp).filter fun _ => true).map (fun d => dp (rp ((un d).1, 1) (un d).2)) = (fs.map fun e => rp (e.1, 1) e.2).map dp := by
    rw [List.filter_eq_self.mpr (fun _ _ => rfl), List.map_map, List.map_map]
    rfl
  rw [e1] at key
  have j := join_ok (fs.map fun e => rp (e.1, 1) e.2) (by rw [List.length_map]; exact hl)
  rw [eff_runs fs hr] at j
  have sq : ∀ (l : List D) S, seqOf S (.fl l) = some l := fun l S => rfl
  simp only [eVar, eC, eOp, eT, eAnd, eOr, eNot, eIf, eAndV, eOrV, eNotV, eCall, aNil, aCons, aStar, sOf, eTup, eFl, eLoc, eSl, oNone, oSome, iOf, eNeg, eChain, eMt, bOf, eDict0, eRev, eListRg, iZipD, sRaise1, sRaise0, eCallV, List.lookup, R.bind_ok, R.bind_er, R.bind_stuck, R.toS_ok, R.toS_er, R.toS_stuck, SR.next_nx, SR.next_rt, SR.next_er, SR.next_bk, SR.next_ct, SR.next_stuck, sNil, sSeq, sBrk, sCnt, sExp, sRet, sRetN, sIf, sSet, sAsg, sAug, sPar2, sPar3, tN, DL.tTup, DL.tNil, DL.tCons, DL.tSub, iSeq, srcOf_tup, srcOf_fl, srcOf_kl, srcOf_ti, iRange1, iRange2, sFor, startD, List.map_cons, List.map_nil, List.length_cons, List.length_nil, List.replicate, List.cons_append, List.nil_append, List.getElem?_cons_zero, List.getElem?_cons_succ, List.set_cons_zero, List.set_cons_succ, dSub_int, dFdiv_int, dMod_int, dLt_int, dLe_int, dGt_int, dGe_int, dAddI_int, dSubI_int, dIsN_non, isN, dAdd_int, ll0, ll1, ll2, ll3, ll4, ll5, ll6, ll7, ll8, ll9, ll10, ll11, ll12, ll13, ll14, ll15, ll16, ll17, ll18, ll19, ll20, ll21, ll22, ll23, ll24, ll25, ll26, ll27, ll28, ll29, ll30, ll31, ll32, ll33, ll34, ll35, ll36, ll37, ll38, ll39, ll40, Nat.reduceSub, Nat.reduceAdd, Nat.reduceEqDiff, if_true, if_false, ifp_t, ifp_f, reduceIte, Bool.true_eq_false, Bool.false_eq_true, Option.map_some, Option.map_none, Option.bind_some, Option.bind_none, tSq, sSet2, seqOf_fl, seqOf_tup, seqOf_ti, key, sq, List.append_nil, j]
/-! ### positions -/
theorem toks_ar (fs : List (Int × Int)) (h : ∀ e ∈ fs, Run e) : ∀ t ∈ toks fs, Arity t := by
  intro t ht
  unfold toks at ht
  obtain ⟨r, hr, htr⟩ := List.mem_flatten.mp ht
  obtain ⟨e, he, rfl⟩ := List.mem_map.mp hr
  rw [(List.mem_replicate.mp htr).2]
  exact ⟨(h e he).a0, (h e he).a5⟩
theorem check_pos_any (fs : List (Int × Int)) (hl : fs.length ≤ 100) (hr : ∀ e ∈ fs, Run e) {v : D} (h : pl v = true) (S : Sto) : F_check_position [.tup (fs.map dp), v] S = (match plc (toks fs).length v with
    | some _ => .ok .non S
    | none => .er (noPlace v) S) := by
  have hi := is_int_any h 0 (len fs - 1) S
  rw [← toks_len fs hr, isI_plc] at hi
  have fl := far_length_ok fs hl
  rw [← toks_len fs hr] at fl
  generalize hF : D.tup (fs.map dp) = Fd at *
  cases e : plc (toks fs).length v with
  | some p =>
    rw [e] at hi
    refine fnC_nx rfl (ρ := [some Fd, some v]) ?_ rfl
    unfold B_check_position
    simp only [eVar, eC, eOp, eT, eAnd, eOr, eNot, eIf, eAndV, eOrV, eNotV, eCall, aNil, aCons, aStar, sOf, eTup, eFl, eLoc, eSl, oNone, oSome, iOf, eNeg, eChain, eMt, bOf, eDict0, eRev, eListRg, iZipD, sRaise1, sRaise0, eCallV, List.lookup, R.bind_ok, R.bind_er, R.bind_stuck, R.toS_ok, R.toS_er, R.toS_stuck, SR.next_nx, SR.next_rt, SR.next_er, SR.next_bk, SR.next_ct, SR.next_stuck, sNil, sSeq, sBrk, sCnt, sExp, sRet, sRetN, sIf, sSet, sAsg, sAug, sPar2, sPar3, tN, DL.tTup, DL.tNil, DL.tCons, DL.tSub, iSeq, srcOf_tup, srcOf_fl, srcOf_kl, srcOf_ti, iRange1, iRange2, sFor, startD, List.map_cons, List.map_nil, List.length_cons, List.length_nil, List.replicate, List.cons_append, List.nil_append, List.getElem?_cons_zero, List.getElem?_cons_succ, List.set_cons_zero, List.set_cons_succ, dSub_int, dFdiv_int, dMod_int, dLt_int, dLe_int, dGt_int, dGe_int, dAddI_int, dSubI_int, dIsN_non, isN, dAdd_int, ll0, ll1, ll2, ll3, ll4, ll5, ll6, ll7, ll8, ll9, ll10, ll11, ll12, ll13, ll14, ll15, ll16, ll17, ll18, ll19, ll20, ll21, ll22, ll23, ll24, ll25, ll26, ll27, ll28, ll29, ll30, ll31, ll32, ll33, ll34, ll35, ll36, ll37, ll38, ll39, ll40, Nat.reduceSub, Nat.reduceAdd, Nat.reduceEqDiff, if_true, if_false, ifp_t, ifp_f, reduceIte, Bool.true_eq_false, Bool.false_eq_true, Option.map_some, Option.map_none, Option.bind_some, Option.bind_none, tSq, sSet2, seqOf_fl, seqOf_tup, seqOf_ti, fl, hi, Option.isSome_some, Bool.not_true]
  | none =>
    rw [e] at hi
    refine fnC_er rfl (ρ := [some Fd, some v]) ?_ rfl
    unfold B_check_position
    simp only [eVar, eC, eOp, eT, eAnd, eOr, eNot, eIf, eAndV, eOrV, eNotV, eCall, aNil, aCons, aStar, sOf, eTup, eFl, eLoc, eSl, oNone, oSome, iOf, eNeg, eChain, eMt, bOf, eDict0, eRev, eListRg, iZipD, sRaise1, sRaise0, eCallV, List.lookup, R.bind_ok, R.bind_er, R.bind_stuck, R.toS_ok, R.toS_er, R.toS_stuck, SR.next_nx, SR.next_rt, SR.next_er, SR.next_bk, SR.next_ct, SR.next_stuck, sNil, sSeq, sBrk, sCnt, sExp, sRet, sRetN, sIf, sSet, sAsg, sAug, sPar2, sPar3, tN, DL.tTup, DL.tNil, DL.tCons, DL.tSub, iSeq, srcOf_tup, srcOf_fl, srcOf_kl, srcOf_ti, iRange1, iRange2, sFor, startD, List.map_cons, List.map_nil, List.length_cons, List.length_nil, List.replicate, List.cons_append, List.nil_append, List.getElem?_cons_zero, List.getElem?_cons_succ, List.set_cons_zero, List.set_cons_succ, dSub_int, dFdiv_int, dMod_int, dLt_int, dLe_int, dGt_int, dGe_int, dAddI_int, dSubI_int, dIsN_non, isN, dAdd_int, ll0, ll1, ll2, ll3, ll4, ll5, ll6, ll7, ll8, ll9, ll10, ll11, ll12, ll13, ll14, ll15, ll16, ll17, ll18, ll19, ll20, ll21, ll22, ll23, ll24, ll25, ll26, ll27, ll28, ll29, ll30, ll31, ll32, ll33, ll34, ll35, ll36, ll37, ll38, ll39, ll40, Nat.reduceSub, Nat.reduceAdd, Nat.reduceEqDiff, if_true, if_false, ifp_t, ifp_f, reduceIte, Bool.true_eq_false, Bool.false_eq_true, Option.map_some, Option.map_none, Option.bind_some, Option.bind_none, tSq, sSet2, seqOf_fl, seqOf_tup, seqOf_ti, fl, hi, Option.isSome_none, Bool.not_false]
    rfl
theorem far_need_any (fs : List (Int × Int)) (hl : fs.length ≤ 20) (hr : ∀ e ∈ fs, Run e) {v : D} (h : pl v = true) (S : Sto) : F_far_need [.tup (fs.map dp), v] S = (match plc (toks fs).length v with
    | some p => .ok (.int (ne (rot (toks fs) p))) S
    | none => .er (noPlace v) S) := by
  have hc := check_pos_any fs (by omega) hr h S
  generalize hF : D.tup (fs.map dp) = Fd at *
  cases e : plc (toks fs).length v with
  | none =>
    simp only [e] at hc
    refine fnC_er rfl (ρ := [some Fd, some v]) ?_ rfl
    unfold B_far_need
    simp only [eVar, eC, eOp, eT, eAnd, eOr, eNot, eIf, eAndV, eOrV, eNotV, eCall, aNil, aCons, aStar, sOf, eTup, eFl, eLoc, eSl, oNone, oSome, iOf, eNeg, eChain, eMt, bOf, eDict0, eRev, eListRg, iZipD, sRaise1, sRaise0, eCallV, List.lookup, R.bind_ok, R.bind_er, R.bind_stuck, R.toS_ok, R.toS_er, R.toS_stuck, SR.next_nx, SR.next_rt, SR.next_er, SR.next_bk, SR.next_ct, SR.next_stuck, sNil, sSeq, sBrk, sCnt, sExp, sRet, sRetN, sIf, sSet, sAsg, sAug, sPar2, sPar3, tN, DL.tTup, DL.tNil, DL.tCons, DL.tSub, iSeq, srcOf_tup, srcOf_fl, srcOf_kl, srcOf_ti, iRange1, iRange2, sFor, startD, List.map_cons, List.map_nil, List.length_cons, List.length_nil, List.replicate, List.cons_append, List.nil_append, List.getElem?_cons_zero, List.getElem?_cons_succ, List.set_cons_zero, List.set_cons_succ, dSub_int, dFdiv_int, dMod_int, dLt_int, dLe_int, dGt_int, dGe_int, dAddI_int, dSubI_int, dIsN_non, isN, dAdd_int, ll0, ll1, ll2, ll3, ll4, ll5, ll6, ll7, ll8, ll9, ll10, ll11, ll12, ll13, ll14, ll15, ll16, ll17, ll18, ll19, ll20, ll21, ll22, ll23, ll24, ll25, ll26, ll27, ll28, ll29, ll30, ll31, ll32, ll33, ll34, ll35, ll36, ll37, ll38, ll39, ll40, Nat.reduceSub, Nat.reduceAdd, Nat.reduceEqDiff, if_true, if_false, ifp_t, ifp_f, reduceIte, Bool.true_eq_false, Bool.false_eq_true, Option.map_some, Option.map_none, Option.bind_some, Option.bind_none, tSq, sSet2, seqOf_fl, seqOf_tup, seqOf_ti, hc]
  | some p =>
    obtain ⟨rfl, hp⟩ := plc_some e
    simp only [e] at hc
    have r1 := runs_from_ok fs (by omega) hr p
    rw [hF] at r1
    have r2 := runs_fl (rdR p fs) (by have := (rd_run fs p hr).2; omega) (rd_run fs p hr).1
    rw [toks_rd fs p hr] at r2
    have i0 : ∀ e S, dIx (dp e) (.int 0) S = .ok (.int e.1) S := fun e S => rfl
    refine fnC_rt rfl ?_ rfl
    unfold B_far_need
    simp only [eVar, eC, eOp, eT, eAnd, eOr, eNot, eIf, eAndV, eOrV, eNotV, eCall, aNil, aCons, aStar, sOf, eTup, eFl, eLoc, eSl, oNone, oSome, iOf, eNeg, eChain, eMt, bOf, eDict0, eRev, eListRg, iZipD, sRaise1, sRaise0, eCallV, List.lookup, R.bind_ok, R.bind_er, R.bind_stuck, R.toS_ok, R.toS_er, R.toS_stuck, SR.next_nx, SR.next_rt, SR.next_er, SR.next_bk, SR.next_ct, SR.next_stuck, sNil, sSeq, sBrk, sCnt, sExp, sRet, sRetN, sIf, sSet, sAsg, sAug, sPar2, sPar3, tN, DL.tTup, DL.tNil, DL.tCons, DL.tSub, iSeq, srcOf_tup, srcOf_fl, srcOf_kl, srcOf_ti, iRange1, iRange2, sFor, startD, List.map_cons, List.map_nil, List.length_cons, List.length_nil, List.replicate, List.cons_append, List.nil_append, List.getElem?_cons_zero, List.getElem?_cons_succ, List.set_cons_zero, List.set_cons_succ, dSub_int, dFdiv_int, dMod_int, dLt_int, dLe_int, dGt_int, dGe_int, dAddI_int, dSubI_int, dIsN_non, isN, dAdd_int, ll0, ll1, ll2, ll3, ll4, ll5, ll6, ll7, ll8, ll9, ll10, ll11, ll12, ll13, ll14, ll15, ll16, ll17, ll18, ll19, ll20, ll21, ll22, ll23, ll24, ll25, ll26, ll27, ll28, ll29, ll30, ll31, ll32, ll33, ll34, ll35, ll36, ll37, ll38, ll39, ll40, Nat.reduceSub, Nat.reduceAdd, Nat.reduceEqDiff, if_true, if_false, ifp_t, ifp_f, reduceIte, Bool.true_eq_false, Bool.false_eq_true, Option.map_some, Option.map_none, Option.bind_some, Option.bind_none, tSq, sSet2, seqOf_fl, seqOf_tup, seqOf_ti, hc, r1, r2, i0]
    rfl
theorem far_need_ok (fs : List (Int × Int)) (hl : fs.length ≤ 20) (hr : ∀ e ∈ fs, Run e) (p : Nat) (hp : p < (toks fs).length) (S : Sto) : F_far_need [.tup (fs.map dp), .int p] S = .ok (.int (ne (rot (toks fs) p))) S := by
  have := far_need_any fs hl hr (v := .int p) rfl S
  rw [plc_int hp] at this
  exact this
theorem law_far_need_ok (fs : List (Int × Int)) (hf : fs ≠ []) (hl : fs.length ≤ 20) (hr : ∀ e ∈ fs, Run e) (p : Nat) (S : Sto) : F__law_far_need [.tup (fs.map dp), .int p] S = .ok (.int (ne (rot (toks fs) p))) S := by
  have p1 := parts_ok fs (by omega) hr p
  obtain ⟨w, l1, l2⟩ := lowest_fl (rdR p fs) (rd_ne fs p hr hf) (rd_run fs p hr).1 S
  rw [toks_rd fs p hr] at l2
  have i0 : ∀ x S, dIx (.fl [.int w, x]) (.int 0) S = .ok (.int w) S := fun x S => rfl
  have mx : ∀ S, bMax [.int 0, .int (1 - w)] S = .ok (.int (max 0 (1 - w))) S := fun S => rfl
  generalize hF : D.tup (fs.map dp) = Fd at *
  refine fnC_rt rfl ?_ rfl
  unfold B__law_far_need
  simp only [eVar, eC, eOp, eT, eAnd, eOr, eNot, eIf, eAndV, eOrV, eNotV, eCall, aNil, aCons, aStar, sOf, eTup, eFl, eLoc, eSl, oNone, oSome, iOf, eNeg, eChain, eMt, bOf, eDict0, eRev, eListRg, iZipD, sRaise1, sRaise0, eCallV, List.lookup, R.bind_ok, R.bind_er, R.bind_stuck, R.toS_ok, R.toS_er, R.toS_stuck, SR.next_nx, SR.next_rt, SR.next_er, SR.next_bk, SR.next_ct, SR.next_stuck, sNil, sSeq, sBrk, sCnt, sExp, sRet, sRetN, sIf, sSet, sAsg, sAug, sPar2, sPar3, tN, DL.tTup, DL.tNil, DL.tCons, DL.tSub, iSeq, srcOf_tup, srcOf_fl, srcOf_kl, srcOf_ti, iRange1, iRange2, sFor, startD, List.map_cons, List.map_nil, List.length_cons, List.length_nil, List.replicate, List.cons_append, List.nil_append, List.getElem?_cons_zero, List.getElem?_cons_succ, List.set_cons_zero, List.set_cons_succ, dSub_int, dFdiv_int, dMod_int, dLt_int, dLe_int, dGt_int, dGe_int, dAddI_int, dSubI_int, dIsN_non, isN, dAdd_int, ll0, ll1, ll2, ll3, ll4, ll5, ll6, ll7, ll8, ll9, ll10, ll11, ll12, ll13, ll14, ll15, ll16, ll17, ll18, ll19, ll20, ll21, ll22, ll23, ll24, ll25, ll26, ll27, ll28, ll29, ll30, ll31, ll32, ll33, ll34, ll35, ll36, ll37, ll38, ll39, ll40, Nat.reduceSub, Nat.reduceAdd, Nat.reduceEqDiff, if_true, if_false, ifp_t, ifp_f, reduceIte, Bool.true_eq_false, Bool.false_eq_true, Option.map_some, Option.map_none, Option.bind_some, Option.bind_none, tSq, sSet2, seqOf_fl, seqOf_tup, seqOf_ti, p1, l1, i0, mx, l2]
/-! ### odd values, whole numbers -/
theorem whole_any {v : D} (h : pl v = true) (lo hi : Int) (S : Sto) : F__law_whole [v, .int lo, .int hi] S = .ok (.bl (isI v lo hi)) S := by
  refine fnC_rt rfl ?_ rfl
  unfold B__law_whole
  cases v with
  | int i =>
    have h1 := isi_int (v := .int i) rfl S
    have h2 := isi_bool (v := .int i) rfl S
    by_cases h3 : lo ≤ i
    · by_cases h4 : i ≤ hi
      · simp only [eVar, eC, eOp, eT, eAnd, eOr, eNot, eIf, eAndV, eOrV, eNotV, eCall, aNil, aCons, aStar, sOf, eTup, eFl, eLoc, eSl, oNone, oSome, iOf, eNeg, eChain, eMt, bOf, eDict0, eRev, eListRg, iZipD, sRaise1, sRaise0, eCallV, List.lookup, R.bind_ok, R.bind_er, R.bind_stuck, R.toS_ok, R.toS_er, R.toS_stuck, SR.next_nx, SR.next_rt, SR.next_er, SR.next_bk, SR.next_ct, SR.next_stuck, sNil, sSeq, sBrk, sCnt, sExp, sRet, sRetN, sIf, sSet, sAsg, sAug, sPar2, sPar3, tN, DL.tTup, DL.tNil, DL.tCons, DL.tSub, iSeq, srcOf_tup, srcOf_fl, srcOf_kl, srcOf_ti, iRange1, iRange2, sFor, startD, List.map_cons, List.map_nil, List.length_cons, List.length_nil, List.replicate, List.cons_append, List.nil_append, List.getElem?_cons_zero, List.getElem?_cons_succ, List.set_cons_zero, List.set_cons_succ, dSub_int, dFdiv_int, dMod_int, dLt_int, dLe_int, dGt_int, dGe_int, dAddI_int, dSubI_int, dIsN_non, isN, dAdd_int, ll0, ll1, ll2, ll3, ll4, ll5, ll6, ll7, ll8, ll9, ll10, ll11, ll12, ll13, ll14, ll15, ll16, ll17, ll18, ll19, ll20, ll21, ll22, ll23, ll24, ll25, ll26, ll27, ll28, ll29, ll30, ll31, ll32, ll33, ll34, ll35, ll36, ll37, ll38, ll39, ll40, Nat.reduceSub, Nat.reduceAdd, Nat.reduceEqDiff, if_true, if_false, ifp_t, ifp_f, reduceIte, Bool.true_eq_false, Bool.false_eq_true, Option.map_some, Option.map_none, Option.bind_some, Option.bind_none, tSq, sSet2, seqOf_fl, seqOf_tup, seqOf_ti, h1, h2, isInt0, isBl, h3, h4, decide_true, Bool.not_true, isI, and_self]
      · simp only [eVar, eC, eOp, eT, eAnd, eOr, eNot, eIf, eAndV, eOrV, eNotV, eCall, aNil, aCons, aStar, sOf, eTup, eFl, eLoc, eSl, oNone, oSome, iOf, eNeg, eChain, eMt, bOf, eDict0, eRev, eListRg, iZipD, sRaise1, sRaise0, eCallV, List.lookup, R.bind_ok, R.bind_er, R.bind_stuck, R.toS_ok, R.toS_er, R.toS_stuck, SR.next_nx, SR.next_rt, SR.next_er, SR.next_bk, SR.next_ct, SR.next_stuck, sNil, sSeq, sBrk, sCnt, sExp, sRet, sRetN, sIf, sSet, sAsg, sAug, sPar2, sPar3, tN, DL.tTup, DL.tNil, DL.tCons, DL.tSub, iSeq, srcOf_tup, srcOf_fl, srcOf_kl, srcOf_ti, iRange1, iRange2, sFor, startD, List.map_cons, List.map_nil, List.length_cons, List.length_nil, List.replicate, List.cons_append, List.nil_append, List.getElem?_cons_zero, List.getElem?_cons_succ, List.set_cons_zero, List.set_cons_succ, dSub_int, dFdiv_int, dMod_int, dLt_int, dLe_int, dGt_int, dGe_int, dAddI_int, dSubI_int, dIsN_non, isN, dAdd_int, ll0, ll1, ll2, ll3, ll4, ll5, ll6, ll7, ll8, ll9, ll10, ll11, ll12, ll13, ll14, ll15, ll16, ll17, ll18, ll19, ll20, ll21, ll22, ll23, ll24, ll25, ll26, ll27, ll28, ll29, ll30, ll31, ll32, ll33, ll34, ll35, ll36, ll37, ll38, ll39, ll40, Nat.reduceSub, Nat.reduceAdd, Nat.reduceEqDiff, if_true, if_false, ifp_t, ifp_f, reduceIte, Bool.true_eq_false, Bool.false_eq_true, Option.map_some, Option.map_none, Option.bind_some, Option.bind_none, tSq, sSet2, seqOf_fl, seqOf_tup, seqOf_ti, h1, h2, isInt0, isBl, h3, h4, decide_true, decide_false, Bool.not_true, isI, and_false]
    · simp only [eVar, eC, eOp, eT, eAnd, eOr, eNot, eIf, eAndV, eOrV, eNotV, eCall, aNil, aCons, aStar, sOf, eTup, eFl, eLoc, eSl, oNone, oSome, iOf, eNeg, eChain, eMt, bOf, eDict0, eRev, eListRg, iZipD, sRaise1, sRaise0, eCallV, List.lookup, R.bind_ok, R.bind_er, R.bind_stuck, R.toS_ok, R.toS_er, R.toS_stuck, SR.next_nx, SR.next_rt, SR.next_er, SR.next_bk, SR.next_ct, SR.next_stuck, sNil, sSeq, sBrk, sCnt, sExp, sRet, sRetN, sIf, sSet, sAsg, sAug, sPar2, sPar3, tN, DL.tTup, DL.tNil, DL.tCons, DL.tSub, iSeq, srcOf_tup, srcOf_fl, srcOf_kl, srcOf_ti, iRange1, iRange2, sFor, startD, List.map_cons, List.map_nil, List.length_cons, List.length_nil, List.replicate, List.cons_append, List.nil_append, List.getElem?_cons_zero, List.getElem?_cons_succ, List.set_cons_zero, List.set_cons_succ, dSub_int, dFdiv_int, dMod_int, dLt_int, dLe_int, dGt_int, dGe_int, dAddI_int, dSubI_int, dIsN_non, isN, dAdd_int, ll0, ll1, ll2, ll3, ll4, ll5, ll6, ll7, ll8, ll9, ll10, ll11, ll12, ll13, ll14, ll15, ll16, ll17, ll18, ll19, ll20, ll21, ll22, ll23, ll24, ll25, ll26, ll27, ll28, ll29, ll30, ll31, ll32, ll33, ll34, ll35, ll36, ll37, ll38, ll39, ll40, Nat.reduceSub, Nat.reduceAdd, Nat.reduceEqDiff, if_true, if_false, ifp_t, ifp_f, reduceIte, Bool.true_eq_false, Bool.false_eq_true, Option.map_some, Option.map_none, Option.bind_some, Option.bind_none, tSq, sSet2, seqOf_fl, seqOf_tup, seqOf_ti, h1, h2, isInt0, isBl, h3, decide_false, Bool.not_true, isI, false_and]
  | bl b =>
    have h1 := isi_int (v := .bl b) rfl S
    have h2 := isi_bool (v := .bl b) rfl S
    simp only [eVar, eC, eOp, eT, eAnd, eOr, eNot, eIf, eAndV, eOrV, eNotV, eCall, aNil, aCons, aStar, sOf, eTup, eFl, eLoc, eSl, oNone, oSome, iOf, eNeg, eChain, eMt, bOf, eDict0, eRev, eListRg, iZipD, sRaise1, sRaise0, eCallV, List.lookup, R.bind_ok, R.bind_er, R.bind_stuck, R.toS_ok, R.toS_er, R.toS_stuck, SR.next_nx, SR.next_rt, SR.next_er, SR.next_bk, SR.next_ct, SR.next_stuck, sNil, sSeq, sBrk, sCnt, sExp, sRet, sRetN, sIf, sSet, sAsg, sAug, sPar2, sPar3, tN, DL.tTup, DL.tNil, DL.tCons, DL.tSub, iSeq, srcOf_tup, srcOf_fl, srcOf_kl, srcOf_ti, iRange1, iRange2, sFor, startD, List.map_cons, List.map_nil, List.length_cons, List.length_nil, List.replicate, List.cons_append, List.nil_append, List.getElem?_cons_zero, List.getElem?_cons_succ, List.set_cons_zero, List.set_cons_succ, dSub_int, dFdiv_int, dMod_int, dLt_int, dLe_int, dGt_int, dGe_int, dAddI_int, dSubI_int, dIsN_non, isN, dAdd_int, ll0, ll1, ll2, ll3, ll4, ll5, ll6, ll7, ll8, ll9, ll10, ll11, ll12, ll13, ll14, ll15, ll16, ll17, ll18, ll19, ll20, ll21, ll22, ll23, ll24, ll25, ll26, ll27, ll28, ll29, ll30, ll31, ll32, ll33, ll34, ll35, ll36, ll37, ll38, ll39, ll40, Nat.reduceSub, Nat.reduceAdd, Nat.reduceEqDiff, if_true, if_false, ifp_t, ifp_f, reduceIte, Bool.true_eq_false, Bool.false_eq_true, Option.map_some, Option.map_none, Option.bind_some, Option.bind_none, tSq, sSet2, seqOf_fl, seqOf_tup, seqOf_ti, h1, h2, isInt0, isBl, Bool.not_true, isI]
  | non => simp only [eVar, eC, eOp, eT, eAnd, eOr, eNot, eIf, eAndV, eOrV, eNotV, eCall, aNil, aCons, aStar, sOf, eTup, eFl, eLoc, eSl, oNone, oSome, iOf, eNeg, eChain, eMt, bOf, eDict0, eRev, eListRg, iZipD, sRaise1, sRaise0, eCallV, List.lookup, R.bind_ok, R.bind_er, R.bind_stuck, R.toS_ok, R.toS_er, R.toS_stuck, SR.next_nx, SR.next_rt, SR.next_er, SR.next_bk, SR.next_ct, SR.next_stuck, sNil, sSeq, sBrk, sCnt, sExp, sRet, sRetN, sIf, sSet, sAsg, sAug, sPar2, sPar3, tN, DL.tTup, DL.tNil, DL.tCons, DL.tSub, iSeq, srcOf_tup, srcOf_fl, srcOf_kl, srcOf_ti, iRange1, iRange2, sFor, startD, List.map_cons, List.map_nil, List.length_cons, List.length_nil, List.replicate, List.cons_append, List.nil_append, List.getElem?_cons_zero, List.getElem?_cons_succ, List.set_cons_zero, List.set_cons_succ, dSub_int, dFdiv_int, dMod_int, dLt_int, dLe_int, dGt_int, dGe_int, dAddI_int, dSubI_int, dIsN_non, isN, dAdd_int, ll0, ll1, ll2, ll3, ll4, ll5, ll6, ll7, ll8, ll9, ll10, ll11, ll12, ll13, ll14, ll15, ll16, ll17, ll18, ll19, ll20, ll21, ll22, ll23, ll24, ll25, ll26, ll27, ll28, ll29, ll30, ll31, ll32, ll33, ll34, ll35, ll36, ll37, ll38, ll39, ll40, Nat.reduceSub, Nat.reduceAdd, Nat.reduceEqDiff, if_true, if_false, ifp_t, ifp_f, reduceIte, Bool.true_eq_false, Bool.false_eq_true, Option.map_some, Option.map_none, Option.bind_some, Option.bind_none, tSq, sSet2, seqOf_fl, seqOf_tup, seqOf_ti, isi_int (v := .non) rfl, isInt0, Bool.not_false, isI]
  | str x => simp only [eVar, eC, eOp, eT, eAnd, eOr, eNot, eIf, eAndV, eOrV, eNotV, eCall, aNil, aCons, aStar, sOf, eTup, eFl, eLoc, eSl, oNone, oSome, iOf, eNeg, eChain, eMt, bOf, eDict0, eRev, eListRg, iZipD, sRaise1, sRaise0, eCallV, List.lookup, R.bind_ok, R.bind_er, R.bind_stuck, R.toS_ok, R.toS_er, R.toS_stuck, SR.next_nx, SR.next_rt, SR.next_er, SR.next_bk, SR.next_ct, SR.next_stuck, sNil, sSeq, sBrk, sCnt, sExp, sRet, sRetN, sIf, sSet, sAsg, sAug, sPar2, sPar3, tN, DL.tTup, DL.tNil, DL.tCons, DL.tSub, iSeq, srcOf_tup, srcOf_fl, srcOf_kl, srcOf_ti, iRange1, iRange2, sFor, startD, List.map_cons, List.map_nil, List.length_cons, List.length_nil, List.replicate, List.cons_append, List.nil_append, List.getElem?_cons_zero, List.getElem?_cons_succ, List.set_cons_zero, List.set_cons_succ, dSub_int, dFdiv_int, dMod_int, dLt_int, dLe_int, dGt_int, dGe_int, dAddI_int, dSubI_int, dIsN_non, isN, dAdd_int, ll0, ll1, ll2, ll3, ll4, ll5, ll6, ll7, ll8, ll9, ll10, ll11, ll12, ll13, ll14, ll15, ll16, ll17, ll18, ll19, ll20, ll21, ll22, ll23, ll24, ll25, ll26, ll27, ll28, ll29, ll30, ll31, ll32, ll33, ll34, ll35, ll36, ll37, ll38, ll39, ll40, Nat.reduceSub, Nat.reduceAdd, Nat.reduceEqDiff, if_true, if_false, ifp_t, ifp_f, reduceIte, Bool.true_eq_false, Bool.false_eq_true, Option.map_some, Option.map_none, Option.bind_some, Option.bind_none, tSq, sSet2, seqOf_fl, seqOf_tup, seqOf_ti, isi_int (v := .str x) rfl, isInt0, Bool.not_false, isI]
  | tup x => simp only [eVar, eC, eOp, eT, eAnd, eOr, eNot, eIf, eAndV, eOrV, eNotV, eCall, aNil, aCons, aStar, sOf, eTup, eFl, eLoc, eSl, oNone, oSome, iOf, eNeg, eChain, eMt, bOf, eDict0, eRev, eListRg, iZipD, sRaise1, sRaise0, eCallV, List.lookup, R.bind_ok, R.bind_er, R.bind_stuck, R.toS_ok, R.toS_er, R.toS_stuck, SR.next_nx, SR.next_rt, SR.next_er, SR.next_bk, SR.next_ct, SR.next_stuck, sNil, sSeq, sBrk, sCnt, sExp, sRet, sRetN, sIf, sSet, sAsg, sAug, sPar2, sPar3, tN, DL.tTup, DL.tNil, DL.tCons, DL.tSub, iSeq, srcOf_tup, srcOf_fl, srcOf_kl, srcOf_ti, iRange1, iRange2, sFor, startD, List.map_cons, List.map_nil, List.length_cons, List.length_nil, List.replicate, List.cons_append, List.nil_append, List.getElem?_cons_zero, List.getElem?_cons_succ, List.set_cons_zero, List.set_cons_succ, dSub_int, dFdiv_int, dMod_int, dLt_int, dLe_int, dGt_int, dGe_int, dAddI_int, dSubI_int, dIsN_non, isN, dAdd_int, ll0, ll1, ll2, ll3, ll4, ll5, ll6, ll7, ll8, ll9, ll10, ll11, ll12, ll13, ll14, ll15, ll16, ll17, ll18, ll19, ll20, ll21, ll22, ll23, ll24, ll25, ll26, ll27, ll28, ll29, ll30, ll31, ll32, ll33, ll34, ll35, ll36, ll37, ll38, ll39, ll40, Nat.reduceSub, Nat.reduceAdd, Nat.reduceEqDiff, if_true, if_false, ifp_t, ifp_f, reduceIte, Bool.true_eq_false, Bool.false_eq_true, Option.map_some, Option.map_none, Option.bind_some, Option.bind_none, tSq, sSet2, seqOf_fl, seqOf_tup, seqOf_ti, isi_int (v := .tup x) rfl, isInt0, Bool.not_false, isI]
  | fl x => simp only [eVar, eC, eOp, eT, eAnd, eOr, eNot, eIf, eAndV, eOrV, eNotV, eCall, aNil, aCons, aStar, sOf, eTup, eFl, eLoc, eSl, oNone, oSome, iOf, eNeg, eChain, eMt, bOf, eDict0, eRev, eListRg, iZipD, sRaise1, sRaise0, eCallV, List.lookup, R.bind_ok, R.bind_er, R.bind_stuck, R.toS_ok, R.toS_er, R.toS_stuck, SR.next_nx, SR.next_rt, SR.next_er, SR.next_bk, SR.next_ct, SR.next_stuck, sNil, sSeq, sBrk, sCnt, sExp, sRet, sRetN, sIf, sSet, sAsg, sAug, sPar2, sPar3, tN, DL.tTup, DL.tNil, DL.tCons, DL.tSub, iSeq, srcOf_tup, srcOf_fl, srcOf_kl, srcOf_ti, iRange1, iRange2, sFor, startD, List.map_cons, List.map_nil, List.length_cons, List.length_nil, List.replicate, List.cons_append, List.nil_append, List.getElem?_cons_zero, List.getElem?_cons_succ, List.set_cons_zero, List.set_cons_succ, dSub_int, dFdiv_int, dMod_int, dLt_int, dLe_int, dGt_int, dGe_int, dAddI_int, dSubI_int, dIsN_non, isN, dAdd_int, ll0, ll1, ll2, ll3, ll4, ll5, ll6, ll7, ll8, ll9, ll10, ll11, ll12, ll13, ll14, ll15, ll16, ll17, ll18, ll19, ll20, ll21, ll22, ll23, ll24, ll25, ll26, ll27, ll28, ll29, ll30, ll31, ll32, ll33, ll34, ll35, ll36, ll37, ll38, ll39, ll40, Nat.reduceSub, Nat.reduceAdd, Nat.reduceEqDiff, if_true, if_false, ifp_t, ifp_f, reduceIte, Bool.true_eq_false, Bool.false_eq_true, Option.map_some, Option.map_none, Option.bind_some, Option.bind_none, tSq, sSet2, seqOf_fl, seqOf_tup, seqOf_ti, isi_int (v := .fl x) rfl, isInt0, Bool.not_false, isI]
  | fd x => simp only [eVar, eC, eOp, eT, eAnd, eOr, eNot, eIf, eAndV, eOrV, eNotV, eCall, aNil, aCons, aStar, sOf, eTup, eFl, eLoc, eSl, oNone, oSome, iOf, eNeg, eChain, eMt, bOf, eDict0, eRev, eListRg, iZipD, sRaise1, sRaise0, eCallV, List.lookup, R.bind_ok, R.bind_er, R.bind_stuck, R.toS_ok, R.toS_er, R.toS_stuck, SR.next_nx, SR.next_rt, SR.next_er, SR.next_bk, SR.next_ct, SR.next_stuck, sNil, sSeq, sBrk, sCnt, sExp, sRet, sRetN, sIf, sSet, sAsg, sAug, sPar2, sPar3, tN, DL.tTup, DL.tNil, DL.tCons, DL.tSub, iSeq, srcOf_tup, srcOf_fl, srcOf_kl, srcOf_ti, iRange1, iRange2, sFor, startD, List.map_cons, List.map_nil, List.length_cons, List.length_nil, List.replicate, List.cons_append, List.nil_append, List.getElem?_cons_zero, List.getElem?_cons_succ, List.set_cons_zero, List.set_cons_succ, dSub_int, dFdiv_int, dMod_int, dLt_int, dLe_int, dGt_int, dGe_int, dAddI_int, dSubI_int, dIsN_non, isN, dAdd_int, ll0, ll1, ll2, ll3, ll4, ll5, ll6, ll7, ll8, ll9, ll10, ll11, ll12, ll13, ll14, ll15, ll16, ll17, ll18, ll19, ll20, ll21, ll22, ll23, ll24, ll25, ll26, ll27, ll28, ll29, ll30, ll31, ll32, ll33, ll34, ll35, ll36, ll37, ll38, ll39, ll40, Nat.reduceSub, Nat.reduceAdd, Nat.reduceEqDiff, if_true, if_false, ifp_t, ifp_f, reduceIte, Bool.true_eq_false, Bool.false_eq_true, Option.map_some, Option.map_none, Option.bind_some, Option.bind_none, tSq, sSet2, seqOf_fl, seqOf_tup, seqOf_ti, isi_int (v := .fd x) rfl, isInt0, Bool.not_false, isI]
  | _ => simp [pl] at h
/-- a value of plain kind that can be shown -/
structure Vw (v : D) : Prop where
  pl : DL.pl v = true
  shw : Shw 200 2 v
theorem odds_ok {S : Sto} {n : Nat} {rest : Sto} (h : Strm S n rest) {m : Int} (h0 : 0 ≤ m) (h1 : m < 10 ^ 18) (hn : n + 2 < 2 ^ 60) :
    ∃ vs S', F__law_odds [.loc 1, .int m] S = .ok (.fl vs) S' ∧ vs.length = 8 ∧ (∀ v ∈ vs, Vw v) ∧ Strm S' (n + 2) rest := by
  obtain ⟨o1, S1, q1, m1, s1⟩ := odd_ok h (by omega)
  obtain ⟨o2, S2, q2, m2, s2⟩ := odd_ok s1 (by omega)
  have p20 : ∀ S, dPow (.int 10) (.int 20) S = .ok (.int (10 ^ 20)) S := fun S => dPow_ok (by decide) S
  have st : ∀ S, bStr [.int m] S = .ok (.str (toString m)) S := fun S => str_int (by omega) S
  have vi : ∀ i : Int, -(10 ^ 25) < i → i < 10 ^ 25 → Vw (.int i) := fun i a b => ⟨rfl, (shw_int (by
    have : (10 ^ 25 : Nat) < 2 ^ 1000 := by decide
    omega)).mono (by omega) (by omega)⟩
  have vo : ∀ {d : D}, d ∈ oddL → Vw d := fun hd => ⟨odd_pl _ hd, (odd_shw _ hd).mono (by omega) (by omega)⟩
  refine ⟨[o1, o2, .int (-1), .int m, .bl true, .non, .int (m + 10 ^ 20), .str (toString m)], S2, ?_, rfl, ?_, s2⟩
  · refine fnC_rt rfl ?_ (by rw [s2.len, h.len])
    unfold B__law_odds
    simp only [eVar, eC, eOp, eT, eAnd, eOr, eNot, eIf, eAndV, eOrV, eNotV, eCall, aNil, aCons, aStar, sOf, eTup, eFl, eLoc, eSl, oNone, oSome, iOf, eNeg, eChain, eMt, bOf, eDict0, eRev, eListRg, iZipD, sRaise1, sRaise0, eCallV, List.lookup, R.bind_ok, R.bind_er, R.bind_stuck, R.toS_ok, R.toS_er, R.toS_stuck, SR.next_nx, SR.next_rt, SR.next_er, SR.next_bk, SR.next_ct, SR.next_stuck, sNil, sSeq, sBrk, sCnt, sExp, sRet, sRetN, sIf, sSet, sAsg, sAug, sPar2, sPar3, tN, DL.tTup, DL.tNil, DL.tCons, DL.tSub, iSeq, srcOf_tup, srcOf_fl, srcOf_kl, srcOf_ti, iRange1, iRange2, sFor, startD, List.map_cons, List.map_nil, List.length_cons, List.length_nil, List.replicate, List.cons_append, List.nil_append, List.getElem?_cons_zero, List.getElem?_cons_succ, List.set_cons_zero, List.set_cons_succ, dSub_int, dFdiv_int, dMod_int, dLt_int, dLe_int, dGt_int, dGe_int, dAddI_int, dSubI_int, dIsN_non, isN, dAdd_int, ll0, ll1, ll2, ll3, ll4, ll5, ll6, ll7, ll8, ll9, ll10, ll11, ll12, ll13, ll14, ll15, ll16, ll17, ll18, ll19, ll20, ll21, ll22, ll23, ll24, ll25, ll26, ll27, ll28, ll29, ll30, ll31, ll32, ll33, ll34, ll35, ll36, ll37, ll38, ll39, ll40, Nat.reduceSub, Nat.reduceAdd, Nat.reduceEqDiff, if_true, if_false, ifp_t, ifp_f, reduceIte, Bool.true_eq_false, Bool.false_eq_true, Option.map_some, Option.map_none, Option.bind_some, Option.bind_none, tSq, sSet2, seqOf_fl, seqOf_tup, seqOf_ti, q1, q2, p20, st]
  · simp only [List.mem_cons, List.not_mem_nil, or_false]
    rintro v (rfl | rfl | rfl | rfl | rfl | rfl | rfl | rfl)
    · exact vo m1
    · exact vo m2
    · exact vi _ (by omega) (by omega)
    · exact vi _ (by omega) (by omega)
    · exact vo (by simp [oddL])
    · exact vo (by simp [oddL])
    · exact vi _ (by omega) (by omega)
    · refine ⟨rfl, (shw_text (toString m)).mono ?_ (by omega)⟩
      exact Nat.le_trans (int_text_length_le (k := 61) (by decide) (Nat.lt_of_lt_of_le (PySem.Flt.log2_lt_of (k := 60) (by decide) (by omega)) (by decide))) (by decide)
end DL

/-! Helpers: comprehensions over a range, defs that build a list beside the stream. -/
namespace DL
open PySem PySem.Spec L2
open PyProof.Rows hiding St
theorem rg1 {ρ : Ev} {S S1 : Sto} {f : Ev → Sto → R D} (n : Nat) (hf : f ρ S = .ok (.int n) S1) (hn : n < 2 ^ 61) : iRange1 (aCons f aNil) ρ S = .ok (rangeD 0 n, yes) S1 := by
  have hr : ((-(2 ^ 62) : Int) ≤ (n : Int) ∧ (n : Int) < 2 ^ 62) = True := by simp; omega
  simp only [eVar, eC, eOp, eT, eAnd, eOr, eNot, eIf, eAndV, eOrV, eNotV, eCall, aNil, aCons, aStar, sOf, eTup, eFl, eLoc, eSl, oNone, oSome, iOf, eNeg, eChain, eMt, bOf, eDict0, eRev, eListRg, iZipD, sRaise1, sRaise0, eCallV, List.lookup, R.bind_ok, R.bind_er, R.bind_stuck, R.toS_ok, R.toS_er, R.toS_stuck, SR.next_nx, SR.next_rt, SR.next_er, SR.next_bk, SR.next_ct, SR.next_stuck, sNil, sSeq, sBrk, sCnt, sExp, sRet, sRetN, sIf, sSet, sAsg, sAug, sPar2, sPar3, tN, DL.tTup, DL.tNil, DL.tCons, DL.tSub, iSeq, srcOf_tup, srcOf_fl, srcOf_kl, srcOf_ti, iRange1, iRange2, sFor, startD, List.map_cons, List.map_nil, List.length_cons, List.length_nil, List.replicate, List.cons_append, List.nil_append, List.getElem?_cons_zero, List.getElem?_cons_succ, List.set_cons_zero, List.set_cons_succ, dSub_int, dFdiv_int, dMod_int, dLt_int, dLe_int, dGt_int, dGe_int, dAddI_int, dSubI_int, dIsN_non, isN, dAdd_int, ll0, ll1, ll2, ll3, ll4, ll5, ll6, ll7, ll8, ll9, ll10, ll11, ll12, ll13, ll14, ll15, ll16, ll17, ll18, ll19, ll20, ll21, ll22, ll23, ll24, ll25, ll26, ll27, ll28, ll29, ll30, ll31, ll32, ll33, ll34, ll35, ll36, ll37, ll38, ll39, ll40, Nat.reduceSub, Nat.reduceAdd, Nat.reduceEqDiff, if_true, if_false, ifp_t, ifp_f, reduceIte, Bool.true_eq_false, Bool.false_eq_true, Option.map_some, Option.map_none, Option.bind_some, Option.bind_none, tSq, sSet2, seqOf_fl, seqOf_tup, seqOf_ti, hf, hr, Int.toNat_natCast]
theorem lc_range {i : Nat} {E : Ev → Sto → R D} {ρ : Ev} {S : Sto} {src : Ev → Sto → R Src} (n : Nat) (g : Nat → D) (ρd : D → Ev) (hs : src ρ S = .ok (rangeD 0 n, yes) S)
    (h : ∀ k, k < n → ∀ S', tN i (.int (k : Int)) (wipeD ρ [i]) S' = some (ρd (.int (k : Int)), S') ∧ E (ρd (.int (k : Int))) S' = .ok (g k) S') (hn : n ≤ 10 ^ 6) (hlow : ∀ k m, low m (g k) = true) :
    eLc finFl src (tN i) [i] cYes E ρ S = .ok (.fl ((List.range n).map g)) S := by
  let un : D → D := fun d => match d with
    | .int k => g k.toNat
    | _ => .non
  rw [eLc_pure (src := src) (rangeD 0 n) ρd (fun _ => true) un hs (by
    intro d hd S'
    obtain ⟨k, hk⟩ := List.mem_iff_getElem?.mp hd
    obtain ⟨h1, rfl⟩ := rangeD_get hk
    rw [Int.zero_add]
    obtain ⟨h2, h3⟩ := h k h1 S'
    exact ⟨h2, rfl, fun _ => h3⟩) (by rw [rangeD_len]; exact Nat.le_trans hn (by decide)) (by
    intro d hd _
    obtain ⟨k, hk⟩ := List.mem_iff_getElem?.mp hd
    obtain ⟨h1, rfl⟩ := rangeD_get hk
    exact hlow _ _)]
  congr 2
  rw [List.filter_eq_self.mpr (fun _ _ => rfl)]
  unfold rangeD
  rw [List.map_map]
  apply List.map_congr_left
  intro k _
  show g ((0 : Int) + (k : Int)).toNat = g k
  rw [Int.zero_add, Int.toNat_natCast]
theorem fnC_strm {n m : Nat} {B : Ev → Sto → SR} {ds : List D} {S S6 : Sto} {d : D} {n0 k : Nat} {rest l : Sto} (h : Strm S n0 rest) (h6 : Strm S6 k (rest ++ l)) (hl : l ≠ []) (hm : ds.length = m) (hB : B (startD n ds) S = .rt d S6) (hd : low S.length d = true) :
    fnC close n m B ds S = .ok d (S6.take S.length) ∧ Strm (S6.take S.length) k rest := by
  obtain ⟨q1, q2⟩ := h.trunc h6
  refine ⟨?_, q2⟩
  unfold fnC
  rw [if_pos hm, hB]
  show close S d S6 = _
  unfold close
  have : 0 < l.length := List.length_pos_iff.mpr hl
  rw [if_neg (by rw [h6.len, h.len, List.length_append]; omega), if_pos ⟨q1, hd⟩]
theorem extend_at {S : Sto} {n : Nat} {ds es : List D} (h : getL S n = some ds) (hl : ds.length + es.length ≤ 10 ^ 6) : mExtend (.loc n) [.fl es] S = .ok .non (S.set n (.lst (ds ++ es))) := by
  show (match getL S n, lstOf S (.fl es) with
    | some xs, some ys => ifp (xs.length + ys.length ≤ sizeLine) (R.ok D.non (S.set n (.lst (xs ++ ys)))) .stuck
    | _, _ => .stuck) = _
  rw [h]
  exact ifp_pos (Nat.le_trans hl (by decide))
theorem add_loc_fl {S : Sto} {n : Nat} {ds es : List D} (h : getL S n = some ds) (hl : ds.length + es.length ≤ 10 ^ 6) : dAdd (.loc n) (.fl es) S = .ok (.fl (ds ++ es)) S := by
  show (match lstOf S (.loc n), lstOf S (.fl es) with
    | some xs, some ys => ifp (xs.length + ys.length ≤ sizeLine) (R.ok (D.fl (xs ++ ys)) S) .stuck
    | _, _ => .stuck) = _
  rw [show lstOf S (.loc n) = some ds from h]
  exact ifp_pos (Nat.le_trans hl (by decide))
theorem fdiv_int {i j : Int} (h : 0 < j) (h2 : j < 2 ^ 60) (S : Sto) : dFdiv (.int i) (.int j) S = .ok (.int (i / j)) S := ifp_pos ⟨h, log2_small 60 (by omega) (by decide) (by decide)⟩
theorem shw_fli {l : List Int} (h : ∀ t ∈ l, t.natAbs < 2 ^ 1000) : Shw l.length 1 (.fl (l.map D.int)) := by
  have := shw_fl (b := 0) (k := 0) (ds := l.map D.int) fun d hd => by
    obtain ⟨t, ht, rfl⟩ := List.mem_map.mp hd
    exact shw_int (h t ht)
  rw [List.length_map] at this
  simpa using this.mono (Nat.le_of_eq (Nat.mul_one _)) (Nat.le_refl _)
theorem small_int {i : Int} (h0 : -(10 ^ 30) < i) (h : i < 10 ^ 30) : i.natAbs < 2 ^ 1000 := by
  have : (10 ^ 30 : Nat) < 2 ^ 1000 := by decide
  omega
theorem shw_far {fs : List (Int × Int)} (hl : fs.length ≤ 40) (hr : ∀ e ∈ fs, Run e) : Shw 200 2 (.tup (fs.map dp)) := by
  refine (shw_tup (b := 2) (k := 1) (ds := fs.map dp) fun d hd => ?_).mono (by rw [List.length_map]; omega) (by omega)
  obtain ⟨e, he, rfl⟩ := List.mem_map.mp hd
  have r := hr e he
  have := r.a0
  have := r.a5
  have := r.c1
  have := r.cM
  refine (shw_tup (b := 0) (k := 0) (ds := [.int e.1, .int e.2]) fun d hd => ?_).mono (by simp) (by omega)
  simp only [List.mem_cons, List.not_mem_nil, or_false] at hd
  rcases hd with rfl | rfl
  · exact shw_int (small_int (by omega) (by omega))
  · exact shw_int (small_int (by omega) (by omega))
theorem rot_ne_bound {fs : List (Int × Int)} (hl : fs.length ≤ 20) (hr : ∀ e ∈ fs, Run e) (p : Nat) : 0 ≤ ne (rot (toks fs) p) ∧ ne (rot (toks fs) p) < 10 ^ 20 := by
  refine ⟨ne_nn _, ?_⟩
  have h1 := ne_bound (l := rot (toks fs) p) fun t ht => toks_ar fs hr t (rot_mem ht)
  have h2 : (rot (toks fs) p).length = (toks fs).length := by unfold rot; rw [List.length_append, List.length_drop, List.length_take]; omega
  have h3 := toks_len fs hr
  have h4 := len_le fs (10 ^ 13) fun e he => ⟨hr e he, (hr e he).cM⟩
  omega
end DL

/-! Far rings: the ranges of the beginnings. -/
namespace DL
open PySem PySem.Spec L2
open PyProof.Rows hiding St
noncomputable def L1_count_ready (ρ : Ev) (S : Sto) : SR :=
  (sSeq (sAug 2 dAddI (eOp dMulT (eOp dSub (eC (.int 1)) (eVar 4)) (eVar 5)))
    (sSet 3 (eCall bMinT (aCons (eVar 3) (aCons (eVar 2) aNil))))) ρ S
noncomputable def B_count_ready : Ev → Sto → SR :=
  (sSeq (sSet2 2 3 (eOp dIx (eOp dIx (eVar 0) (eVar 1)) (eC (.int 1))))
    (sSeq (sFor (iSeq (eOp dAdd (eSl mkFl (eVar 0) (oSome (eOp dAdd (eVar 1) (eC (.int 1)))) oNone) (eSl mkFl (eVar 0) oNone (oSome (eVar 1))))) (tTup 2 (tCons (tN 4) (tCons (tN 5) tNil))) L1_count_ready sNil)
    (sRet (eCall bMax (aCons (eC (.int 0)) (aCons (eVar 3) aNil))))))
noncomputable def F_count_ready : Fn := fnC close 6 2 B_count_ready

noncomputable def L1_far_beginnings (ρ : Ev) (S : Sto) : SR :=
  (sSeq (sSet 6 (eIf (eT (eOp (dEq false) (eVar 4) (eC (.int 0)))) (eCall F_count_ready (aCons (eVar 0) (aCons (eVar 3) aNil))) (eC (.int 0))))
    (sSeq (sIf (eAnd (eT (eOp dGt (eVar 6) (eC (.int 0)))) (eAnd (eT (eOp (dEq true) (eVar 1) (eFl aNil))) (eT (eOp (dEq false) (eOp dIx (eOp dIx (eVar 1) (eNeg (eC (.int 1)))) (eC (.int 1))) (eOp dSub (eVar 2) (eC (.int 1))))))) (sAsg (eTup (aCons (eOp dIx (eOp dIx (eVar 1) (eNeg (eC (.int 1)))) (eC (.int 0))) (aCons (eOp dSub (eOp dAdd (eVar 2) (eVar 6)) (eC (.int 1))) aNil))) (tSub (eVar 1) (eNeg (eC (.int 1))))) (sIf (eT (eOp dGt (eVar 6) (eC (.int 0)))) (sExp (eMt isLst mAppend (eVar 1) (aCons (eTup (aCons (eVar 2) (aCons (eOp dSub (eOp dAdd (eVar 2) (eVar 6)) (eC (.int 1))) aNil))) aNil))) sNil))
    (sAug 2 dAddI (eVar 5)))) ρ S
noncomputable def B_far_beginnings : Ev → Sto → SR :=
  (sSeq (sPar2 1 2 (aCons (eLoc aNil) (aCons (eC (.int 0)) aNil)))
    (sSeq (sFor (iEnumD (aCons (eVar 0) aNil)) (tTup 2 (tCons (tN 3) (tCons (tTup 2 (tCons (tN 4) (tCons (tN 5) tNil))) tNil))) L1_far_beginnings sNil)
    (sRet (eCall bTuple (aCons (eVar 1) aNil)))))
noncomputable def F_far_beginnings : Fn := fnC close 7 1 B_far_beginnings

def lo : Int → Int → List (Int × Int) → Int
  | _, m, [] => m
  | h, m, e :: r => lo (h + (1 - e.1) * e.2) (min m (h + (1 - e.1) * e.2)) r
def mny (fs : List (Int × Int)) (i : Nat) : Int := match fs[i]? with
  | some e => if e.1 = 0 then max 0 (lo e.2 e.2 (fs.drop (i + 1) ++ fs.take i)) else 0
  | none => 0
def addR (f : List (Int × Int)) (s m : Int) : List (Int × Int) := if 0 < m then (match f.getLast? with
    | some q => if q.2 = s - 1 then f.dropLast ++ [(q.1, s + m - 1)] else f ++ [(s, s + m - 1)]
    | none => [(s, s + m - 1)]) else f
def fbL (all : List (Int × Int)) : Nat → Int → List (Int × Int) → List (Int × Int) → List (Int × Int)
  | _, _, f, [] => f
  | k, s, f, e :: r => fbL all (k + 1) (s + e.2) (addR f s (mny all k)) r
def fbR (fs : List (Int × Int)) : List (Int × Int) := fbL fs 0 0 [] fs
def rg (ps : List Nat) : List (Int × Int) := ps.foldl (fun f (p : Nat) => addR f (p : Int) 1) []
/-! ### the plain law -/
def okE : Int → List (Int × Int) → Prop
  | _, [] => True
  | x, e :: r => 0 < x + (1 - e.1) * e.2 ∧ okE (x + (1 - e.1) * e.2) r
theorem lo_iff : ∀ (r : List (Int × Int)) (h m j : Int), j < lo h m r ↔ j < m ∧ okE (h - j) r
  | [], h, m, j => by simp [lo, okE]
  | e :: r, h, m, j => by
    rw [lo, lo_iff r, okE]
    have e1 : h + (1 - e.1) * e.2 - j = h - j + (1 - e.1) * e.2 := by omega
    rw [e1]
    constructor
    · rintro ⟨h1, h2⟩; exact ⟨by omega, by omega, h2⟩
    · rintro ⟨h1, h2, h3⟩; exact ⟨by omega, h3⟩
theorem ht_rep {e : Int × Int} (h : Run e) : ht (List.replicate e.2.toNat e.1) = (1 - e.1) * e.2 := by
  have c1 := h.c1
  rw [ht_eq, sum_rep, List.length_replicate]
  have e1 : ((e.2.toNat : Nat) : Int) = e.2 := by omega
  rw [e1, Int.sub_mul, Int.one_mul]
theorem rep_le {e : Int × Int} (h : Run e) {x : Int} (hx : 1 ≤ x) : ne (List.replicate e.2.toNat e.1) ≤ x ↔ 0 < x + (1 - e.1) * e.2 := by
  have e0 : ne (List.replicate e.2.toNat e.1) = (rp (e.1, 1) e.2).1 := by rw [← eff_run h]; rfl
  have ls := low_step h 0
  have nn := ne_nn (List.replicate e.2.toNat e.1)
  rw [← e0] at ls
  have a0 := h.a0
  have c1 := h.c1
  simp only [Int.zero_add, Int.sub_zero] at ls
  generalize hd : (1 - e.1) * e.2 = d at *
  generalize ne (List.replicate e.2.toNat e.1) = N at *
  by_cases h1 : 1 ≤ e.1
  · have hd2 : d ≤ 1 - e.1 := by
      have : (1 - e.1) * e.2 ≤ (1 - e.1) * 1 := Int.mul_le_mul_of_nonpos_left (by omega) c1
      rw [hd] at this; omega
    constructor <;> intro hh <;> omega
  · have e1 : e.1 = 0 := by omega
    have hd2 : d = e.2 := by rw [← hd, e1]; simp
    constructor <;> intro hh <;> omega
theorem okE_iff : ∀ (r : List (Int × Int)) (x : Int), (∀ e ∈ r, Run e) → 1 ≤ x → (ne (toks r) ≤ x ↔ okE x r)
  | [], x, _, hx => by
    have : ne (toks []) = 0 := rfl
    rw [this, okE]; simp; omega
  | e :: r, x, hr, hx => by
    have h := hr e List.mem_cons_self
    rw [toks_cons, ne_app, okE, ht_rep h]
    have h1 := rep_le h hx
    constructor
    · intro hh
      have q : 0 < x + (1 - e.1) * e.2 := h1.mp (by omega)
      exact ⟨q, (okE_iff r _ (fun y hy => hr y (List.mem_cons_of_mem _ hy)) (by omega)).mp (by omega)⟩
    · rintro ⟨h2, h3⟩
      have h4 := h1.mpr h2
      have h5 := (okE_iff r _ (fun y hy => hr y (List.mem_cons_of_mem _ hy)) (by omega)).mpr h3
      omega
theorem ne_zeros : ∀ n : Nat, ne (List.replicate n 0) = 0
  | 0 => rfl
  | n + 1 => by
    have := eff_run (e := (0, ((n + 1 : Nat) : Int)))
    rw [List.replicate_succ]
    have e := ne_app [0] (List.replicate n 0)
    rw [List.singleton_append] at e
    rw [e, ne_zeros n]
    have h1 : ne [0] = 0 := rfl
    have h2 : ht [0] = 1 := rfl
    rw [h1, h2]; decide
theorem ht_zeros (n : Nat) : ht (List.replicate n 0) = n := by
  rw [ht_eq, sum_rep, List.length_replicate]; simp
theorem ne_ht (l : List Int) : 0 - ht l ≤ ne l := by
  cases l with
  | nil => decide
  | cons t a =>
    have := ne_ge (t :: a) (0, 0) (by simp)
    show 0 - ht (t :: a) ≤ ne (t :: a)
    unfold ht ne
    omega
theorem ne_run (c j : Nat) (l : List Int) : ne (List.replicate (c - j) 0 ++ l ++ List.replicate j 0) = max 0 (ne l - ((c - j : Nat) : Int)) := by
  have h := ne_ht l
  rw [List.append_assoc, ne_app, ne_zeros, ne_app, ne_zeros, ht_zeros]
  omega
/-- a turning at a place of a run -/
theorem rot_at (a b : List Int) (x : Int) (c j : Nat) (hj : j ≤ c) : rot (a ++ (List.replicate c x ++ b)) (a.length + j) = List.replicate (c - j) x ++ (b ++ a) ++ List.replicate j x := by
  unfold rot
  rw [List.drop_append, List.drop_of_length_le (by omega), List.nil_append, List.take_append, List.take_of_length_le (by omega)]
  have e : a.length + j - a.length = j := by omega
  rw [e, List.drop_append, List.drop_replicate, List.length_replicate, List.take_append, List.take_replicate, List.length_replicate]
  have e2 : j - c = 0 := by omega
  have e3 : min j c = j := by omega
  rw [e2, e3, List.drop_zero, List.take_zero]
  simp [List.append_assoc]
theorem beg_zero (pre r : List (Int × Int)) {e : Int × Int} (hr : ∀ x ∈ pre ++ e :: r, Run x) (h0 : e.1 = 0) (j : Nat) (hj : j < e.2.toNat) : ne (rot (toks (pre ++ e :: r)) ((toks pre).length + j)) = 0 ↔ (j : Int) < mny (pre ++ e :: r) pre.length := by
  have he := hr e (by simp)
  have hrr : ∀ x ∈ r ++ pre, Run x := fun x hx => hr x (by
    rcases List.mem_append.mp hx with h | h
    · simp [h]
    · simp [h])
  rw [toks_app, toks_cons, rot_at _ _ _ _ _ (by omega), h0, ← toks_app, ne_run]
  have hm : mny (pre ++ e :: r) pre.length = max 0 (lo e.2 e.2 (r ++ pre)) := by
    unfold mny
    rw [show (pre ++ e :: r)[pre.length]? = some e by simp]
    simp only [h0, if_true]
    congr 2
    simp
  rw [hm]
  have h1 := lo_iff (r ++ pre) e.2 e.2 j
  have h2 := okE_iff (r ++ pre) (e.2 - j) hrr (by omega)
  have e1 : ((e.2.toNat - j : Nat) : Int) = e.2 - j := by omega
  rw [e1]
  constructor
  · intro hh
    have : (j : Int) < lo e.2 e.2 (r ++ pre) := h1.mpr ⟨by omega, h2.mp (by omega)⟩
    omega
  · intro hh
    have := h2.mpr (h1.mp (by omega)).2
    omega
theorem beg_more (pre r : List (Int × Int)) {e : Int × Int} (hr : ∀ x ∈ pre ++ e :: r, Run x) (h0 : e.1 ≠ 0) (j : Nat) (hj : j < e.2.toNat) : ne (rot (toks (pre ++ e :: r)) ((toks pre).length + j)) ≠ 0 := by
  have he := hr e (by simp)
  have a0 := he.a0
  rw [toks_app, toks_cons, rot_at _ _ _ _ _ (by omega)]
  obtain ⟨k, hk⟩ : ∃ k, e.2.toNat - j = k + 1 := ⟨e.2.toNat - j - 1, by omega⟩
  rw [hk, List.replicate_succ, List.cons_append, List.cons_append]
  have := ne_app [e.1] (List.replicate k e.1 ++ (toks r ++ toks pre) ++ List.replicate j e.1)
  rw [List.singleton_append] at this
  rw [this]
  have h1 : ne [e.1] = e.1 := by
    have := eff_one a0
    unfold eff at this
    exact (Prod.mk.inj this).1
  rw [h1]; omega
theorem lo_le : ∀ (r : List (Int × Int)) (h m : Int), lo h m r ≤ m
  | [], h, m => by simp [lo]
  | e :: r, h, m => by rw [lo]; have := lo_le r (h + (1 - e.1) * e.2) (min m (h + (1 - e.1) * e.2)); omega
theorem mny_le (pre r : List (Int × Int)) {e : Int × Int} (he : Run e) : 0 ≤ mny (pre ++ e :: r) pre.length ∧ mny (pre ++ e :: r) pre.length ≤ e.2 := by
  have c1 := he.c1
  unfold mny
  rw [show (pre ++ e :: r)[pre.length]? = some e by simp]
  dsimp only
  have := lo_le ((pre ++ e :: r).drop (pre.length + 1) ++ (pre ++ e :: r).take pre.length) e.2 e.2
  split <;> omega
theorem addR_last (f : List (Int × Int)) (s m : Int) (hm : 0 < m) : ∃ g a, addR f s m = g ++ [(a, s + m - 1)] ∧ addR f s (m + 1) = g ++ [(a, s + m)] := by
  have e1 : s + (m + 1) - 1 = s + m := by omega
  unfold addR
  rw [if_pos hm, if_pos (by omega), e1]
  cases f.getLast? with
  | none => exact ⟨[], s, rfl, rfl⟩
  | some q =>
    dsimp only
    by_cases hq : q.2 = s - 1
    · rw [if_pos hq, if_pos hq]; exact ⟨_, _, rfl, rfl⟩
    · rw [if_neg hq, if_neg hq]; exact ⟨_, _, rfl, rfl⟩
theorem addR_next (f : List (Int × Int)) (s m : Int) (hm : 0 < m) : addR (addR f s m) (s + m) 1 = addR f s (m + 1) := by
  obtain ⟨g, a, h1, h2⟩ := addR_last f s m hm
  rw [h1, h2]
  unfold addR
  rw [if_pos (by omega), List.getLast?_concat]
  dsimp only
  rw [if_pos rfl, List.dropLast_concat]
  congr 3
  omega
theorem addR_many (f : List (Int × Int)) (s : Nat) : ∀ m : Nat, (List.range' s m).foldl (fun f (p : Nat) => addR f (p : Int) 1) f = addR f s m
  | 0 => by simp [addR]
  | m + 1 => by
    rw [List.range'_concat, List.foldl_append, addR_many f s m]
    simp only [List.foldl_cons, List.foldl_nil, Nat.one_mul, Int.natCast_add, Int.natCast_one]
    by_cases hm : m = 0
    · subst hm
      have : addR f s ((0 : Nat) : Int) = f := by simp [addR]
      rw [this]; simp
    · exact addR_next f s m (by omega)
theorem filter_range' (s m c : Nat) (P : Nat → Bool) (hm : m ≤ c) (h : ∀ j, j < c → (P (s + j) = true ↔ j < m)) : (List.range' s c).filter P = List.range' s m := by
  have e : List.range' s c = List.range' s m ++ List.range' (s + m) (c - m) := by
    rw [show c = m + (c - m) by omega, ← List.range'_append_1]; simp
  rw [e, List.filter_append]
  have h1 : (List.range' s m).filter P = List.range' s m := List.filter_eq_self.mpr fun x hx => by
    obtain ⟨i, hi, rfl⟩ := List.mem_range'.mp hx
    rw [Nat.one_mul]
    exact (h i (by omega)).mpr hi
  have h2 : (List.range' (s + m) (c - m)).filter P = [] := List.filter_eq_nil_iff.mpr fun x hx => by
    obtain ⟨i, hi, rfl⟩ := List.mem_range'.mp hx
    rw [Nat.one_mul, Nat.add_assoc]
    intro hh
    have := (h (m + i) (by omega)).mp hh
    omega
  rw [h1, h2, List.append_nil]
theorem fb_eq : ∀ (r pre : List (Int × Int)) (f : List (Int × Int)) (fs : List (Int × Int)), fs = pre ++ r → (∀ e ∈ fs, Run e) → fbL fs pre.length ((toks pre).length : Int) f r = ((List.range' (toks pre).length (toks r).length).filter fun p => decide (ne (rot (toks fs) p) = 0)).foldl (fun f (p : Nat) => addR f (p : Int) 1) f
  | [], pre, f, fs, hfs, hr => by simp [fbL, toks]
  | e :: r, pre, f, fs, hfs, hr => by
    subst hfs
    have he := hr e (by simp)
    have c1 := he.c1
    obtain ⟨m0, m1⟩ := mny_le pre r he
    have ih := fb_eq r (pre ++ [e]) (addR f ((toks pre).length : Int) (mny (pre ++ e :: r) pre.length)) (pre ++ e :: r) (by simp) hr
    have hl : (toks (pre ++ [e])).length = (toks pre).length + e.2.toNat := by rw [toks_app, toks_cons]; simp [toks]
    rw [List.length_append, List.length_singleton, hl] at ih
    have e1 : (((toks pre).length + e.2.toNat : Nat) : Int) = ((toks pre).length : Int) + e.2 := by omega
    rw [e1] at ih
    rw [fbL, ih, toks_cons, List.length_append, List.length_replicate, ← List.range'_append_1, List.filter_append, List.foldl_append]
    congr 1
    have key := filter_range' (toks pre).length (mny (pre ++ e :: r) pre.length).toNat e.2.toNat (fun p => decide (ne (rot (toks (pre ++ e :: r)) p) = 0)) (by omega) (by
      intro j hj
      rw [decide_eq_true_eq]
      by_cases h0 : e.1 = 0
      · rw [beg_zero pre r hr h0 j hj]; omega
      · have h1 := beg_more pre r hr h0 j hj
        have h2 : mny (pre ++ e :: r) pre.length = 0 := by
          unfold mny
          rw [show (pre ++ e :: r)[pre.length]? = some e by simp]
          dsimp only
          rw [if_neg h0]
        rw [h2]
        constructor
        · intro hh; exact absurd hh h1
        · intro hh; simp at hh)
    rw [key, addR_many]
    congr 1
    omega
theorem fbR_eq (fs : List (Int × Int)) (hr : ∀ e ∈ fs, Run e) : fbR fs = rg (begs (toks fs)) := by
  have := fb_eq fs [] [] fs rfl hr
  unfold fbR rg begs
  rw [List.range_eq_range']
  exact this
/-! ### the walk -/
theorem ready_loop (x0 x1 : Option D) (S : Sto) : ∀ (r : List (Int × Int)) (h m : Int) (x4 x5 : Option D), (∀ e ∈ r, Run e) → ∃ y2 y4 y5, forD yes (tTup 2 (tCons (tN 4) (tCons (tN 5) tNil))) L1_count_ready sNil (r.map dp) [x0, x1, some (.int h), some (.int m), x4, x5] S = .nx [x0, x1, y2, some (.int (lo h m r)), y4, y5] S
  | [], h, m, x4, x5, _ => ⟨some (.int h), x4, x5, by rw [List.map_nil, forD_nil trivial]; rfl⟩
  | e :: r, h, m, x4, x5, hr => by
    have he := hr e List.mem_cons_self
    have a0 := he.a0
    have a5 := he.a5
    obtain ⟨y2, y4, y5, ih⟩ := ready_loop x0 x1 S r (h + (1 - e.1) * e.2) (min m (h + (1 - e.1) * e.2)) (some (.int e.1)) (some (.int e.2)) fun x hx => hr x (List.mem_cons_of_mem _ hx)
    refine ⟨y2, y4, y5, ?_⟩
    have mm := mulT_int (i := 1 - e.1) (j := e.2) (by omega)
    have mn : ∀ a b S, bMinT [.int a, .int b] S = .ok (.int (min a b)) S := fun a b S => rfl
    rw [List.map_cons, forD_cons (ρ1 := [x0, x1, some (.int h), some (.int m), some (.int e.1), some (.int e.2)]) (S1 := S) (ρ2 := [x0, x1, some (.int (h + (1 - e.1) * e.2)), some (.int (min m (h + (1 - e.1) * e.2))), some (.int e.1), some (.int e.2)]) (S2 := S) trivial rfl (by simp only [eVar, eC, eOp, eT, eAnd, eOr, eNot, eIf, eAndV, eOrV, eNotV, eCall, aNil, aCons, aStar, sOf, eTup, eFl, eLoc, eSl, oNone, oSome, iOf, eNeg, eChain, eMt, bOf, eDict0, eRev, eListRg, iZipD, sRaise1, sRaise0, eCallV, List.lookup, R.bind_ok, R.bind_er, R.bind_stuck, R.toS_ok, R.toS_er, R.toS_stuck, SR.next_nx, SR.next_rt, SR.next_er, SR.next_bk, SR.next_ct, SR.next_stuck, sNil, sSeq, sBrk, sCnt, sExp, sRet, sRetN, sIf, sSet, sAsg, sAug, sPar2, sPar3, tN, DL.tTup, DL.tNil, DL.tCons, DL.tSub, iSeq, srcOf_tup, srcOf_fl, srcOf_kl, srcOf_ti, iRange1, iRange2, sFor, startD, List.map_cons, List.map_nil, List.length_cons, List.length_nil, List.replicate, List.cons_append, List.nil_append, List.getElem?_cons_zero, List.getElem?_cons_succ, List.set_cons_zero, List.set_cons_succ, dSub_int, dFdiv_int, dMod_int, dLt_int, dLe_int, dGt_int, dGe_int, dAddI_int, dSubI_int, dIsN_non, isN, dAdd_int, ll0, ll1, ll2, ll3, ll4, ll5, ll6, ll7, ll8, ll9, ll10, ll11, ll12, ll13, ll14, ll15, ll16, ll17, ll18, ll19, ll20, ll21, ll22, ll23, ll24, ll25, ll26, ll27, ll28, ll29, ll30, ll31, ll32, ll33, ll34, ll35, ll36, ll37, ll38, ll39, ll40, Nat.reduceSub, Nat.reduceAdd, Nat.reduceEqDiff, if_true, if_false, ifp_t, ifp_f, reduceIte, Bool.true_eq_false, Bool.false_eq_true, Option.map_some, Option.map_none, Option.bind_some, Option.bind_none, tSq, sSet2, seqOf_fl, seqOf_tup, seqOf_ti, L1_count_ready, mm, mn]), ih, lo]
theorem sl_dpf (fs : List (Int × Int)) (p : Nat) (mk : List D → Sto → R D) (S : Sto) : dSl mk (.tup (fs.map dp)) (some (p : Int)) none S = .ok (.tup ((fs.drop p).map dp)) S := by
  show R.ok (D.tup (cut (fs.map dp) (some (p : Int)) none)) S = _
  rw [cut_from, List.map_drop]
theorem sl_dpt (fs : List (Int × Int)) (p : Nat) (mk : List D → Sto → R D) (S : Sto) : dSl mk (.tup (fs.map dp)) none (some (p : Int)) S = .ok (.tup ((fs.take p).map dp)) S := by
  show R.ok (D.tup (cut (fs.map dp) none (some (p : Int)))) S = _
  rw [cut_to, List.map_take]
theorem add_tup (a b : List D) (h : a.length + b.length ≤ 10 ^ 6) (S : Sto) : dAdd (.tup a) (.tup b) S = .ok (.tup (a ++ b)) S := by
  show ifp (a.length + b.length ≤ sizeLine) (R.ok (D.tup (a ++ b)) S) .stuck = _
  exact ifp_pos (Nat.le_trans h (by decide))
theorem count_ready_ok (fs : List (Int × Int)) (hl : fs.length ≤ 100) (hr : ∀ e ∈ fs, Run e) (i : Nat) {e : Int × Int} (he : fs[i]? = some e) (S : Sto) : F_count_ready [.tup (fs.map dp), .int i] S = .ok (.int (max 0 (lo e.2 e.2 (fs.drop (i + 1) ++ fs.take i)))) S := by
  have hi : i < fs.length := (List.getElem?_eq_some_iff.mp he).1
  have hst : startD 6 [D.tup (fs.map dp), D.int i] = [some (.tup (fs.map dp)), some (.int i), none, none, none, none] := rfl
  have ix : ∀ S, dIx (.tup (fs.map dp)) (.int i) S = .ok (dp e) S := fun S => dIx_tup (by
    rw [atI_nn (by omega) (by simp; omega), Int.toNat_natCast, List.getElem?_map, he]; rfl)
  have i1 : ∀ e S, dIx (dp e) (.int 1) S = .ok (.int e.2) S := fun e S => rfl
  have s1 := sl_dpf fs (i + 1) mkFl
  rw [Int.natCast_add, Int.natCast_one] at s1
  have s2 := sl_dpt fs i mkFl
  have ad : ∀ S, dAdd (.tup ((fs.drop (i + 1)).map dp)) (.tup ((fs.take i).map dp)) S = .ok (.tup ((fs.drop (i + 1) ++ fs.take i).map dp)) S := fun S => by
    rw [List.map_append]
    exact add_tup _ _ (by simp; omega) S
  obtain ⟨y2, y4, y5, lp⟩ := ready_loop (some (.tup (fs.map dp))) (some (.int i)) S (fs.drop (i + 1) ++ fs.take i) e.2 e.2 none none (by
    intro x hx
    rcases List.mem_append.mp hx with hx | hx
    · exact hr x (List.mem_of_mem_drop hx)
    · exact hr x (List.mem_of_mem_take hx))
  have mx : ∀ a S, bMax [.int 0, .int a] S = .ok (.int (max 0 a)) S := fun a S => rfl
  refine fnC_rt rfl ?_ rfl
  rw [hst]
  unfold B_count_ready
  simp only [eVar, eC, eOp, eT, eAnd, eOr, eNot, eIf, eAndV, eOrV, eNotV, eCall, aNil, aCons, aStar, sOf, eTup, eFl, eLoc, eSl, oNone, oSome, iOf, eNeg, eChain, eMt, bOf, eDict0, eRev, eListRg, iZipD, sRaise1, sRaise0, eCallV, List.lookup, R.bind_ok, R.bind_er, R.bind_stuck, R.toS_ok, R.toS_er, R.toS_stuck, SR.next_nx, SR.next_rt, SR.next_er, SR.next_bk, SR.next_ct, SR.next_stuck, sNil, sSeq, sBrk, sCnt, sExp, sRet, sRetN, sIf, sSet, sAsg, sAug, sPar2, sPar3, tN, DL.tTup, DL.tNil, DL.tCons, DL.tSub, iSeq, srcOf_tup, srcOf_fl, srcOf_kl, srcOf_ti, iRange1, iRange2, sFor, startD, List.map_cons, List.map_nil, List.length_cons, List.length_nil, List.replicate, List.cons_append, List.nil_append, List.getElem?_cons_zero, List.getElem?_cons_succ, List.set_cons_zero, List.set_cons_succ, dSub_int, dFdiv_int, dMod_int, dLt_int, dLe_int, dGt_int, dGe_int, dAddI_int, dSubI_int, dIsN_non, isN, dAdd_int, ll0, ll1, ll2, ll3, ll4, ll5, ll6, ll7, ll8, ll9, ll10, ll11, ll12, ll13, ll14, ll15, ll16, ll17, ll18, ll19, ll20, ll21, ll22, ll23, ll24, ll25, ll26, ll27, ll28, ll29, ll30, ll31, ll32, ll33, ll34, ll35, ll36, ll37, ll38, ll39, ll40, Nat.reduceSub, Nat.reduceAdd, Nat.reduceEqDiff, if_true, if_false, ifp_t, ifp_f, reduceIte, Bool.true_eq_false, Bool.false_eq_true, Option.map_some, Option.map_none, Option.bind_some, Option.bind_none, tSq, sSet2, seqOf_fl, seqOf_tup, seqOf_ti, ix, i1, s1, s2, ad, lp, mx]
theorem py_dps (rs : List (Int × Int)) : pyL (rs.map dp) = some (rs.map fun e => PyData.tuple [.int e.1, .int e.2]) := by
  induction rs with
  | nil => rfl
  | cons e rs ih => rw [List.map_cons, pyL, ih]; rfl
theorem lay_dps (rs : List (Int × Int)) : PyData.canLayAll0 (rs.map fun e => PyData.tuple [.int e.1, .int e.2]) = true := by
  induction rs with
  | nil => rfl
  | cons e rs ih => rw [List.map_cons, PyData.canLayAll0, ih]; rfl
theorem depA_dps (rs : List (Int × Int)) : PyData.depthAll (rs.map fun e => PyData.tuple [.int e.1, .int e.2]) ≤ 1 := by
  induction rs with
  | nil => exact Nat.zero_le _
  | cons e rs ih => rw [List.map_cons]; simp [PyData.depthAll, PyData.depth] at ih ⊢; omega
theorem shaped_dps (rs : List (Int × Int)) : SeqAt.shaped (.list (rs.map fun e => PyData.tuple [.int e.1, .int e.2])) = true := by
  have := depA_dps rs
  simp [SeqAt.shaped, PyData.canLay0, lay_dps, PyData.depth]
  omega
theorem shaped_dpT (rs : List (Int × Int)) : SeqAt.shaped (.tuple (rs.map fun e => PyData.tuple [.int e.1, .int e.2])) = true := by
  have := depA_dps rs
  simp [SeqAt.shaped, PyData.canLay0, lay_dps, PyData.depth]
  omega
theorem ne_empty {S : Sto} {n : Nat} {rs : List (Int × Int)} (h : getQ S n = some (rs.map dp)) : dEq true (.loc n) (.fl []) S = .ok (.bl (!rs.isEmpty)) S := by
  have h1 : pyS S (.loc n) = some (.list (rs.map fun e => PyData.tuple [.int e.1, .int e.2])) := by
    show (getQ S n).bind (fun ds => (pyL ds).map PyData.list) = _
    rw [h, Option.bind_some, py_dps]; rfl
  have h2 : pyS S (.fl []) = some (.list []) := rfl
  show dEqP true (.loc n) (.fl []) S = _
  rw [dEqP_py h1 h2 (shaped_dps _) shaped_nilL]
  cases rs with
  | nil => rfl
  | cons e rs => simp [PyData.eqv, PyData.eqvAll]
theorem at_last {α : Type} (xs : List α) (x : α) : atI (xs ++ [x]) (-1) = some x := by
  unfold atI ixN
  rw [if_neg (by omega), if_pos (by simp; omega)]
  simp
  have : (-1 + ((xs.length : Int) + 1)).toNat = xs.length := by omega
  rw [this]
  simp
theorem set_last {S : Sto} {n : Nat} {xs : List D} {x v : D} (h : getL S n = some (xs ++ [x])) : dSet (.loc n) (.int (-1)) v S = some (S.set n (.lst (xs ++ [v]))) := by
  show (getL S n).bind (fun ds => (ixN ds.length (-1)).map fun j => S.set n (.lst (ds.set j v))) = _
  rw [h, Option.bind_some]
  have : ixN (xs ++ [x]).length (-1) = some xs.length := by
    unfold ixN
    rw [if_neg (by omega), if_pos (by simp; omega)]
    simp
    omega
  rw [this, Option.map_some]
  congr 3
  simp
/-- one range more, on the list of the store -/
theorem addR_walk {j : Nat} {S : Sto} {f : List (Int × Int)} (hf : f.length < 1000) (s m : Int) (ρ : Ev) (h1 : ρ[1]? = some (some (.loc S.length))) (h2 : ρ[2]? = some (some (.int s))) (h6 : ρ[6]? = some (some (.int m))) :
    sIf (eAnd (eT (eOp dGt (eVar 6) (eC (.int 0)))) (eAnd (eT (eOp (dEq true) (eVar 1) (eFl aNil))) (eT (eOp (dEq false) (eOp dIx (eOp dIx (eVar 1) (eNeg (eC (.int 1)))) (eC (.int 1))) (eOp dSub (eVar 2) (eC (.int 1))))))) (sAsg (eTup (aCons (eOp dIx (eOp dIx (eVar 1) (eNeg (eC (.int 1)))) (eC (.int 0))) (aCons (eOp dSub (eOp dAdd (eVar 2) (eVar 6)) (eC (.int 1))) aNil))) (tSub (eVar 1) (eNeg (eC (.int 1))))) (sIf (eT (eOp dGt (eVar 6) (eC (.int 0)))) (sExp (eMt isLst mAppend (eVar 1) (aCons (eTup (aCons (eVar 2) (aCons (eOp dSub (eOp dAdd (eVar 2) (eVar 6)) (eC (.int 1))) aNil))) aNil))) sNil) ρ (S ++ [.lst (f.map dp)]) = .nx ρ (S ++ [.lst ((addR f s m).map dp)]) := by
  have em := ne_empty (S := S ++ [.lst (f.map dp)]) (n := S.length) (rs := f) (getQ_end S _)
  have il := isLst_end S (f.map dp)
  have ap : mAppend (.loc S.length) [.tup [.int s, .int (s + m - 1)]] (S ++ [.lst (f.map dp)]) = .ok .non (S ++ [.lst ((f ++ [(s, s + m - 1)]).map dp)]) := by
    have := append_end S (f.map dp) (dp (s, s + m - 1)) (by rw [List.length_map]; exact Nat.lt_of_lt_of_le hf (by decide))
    rw [List.map_append]
    exact this
  by_cases hm : 0 < m
  · rcases List.eq_nil_or_concat f with rfl | ⟨g, q, rfl⟩
    · have ea : addR [] s m = [] ++ [(s, s + m - 1)] := by unfold addR; rw [if_pos hm]; rfl
      rw [ea]
      simp only [List.isEmpty_nil, Bool.not_true] at em
      rw [List.map_nil] at em il ap ⊢
      simp only [eVar, eC, eOp, eT, eAnd, eOr, eNot, eIf, eAndV, eOrV, eNotV, eCall, aNil, aCons, aStar, sOf, eTup, eFl, eLoc, eSl, oNone, oSome, iOf, eNeg, eChain, eMt, bOf, eDict0, eRev, eListRg, iZipD, sRaise1, sRaise0, eCallV, List.lookup, R.bind_ok, R.bind_er, R.bind_stuck, R.toS_ok, R.toS_er, R.toS_stuck, SR.next_nx, SR.next_rt, SR.next_er, SR.next_bk, SR.next_ct, SR.next_stuck, sNil, sSeq, sBrk, sCnt, sExp, sRet, sRetN, sIf, sSet, sAsg, sAug, sPar2, sPar3, tN, DL.tTup, DL.tNil, DL.tCons, DL.tSub, iSeq, srcOf_tup, srcOf_fl, srcOf_kl, srcOf_ti, iRange1, iRange2, sFor, startD, List.map_cons, List.map_nil, List.length_cons, List.length_nil, List.replicate, List.cons_append, List.nil_append, List.getElem?_cons_zero, List.getElem?_cons_succ, List.set_cons_zero, List.set_cons_succ, dSub_int, dFdiv_int, dMod_int, dLt_int, dLe_int, dGt_int, dGe_int, dAddI_int, dSubI_int, dIsN_non, isN, dAdd_int, ll0, ll1, ll2, ll3, ll4, ll5, ll6, ll7, ll8, ll9, ll10, ll11, ll12, ll13, ll14, ll15, ll16, ll17, ll18, ll19, ll20, ll21, ll22, ll23, ll24, ll25, ll26, ll27, ll28, ll29, ll30, ll31, ll32, ll33, ll34, ll35, ll36, ll37, ll38, ll39, ll40, Nat.reduceSub, Nat.reduceAdd, Nat.reduceEqDiff, if_true, if_false, ifp_t, ifp_f, reduceIte, Bool.true_eq_false, Bool.false_eq_true, Option.map_some, Option.map_none, Option.bind_some, Option.bind_none, tSq, sSet2, seqOf_fl, seqOf_tup, seqOf_ti, h1, h2, h6, hm, decide_true, em, il, ap]
    · rw [List.concat_eq_append] at *
      have hne : (!(g ++ [q]).isEmpty) = true := by simp
      rw [hne] at em
      have ix : dIx (.loc S.length) (.int (-1)) (S ++ [.lst ((g ++ [q]).map dp)]) = .ok (dp q) (S ++ [.lst ((g ++ [q]).map dp)]) := dIx_loc (getQ_end S _) (by rw [List.map_append]; exact at_last _ _)
      have i1 : ∀ e S, dIx (dp e) (.int 1) S = .ok (.int e.2) S := fun e S => rfl
      have i0 : ∀ e S, dIx (dp e) (.int 0) S = .ok (.int e.1) S := fun e S => rfl
      by_cases hq : q.2 = s - 1
      · have hb : (q.2 == s - 1) = true := by simpa using hq
        have ea : addR (g ++ [q]) s m = g ++ [(q.1, s + m - 1)] := by
          unfold addR
          rw [if_pos hm, List.getLast?_concat]
          dsimp only
          rw [if_pos hq, List.dropLast_concat]
        have st : dSet (.loc S.length) (.int (-1)) (.tup [.int q.1, .int (s + m - 1)]) (S ++ [.lst ((g ++ [q]).map dp)]) = some (S ++ [.lst ((g ++ [(q.1, s + m - 1)]).map dp)]) := by
          rw [set_last (xs := g.map dp) (x := dp q) (by rw [getL_end, List.map_append]; rfl), set_end, List.map_append]
          rfl
        rw [ea]
        generalize S ++ [.lst ((g ++ [(q.1, s + m - 1)]).map dp)] = Se at st
        simp only [eVar, eC, eOp, eT, eAnd, eOr, eNot, eIf, eAndV, eOrV, eNotV, eCall, aNil, aCons, aStar, sOf, eTup, eFl, eLoc, eSl, oNone, oSome, iOf, eNeg, eChain, eMt, bOf, eDict0, eRev, eListRg, iZipD, sRaise1, sRaise0, eCallV, List.lookup, R.bind_ok, R.bind_er, R.bind_stuck, R.toS_ok, R.toS_er, R.toS_stuck, SR.next_nx, SR.next_rt, SR.next_er, SR.next_bk, SR.next_ct, SR.next_stuck, sNil, sSeq, sBrk, sCnt, sExp, sRet, sRetN, sIf, sSet, sAsg, sAug, sPar2, sPar3, tN, DL.tTup, DL.tNil, DL.tCons, DL.tSub, iSeq, srcOf_tup, srcOf_fl, srcOf_kl, srcOf_ti, iRange1, iRange2, sFor, startD, List.map_cons, List.map_nil, List.length_cons, List.length_nil, List.replicate, List.cons_append, List.nil_append, List.getElem?_cons_zero, List.getElem?_cons_succ, List.set_cons_zero, List.set_cons_succ, dSub_int, dFdiv_int, dMod_int, dLt_int, dLe_int, dGt_int, dGe_int, dAddI_int, dSubI_int, dIsN_non, isN, dAdd_int, ll0, ll1, ll2, ll3, ll4, ll5, ll6, ll7, ll8, ll9, ll10, ll11, ll12, ll13, ll14, ll15, ll16, ll17, ll18, ll19, ll20, ll21, ll22, ll23, ll24, ll25, ll26, ll27, ll28, ll29, ll30, ll31, ll32, ll33, ll34, ll35, ll36, ll37, ll38, ll39, ll40, Nat.reduceSub, Nat.reduceAdd, Nat.reduceEqDiff, if_true, if_false, ifp_t, ifp_f, reduceIte, Bool.true_eq_false, Bool.false_eq_true, Option.map_some, Option.map_none, Option.bind_some, Option.bind_none, tSq, sSet2, seqOf_fl, seqOf_tup, seqOf_ti, h1, h2, h6, hm, decide_true, em, ix, i1, dEq_int, hb, i0, st]
      · have hb : (q.2 == s - 1) = false := by simpa using hq
        have ea : addR (g ++ [q]) s m = g ++ [q] ++ [(s, s + m - 1)] := by
          unfold addR
          rw [if_pos hm, List.getLast?_concat]
          dsimp only
          rw [if_neg hq]
        rw [ea]
        simp only [eVar, eC, eOp, eT, eAnd, eOr, eNot, eIf, eAndV, eOrV, eNotV, eCall, aNil, aCons, aStar, sOf, eTup, eFl, eLoc, eSl, oNone, oSome, iOf, eNeg, eChain, eMt, bOf, eDict0, eRev, eListRg, iZipD, sRaise1, sRaise0, eCallV, List.lookup, R.bind_ok, R.bind_er, R.bind_stuck, R.toS_ok, R.toS_er, R.toS_stuck, SR.next_nx, SR.next_rt, SR.next_er, SR.next_bk, SR.next_ct, SR.next_stuck, sNil, sSeq, sBrk, sCnt, sExp, sRet, sRetN, sIf, sSet, sAsg, sAug, sPar2, sPar3, tN, DL.tTup, DL.tNil, DL.tCons, DL.tSub, iSeq, srcOf_tup, srcOf_fl, srcOf_kl, srcOf_ti, iRange1, iRange2, sFor, startD, List.map_cons, List.map_nil, List.length_cons, List.length_nil, List.replicate, List.cons_append, List.nil_append, List.getElem?_cons_zero, List.getElem?_cons_succ, List.set_cons_zero, List.set_cons_succ, dSub_int, dFdiv_int, dMod_int, dLt_int, dLe_int, dGt_int, dGe_int, dAddI_int, dSubI_int, dIsN_non, isN, dAdd_int, ll0, ll1, ll2, ll3, ll4, ll5, ll6, ll7, ll8, ll9, ll10, ll11, ll12, ll13, ll14, ll15, ll16, ll17, ll18, ll19, ll20, ll21, ll22, ll23, ll24, ll25, ll26, ll27, ll28, ll29, ll30, ll31, ll32, ll33, ll34, ll35, ll36, ll37, ll38, ll39, ll40, Nat.reduceSub, Nat.reduceAdd, Nat.reduceEqDiff, if_true, if_false, ifp_t, ifp_f, reduceIte, Bool.true_eq_false, Bool.false_eq_true, Option.map_some, Option.map_none, Option.bind_some, Option.bind_none, tSq, sSet2, seqOf_fl, seqOf_tup, seqOf_ti, h1, h2, h6, hm, decide_true, em, ix, i1, dEq_int, hb, il, ap]
  · have ea : addR f s m = f := by unfold addR; rw [if_neg hm]
    rw [ea]
    simp only [eVar, eC, eOp, eT, eAnd, eOr, eNot, eIf, eAndV, eOrV, eNotV, eCall, aNil, aCons, aStar, sOf, eTup, eFl, eLoc, eSl, oNone, oSome, iOf, eNeg, eChain, eMt, bOf, eDict0, eRev, eListRg, iZipD, sRaise1, sRaise0, eCallV, List.lookup, R.bind_ok, R.bind_er, R.bind_stuck, R.toS_ok, R.toS_er, R.toS_stuck, SR.next_nx, SR.next_rt, SR.next_er, SR.next_bk, SR.next_ct, SR.next_stuck, sNil, sSeq, sBrk, sCnt, sExp, sRet, sRetN, sIf, sSet, sAsg, sAug, sPar2, sPar3, tN, DL.tTup, DL.tNil, DL.tCons, DL.tSub, iSeq, srcOf_tup, srcOf_fl, srcOf_kl, srcOf_ti, iRange1, iRange2, sFor, startD, List.map_cons, List.map_nil, List.length_cons, List.length_nil, List.replicate, List.cons_append, List.nil_append, List.getElem?_cons_zero, List.getElem?_cons_succ, List.set_cons_zero, List.set_cons_succ, dSub_int, dFdiv_int, dMod_int, dLt_int, dLe_int, dGt_int, dGe_int, dAddI_int, dSubI_int, dIsN_non, isN, dAdd_int, ll0, ll1, ll2, ll3, ll4, ll5, ll6, ll7, ll8, ll9, ll10, ll11, ll12, ll13, ll14, ll15, ll16, ll17, ll18, ll19, ll20, ll21, ll22, ll23, ll24, ll25, ll26, ll27, ll28, ll29, ll30, ll31, ll32, ll33, ll34, ll35, ll36, ll37, ll38, ll39, ll40, Nat.reduceSub, Nat.reduceAdd, Nat.reduceEqDiff, if_true, if_false, ifp_t, ifp_f, reduceIte, Bool.true_eq_false, Bool.false_eq_true, Option.map_some, Option.map_none, Option.bind_some, Option.bind_none, tSq, sSet2, seqOf_fl, seqOf_tup, seqOf_ti, h1, h2, h6, hm, decide_false]
theorem addR_len (f : List (Int × Int)) (s m : Int) : (addR f s m).length ≤ f.length + 1 := by
  unfold addR
  split
  · cases f.getLast? with
    | none => simp
    | some q =>
      dsimp only
      split
      · simp
      · simp
  · omega
theorem begin_loop (fs : List (Int × Int)) (hl : fs.length ≤ 100) (hr : ∀ e ∈ fs, Run e) (S : Sto) : ∀ (r : List (Int × Int)) (k : Nat) (s : Int) (f : List (Int × Int)) (x3 x4 x5 x6 : Option D), (∀ j, r[j]? = fs[k + j]?) → (∀ e ∈ r, Run e) → f.length + r.length < 1000 →
    ∃ y2 y3 y4 y5 y6, forD yes (tTup 2 (tCons (tN 3) (tCons (tTup 2 (tCons (tN 4) (tCons (tN 5) tNil))) tNil))) L1_far_beginnings sNil (enumD k (r.map dp)) [some (.tup (fs.map dp)), some (.loc S.length), some (.int s), x3, x4, x5, x6] (S ++ [.lst (f.map dp)]) = .nx [some (.tup (fs.map dp)), some (.loc S.length), y2, y3, y4, y5, y6] (S ++ [.lst ((fbL fs k s f r).map dp)])
  | [], k, s, f, x3, x4, x5, x6, _, _, _ => ⟨some (.int s), x3, x4, x5, x6, by rw [List.map_nil, enumD, forD_nil trivial]; rfl⟩
  | e :: r, k, s, f, x3, x4, x5, x6, hg, hrr, hf => by
    have he : fs[k]? = some e := by have := hg 0; simpa using this.symm
    have hre := hrr e List.mem_cons_self
    rw [List.length_cons] at hf
    have al := addR_len f s (mny fs k)
    obtain ⟨y2, y3, y4, y5, y6, ih⟩ := begin_loop fs hl hr S r (k + 1) (s + e.2) (addR f s (mny fs k)) (some (.int k)) (some (.int e.1)) (some (.int e.2)) (some (.int (mny fs k))) (fun j => by
      have := hg (j + 1)
      rw [List.getElem?_cons_succ] at this
      rw [this]; congr 1; omega) (fun x hx => hrr x (List.mem_cons_of_mem _ hx)) (by omega)
    refine ⟨y2, y3, y4, y5, y6, ?_⟩
    rw [fbL, List.map_cons, enumD, forD_cons (ρ1 := [some (.tup (fs.map dp)), some (.loc S.length), some (.int s), some (.int k), some (.int e.1), some (.int e.2), x6]) (S1 := S ++ [.lst (f.map dp)]) (ρ2 := [some (.tup (fs.map dp)), some (.loc S.length), some (.int (s + e.2)), some (.int k), some (.int e.1), some (.int e.2), some (.int (mny fs k))]) (S2 := S ++ [.lst ((addR f s (mny fs k)).map dp)]) trivial rfl ?_, ih]
    have cr := count_ready_ok fs hl hr k he
    have wk := addR_walk (j := 0) (S := S) (f := f) (by omega) s (mny fs k) [some (.tup (fs.map dp)), some (.loc S.length), some (.int s), some (.int k), some (.int e.1), some (.int e.2), some (.int (mny fs k))] rfl rfl rfl
    have s6 : sSet 6 (eIf (eT (eOp (dEq false) (eVar 4) (eC (.int 0)))) (eCall F_count_ready (aCons (eVar 0) (aCons (eVar 3) aNil))) (eC (.int 0))) [some (.tup (fs.map dp)), some (.loc S.length), some (.int s), some (.int k), some (.int e.1), some (.int e.2), x6] (S ++ [.lst (f.map dp)]) = .nx [some (.tup (fs.map dp)), some (.loc S.length), some (.int s), some (.int k), some (.int e.1), some (.int e.2), some (.int (mny fs k))] (S ++ [.lst (f.map dp)]) := by
      unfold mny
      rw [he]
      dsimp only
      by_cases h0 : e.1 = 0
      · have hb : (e.1 == 0) = true := by simpa using h0
        rw [if_pos h0]
        simp only [eVar, eC, eOp, eT, eAnd, eOr, eNot, eIf, eAndV, eOrV, eNotV, eCall, aNil, aCons, aStar, sOf, eTup, eFl, eLoc, eSl, oNone, oSome, iOf, eNeg, eChain, eMt, bOf, eDict0, eRev, eListRg, iZipD, sRaise1, sRaise0, eCallV, List.lookup, R.bind_ok, R.bind_er, R.bind_stuck, R.toS_ok, R.toS_er, R.toS_stuck, SR.next_nx, SR.next_rt, SR.next_er, SR.next_bk, SR.next_ct, SR.next_stuck, sNil, sSeq, sBrk, sCnt, sExp, sRet, sRetN, sIf, sSet, sAsg, sAug, sPar2, sPar3, tN, DL.tTup, DL.tNil, DL.tCons, DL.tSub, iSeq, srcOf_tup, srcOf_fl, srcOf_kl, srcOf_ti, iRange1, iRange2, sFor, startD, List.map_cons, List.map_nil, List.length_cons, List.length_nil, List.replicate, List.cons_append, List.nil_append, List.getElem?_cons_zero, List.getElem?_cons_succ, List.set_cons_zero, List.set_cons_succ, dSub_int, dFdiv_int, dMod_int, dLt_int, dLe_int, dGt_int, dGe_int, dAddI_int, dSubI_int, dIsN_non, isN, dAdd_int, ll0, ll1, ll2, ll3, ll4, ll5, ll6, ll7, ll8, ll9, ll10, ll11, ll12, ll13, ll14, ll15, ll16, ll17, ll18, ll19, ll20, ll21, ll22, ll23, ll24, ll25, ll26, ll27, ll28, ll29, ll30, ll31, ll32, ll33, ll34, ll35, ll36, ll37, ll38, ll39, ll40, Nat.reduceSub, Nat.reduceAdd, Nat.reduceEqDiff, if_true, if_false, ifp_t, ifp_f, reduceIte, Bool.true_eq_false, Bool.false_eq_true, Option.map_some, Option.map_none, Option.bind_some, Option.bind_none, tSq, sSet2, seqOf_fl, seqOf_tup, seqOf_ti, dEq_int, hb, cr]
      · have hb : (e.1 == 0) = false := by simpa using h0
        rw [if_neg h0]
        simp only [eVar, eC, eOp, eT, eAnd, eOr, eNot, eIf, eAndV, eOrV, eNotV, eCall, aNil, aCons, aStar, sOf, eTup, eFl, eLoc, eSl, oNone, oSome, iOf, eNeg, eChain, eMt, bOf, eDict0, eRev, eListRg, iZipD, sRaise1, sRaise0, eCallV, List.lookup, R.bind_ok, R.bind_er, R.bind_stuck, R.toS_ok, R.toS_er, R.toS_stuck, SR.next_nx, SR.next_rt, SR.next_er, SR.next_bk, SR.next_ct, SR.next_stuck, sNil, sSeq, sBrk, sCnt, sExp, sRet, sRetN, sIf, sSet, sAsg, sAug, sPar2, sPar3, tN, DL.tTup, DL.tNil, DL.tCons, DL.tSub, iSeq, srcOf_tup, srcOf_fl, srcOf_kl, srcOf_ti, iRange1, iRange2, sFor, startD, List.map_cons, List.map_nil, List.length_cons, List.length_nil, List.replicate, List.cons_append, List.nil_append, List.getElem?_cons_zero, List.getElem?_cons_succ, List.set_cons_zero, List.set_cons_succ, dSub_int, dFdiv_int, dMod_int, dLt_int, dLe_int, dGt_int, dGe_int, dAddI_int, dSubI_int, dIsN_non, isN, dAdd_int, ll0, ll1, ll2, ll3, ll4, ll5, ll6, ll7, ll8, ll9, ll10, ll11, ll12, ll13, ll14, ll15, ll16, ll17, ll18, ll19, ll20, ll21, ll22, ll23, ll24, ll25, ll26, ll27, ll28, ll29, ll30, ll31, ll32, ll33, ll34, ll35, ll36, ll37, ll38, ll39, ll40, Nat.reduceSub, Nat.reduceAdd, Nat.reduceEqDiff, if_true, if_false, ifp_t, ifp_f, reduceIte, Bool.true_eq_false, Bool.false_eq_true, Option.map_some, Option.map_none, Option.bind_some, Option.bind_none, tSq, sSet2, seqOf_fl, seqOf_tup, seqOf_ti, dEq_int, hb]
    unfold L1_far_beginnings
    rw [sSeq, s6, SR.next_nx, sSeq, wk, SR.next_nx]
    simp only [eVar, eC, eOp, eT, eAnd, eOr, eNot, eIf, eAndV, eOrV, eNotV, eCall, aNil, aCons, aStar, sOf, eTup, eFl, eLoc, eSl, oNone, oSome, iOf, eNeg, eChain, eMt, bOf, eDict0, eRev, eListRg, iZipD, sRaise1, sRaise0, eCallV, List.lookup, R.bind_ok, R.bind_er, R.bind_stuck, R.toS_ok, R.toS_er, R.toS_stuck, SR.next_nx, SR.next_rt, SR.next_er, SR.next_bk, SR.next_ct, SR.next_stuck, sNil, sSeq, sBrk, sCnt, sExp, sRet, sRetN, sIf, sSet, sAsg, sAug, sPar2, sPar3, tN, DL.tTup, DL.tNil, DL.tCons, DL.tSub, iSeq, srcOf_tup, srcOf_fl, srcOf_kl, srcOf_ti, iRange1, iRange2, sFor, startD, List.map_cons, List.map_nil, List.length_cons, List.length_nil, List.replicate, List.cons_append, List.nil_append, List.getElem?_cons_zero, List.getElem?_cons_succ, List.set_cons_zero, List.set_cons_succ, dSub_int, dFdiv_int, dMod_int, dLt_int, dLe_int, dGt_int, dGe_int, dAddI_int, dSubI_int, dIsN_non, isN, dAdd_int, ll0, ll1, ll2, ll3, ll4, ll5, ll6, ll7, ll8, ll9, ll10, ll11, ll12, ll13, ll14, ll15, ll16, ll17, ll18, ll19, ll20, ll21, ll22, ll23, ll24, ll25, ll26, ll27, ll28, ll29, ll30, ll31, ll32, ll33, ll34, ll35, ll36, ll37, ll38, ll39, ll40, Nat.reduceSub, Nat.reduceAdd, Nat.reduceEqDiff, if_true, if_false, ifp_t, ifp_f, reduceIte, Bool.true_eq_false, Bool.false_eq_true, Option.map_some, Option.map_none, Option.bind_some, Option.bind_none, tSq, sSet2, seqOf_fl, seqOf_tup, seqOf_ti]
theorem fb_ok (fs : List (Int × Int)) (hl : fs.length ≤ 100) (hr : ∀ e ∈ fs, Run e) (S : Sto) : F_far_beginnings [.tup (fs.map dp)] S = .ok (.tup ((fbR fs).map dp)) S := by
  have hst : startD 7 [D.tup (fs.map dp)] = [some (.tup (fs.map dp)), none, none, none, none, none, none] := rfl
  obtain ⟨y2, y3, y4, y5, y6, lp⟩ := begin_loop fs hl hr S fs 0 0 [] none none none none (fun j => by rw [Nat.zero_add]) hr (by simp; omega)
  have tp : bTuple [.loc S.length] (S ++ [.lst ((fbL fs 0 0 [] fs).map dp)]) = .ok (.tup ((fbL fs 0 0 [] fs).map dp)) (S ++ [.lst ((fbL fs 0 0 [] fs).map dp)]) := bTuple_loc (getQ_end S _)
  have src : ∀ S, (srcOf (.tup (fs.map dp)) S).bind (fun q S2 => R.ok (enumD 0 q.1, q.2) S2) = .ok (enumD 0 (fs.map dp), yes) S := fun S => rfl
  refine fnC_cut rfl (S' := S ++ [.lst ((fbL fs 0 0 [] fs).map dp)]) ?_ rfl (by show lowL _ _ = true; exact lowL_dps _ _)
  rw [hst]
  unfold B_far_beginnings
  rw [List.map_nil] at lp
  simp only [eVar, eC, eOp, eT, eAnd, eOr, eNot, eIf, eAndV, eOrV, eNotV, eCall, aNil, aCons, aStar, sOf, eTup, eFl, eLoc, eSl, oNone, oSome, iOf, eNeg, eChain, eMt, bOf, eDict0, eRev, eListRg, iZipD, sRaise1, sRaise0, eCallV, List.lookup, R.bind_ok, R.bind_er, R.bind_stuck, R.toS_ok, R.toS_er, R.toS_stuck, SR.next_nx, SR.next_rt, SR.next_er, SR.next_bk, SR.next_ct, SR.next_stuck, sNil, sSeq, sBrk, sCnt, sExp, sRet, sRetN, sIf, sSet, sAsg, sAug, sPar2, sPar3, tN, DL.tTup, DL.tNil, DL.tCons, DL.tSub, iSeq, srcOf_tup, srcOf_fl, srcOf_kl, srcOf_ti, iRange1, iRange2, sFor, startD, List.map_cons, List.map_nil, List.length_cons, List.length_nil, List.replicate, List.cons_append, List.nil_append, List.getElem?_cons_zero, List.getElem?_cons_succ, List.set_cons_zero, List.set_cons_succ, dSub_int, dFdiv_int, dMod_int, dLt_int, dLe_int, dGt_int, dGe_int, dAddI_int, dSubI_int, dIsN_non, isN, dAdd_int, ll0, ll1, ll2, ll3, ll4, ll5, ll6, ll7, ll8, ll9, ll10, ll11, ll12, ll13, ll14, ll15, ll16, ll17, ll18, ll19, ll20, ll21, ll22, ll23, ll24, ll25, ll26, ll27, ll28, ll29, ll30, ll31, ll32, ll33, ll34, ll35, ll36, ll37, ll38, ll39, ll40, Nat.reduceSub, Nat.reduceAdd, Nat.reduceEqDiff, if_true, if_false, ifp_t, ifp_f, reduceIte, Bool.true_eq_false, Bool.false_eq_true, Option.map_some, Option.map_none, Option.bind_some, Option.bind_none, tSq, sSet2, seqOf_fl, seqOf_tup, seqOf_ti, iEnumD, src, lp, tp]
  rfl
end DL

/-! Ranges of places: what they cover. -/
namespace DL
open PySem PySem.Spec L2
open PyProof.Rows hiding St
def spr (e : Int × Int) : List Int := (List.range (e.2 - e.1 + 1).toNat).map fun (k : Nat) => e.1 + (k : Int)
theorem mem_spr {e : Int × Int} {x : Int} : x ∈ spr e ↔ e.1 ≤ x ∧ x ≤ e.2 := by
  unfold spr
  rw [List.mem_map]
  constructor
  · rintro ⟨k, hk, rfl⟩
    have := List.mem_range.mp hk
    omega
  · rintro ⟨h1, h2⟩
    exact ⟨(x - e.1).toNat, List.mem_range.mpr (by omega), by omega⟩
theorem spr_len (e : Int × Int) : (spr e).length = (e.2 - e.1 + 1).toNat := by unfold spr; simp
theorem spr_next (a b : Int) (h : a ≤ b) : spr (a, b + 1) = spr (a, b) ++ [b + 1] := by
  unfold spr
  have e : (b + 1 - a + 1).toNat = (b - a + 1).toNat + 1 := by omega
  show (List.range (b + 1 - a + 1).toNat).map _ = (List.range (b - a + 1).toNat).map _ ++ _
  rw [e, List.range_succ, List.map_append]
  congr 1
  simp
  omega
structure Rgs (f : List (Int × Int)) (ps : List Int) : Prop where
  sp : f.flatMap spr = ps
  le : ∀ e ∈ f, e.1 ≤ e.2
  gap : f.Pairwise fun a b => a.2 + 2 ≤ b.1
theorem Rgs.mem {f : List (Int × Int)} {ps : List Int} (h : Rgs f ps) {x : Int} : x ∈ ps ↔ ∃ e ∈ f, e.1 ≤ x ∧ x ≤ e.2 := by
  rw [← h.sp, List.mem_flatMap]
  simp only [mem_spr]
theorem rgs_add {f : List (Int × Int)} {ps : List Int} (h : Rgs f ps) (p : Int) (hp : ∀ x ∈ ps, x < p) : Rgs (addR f p 1) (ps ++ [p]) := by
  have one : spr (p, p) = [p] := by unfold spr; simp
  have e1 : p + 1 - 1 = p := by omega
  rcases List.eq_nil_or_concat f with rfl | ⟨g, q, rfl⟩
  · have ea : addR [] p 1 = [(p, p)] := by unfold addR; rw [if_pos (by omega), e1]; rfl
    have hps : ps = [] := by rw [← h.sp]; rfl
    rw [ea, hps]
    exact ⟨by simp [one], by simp, by simp⟩
  · rw [List.concat_eq_append] at *
    have hq := h.le q (by simp)
    have hqp : q.2 < p := hp _ (h.mem.mpr ⟨q, by simp, hq, Int.le_refl _⟩)
    obtain ⟨g1, g2, g3⟩ := List.pairwise_append.mp h.gap
    by_cases hc : q.2 = p - 1
    · have ea : addR (g ++ [q]) p 1 = g ++ [(q.1, p)] := by
        unfold addR
        rw [if_pos (by omega), List.getLast?_concat, e1]
        dsimp only
        rw [if_pos hc, List.dropLast_concat]
      rw [ea]
      refine ⟨?_, ?_, ?_⟩
      · have hs := h.sp
        rw [List.flatMap_append] at hs ⊢
        simp only [List.flatMap_cons, List.flatMap_nil, List.append_nil] at hs ⊢
        have hp1 : p = q.2 + 1 := by omega
        have : spr (q.1, p) = spr q ++ [p] := by
          rw [hp1]; exact spr_next q.1 q.2 hq
        rw [this, ← List.append_assoc, hs]
      · intro e he
        rcases List.mem_append.mp he with he | he
        · exact h.le e (by simp [he])
        · rw [List.mem_singleton.mp he]; show q.1 ≤ p; omega
      · refine List.pairwise_append.mpr ⟨g1, by simp, fun a ha b hb => ?_⟩
        rw [List.mem_singleton.mp hb]
        exact g3 a ha q (by simp)
    · have ea : addR (g ++ [q]) p 1 = g ++ [q] ++ [(p, p)] := by
        unfold addR
        rw [if_pos (by omega), List.getLast?_concat, e1]
        dsimp only
        rw [if_neg hc]
      rw [ea]
      refine ⟨?_, ?_, ?_⟩
      · rw [List.flatMap_append, h.sp]
        simp [one]
      · intro e he
        rcases List.mem_append.mp he with he | he
        · exact h.le e he
        · rw [List.mem_singleton.mp he]; exact Int.le_refl _
      · refine List.pairwise_append.mpr ⟨h.gap, by simp, fun a ha b hb => ?_⟩
        rw [List.mem_singleton.mp hb]
        show a.2 + 2 ≤ p
        rcases List.mem_append.mp ha with ha | ha
        · have := g3 a ha q (by simp)
          omega
        · rw [List.mem_singleton.mp ha]; omega
theorem rgs_fold : ∀ (ps : List Nat) (f : List (Int × Int)) (qs : List Int), Rgs f qs → (∀ x ∈ qs, ∀ p ∈ ps, x < (p : Int)) → ps.Pairwise (· < ·) → Rgs (ps.foldl (fun f (p : Nat) => addR f (p : Int) 1) f) (qs ++ ps.map fun (p : Nat) => (p : Int))
  | [], f, qs, h, _, _ => by simpa using h
  | p :: ps, f, qs, h, hx, hp => by
    obtain ⟨h1, h2⟩ := List.pairwise_cons.mp hp
    have := rgs_fold ps (addR f p 1) (qs ++ [(p : Int)]) (rgs_add h p fun x hq => hx x hq p List.mem_cons_self) (by
      intro x hxx q hq
      rcases List.mem_append.mp hxx with hxx | hxx
      · exact hx x hxx q (List.mem_cons_of_mem _ hq)
      · rw [List.mem_singleton.mp hxx]
        have := h1 q hq
        omega) h2
    rw [List.append_assoc] at this
    exact this
theorem rg_rgs {ps : List Nat} (h : ps.Pairwise (· < ·)) : Rgs (rg ps) (ps.map fun (p : Nat) => (p : Int)) := by
  have := rgs_fold ps [] [] ⟨rfl, by simp, by simp⟩ (by simp) h
  rw [List.nil_append] at this
  exact this
theorem Rgs.len {f : List (Int × Int)} {ps : List Int} (h : Rgs f ps) : (f.map fun e => e.2 - e.1 + 1).sum = (ps.length : Int) := by
  obtain ⟨sp, le, gap⟩ := h
  subst sp
  clear gap
  induction f with
  | nil => rfl
  | cons e f ih =>
    have he := le e List.mem_cons_self
    have := ih fun x hx => le x (List.mem_cons_of_mem _ hx)
    rw [List.map_cons, List.sum_cons, List.flatMap_cons, List.length_append, spr_len, Int.natCast_add, this]
    omega
theorem Rgs.llen {f : List (Int × Int)} {ps : List Int} (h : Rgs f ps) : f.length ≤ ps.length := by
  obtain ⟨sp, le, gap⟩ := h
  subst sp
  clear gap
  induction f with
  | nil => simp
  | cons e f ih =>
    have he := le e List.mem_cons_self
    have := ih fun x hx => le x (List.mem_cons_of_mem _ hx)
    rw [List.length_cons, List.flatMap_cons, List.length_append, spr_len]
    omega
theorem Rgs.alone {f : List (Int × Int)} {ps : List Int} (h : Rgs f ps) {e : Int × Int} (he : e ∈ f) : e.1 - 1 ∉ ps ∧ e.2 + 1 ∉ ps := by
  have le := h.le e he
  have key : ∀ x, x ∈ ps → ¬ (e.1 ≤ x ∧ x ≤ e.2) → x + 2 ≤ e.1 ∨ e.2 + 2 ≤ x := by
    intro x hx hn
    obtain ⟨e', he', h1, h2⟩ := h.mem.mp hx
    obtain ⟨i, hi, rfl⟩ := List.mem_iff_getElem.mp he
    obtain ⟨j, hj, rfl⟩ := List.mem_iff_getElem.mp he'
    rcases Nat.lt_trichotomy i j with hij | hij | hij
    · have := List.pairwise_iff_getElem.mp h.gap i j hi hj hij
      omega
    · subst hij; exact absurd ⟨h1, h2⟩ hn
    · have := List.pairwise_iff_getElem.mp h.gap j i hj hi hij
      omega
  constructor
  · intro hx
    have := key _ hx (by omega)
    omega
  · intro hx
    have := key _ hx (by omega)
    omega
/-- the place with an index -/
def nthR : List (Int × Int) → Int → Option Int
  | [], _ => none
  | e :: f, k => if k ≤ e.2 - e.1 then some (e.1 + k) else nthR f (k - (e.2 - e.1 + 1))
theorem nth_ok : ∀ (f : List (Int × Int)) (k : Nat), (∀ e ∈ f, e.1 ≤ e.2) → nthR f k = (f.flatMap spr)[k]?
  | [], k, _ => by simp [nthR]
  | e :: f, k, le => by
    have he := le e List.mem_cons_self
    rw [nthR, List.flatMap_cons]
    by_cases hk : (k : Int) ≤ e.2 - e.1
    · rw [if_pos hk, List.getElem?_append_left (by rw [spr_len]; omega)]
      unfold spr
      rw [List.getElem?_map, List.getElem?_range (by omega)]; rfl
    · rw [if_neg hk, List.getElem?_append_right (by rw [spr_len]; omega), spr_len]
      have e1 : (k : Int) - (e.2 - e.1 + 1) = ((k - (e.2 - e.1 + 1).toNat : Nat) : Int) := by omega
      rw [e1]
      exact nth_ok f _ fun x hx => le x (List.mem_cons_of_mem _ hx)
theorem shw_rgs {f : List (Int × Int)} {ps : List Int} (h : Rgs f ps) (hp : ∀ x ∈ ps, 0 ≤ x ∧ x < 10 ^ 20) (hl : f.length ≤ 300) : Shw 1000 2 (.tup (f.map dp)) := by
  refine (shw_tup (b := 2) (k := 1) (ds := f.map dp) fun d hd => ?_).mono (by rw [List.length_map]; omega) (by omega)
  obtain ⟨e, he, rfl⟩ := List.mem_map.mp hd
  have le := h.le e he
  have h1 := hp _ (h.mem.mpr ⟨e, he, Int.le_refl _, le⟩)
  have h2 := hp _ (h.mem.mpr ⟨e, he, le, Int.le_refl _⟩)
  refine (shw_tup (b := 0) (k := 0) (ds := [.int e.1, .int e.2]) fun d hd => ?_).mono (by simp) (by omega)
  simp only [List.mem_cons, List.not_mem_nil, or_false] at hd
  rcases hd with rfl | rfl
  · exact shw_int (small_int (by omega) (by omega))
  · exact shw_int (small_int (by omega) (by omega))
theorem fb_rgs (fs : List (Int × Int)) (hr : ∀ e ∈ fs, Run e) : Rgs (fbR fs) ((begs (toks fs)).map fun (p : Nat) => (p : Int)) := by
  rw [fbR_eq fs hr]
  exact rg_rgs (begs_lt _)
theorem fbL_len (all : List (Int × Int)) : ∀ (r : List (Int × Int)) (k : Nat) (s : Int) (f : List (Int × Int)), (fbL all k s f r).length ≤ f.length + r.length
  | [], k, s, f => by simp [fbL]
  | e :: r, k, s, f => by
    rw [fbL, List.length_cons]
    have := fbL_len all r (k + 1) (s + e.2) (addR f s (mny all k))
    have := addR_len f s (mny all k)
    omega
theorem fbR_len (fs : List (Int × Int)) : (fbR fs).length ≤ fs.length := by
  have := fbL_len fs fs 0 0 []
  simpa [fbR] using this
end DL

namespace TX
open PySem PySem.Spec L2 DL
open PyProof.Rows hiding St

def topS (i : Nat) : Stmt := PySem.Challenge.pw_ringpostfix_k55_long_far_beginnings.main.body.getD i (.Pass ⟨0, 0, 0, 0⟩)
abbrev st__law_stream : Stmt := topS 4
abbrev nm__law_stream : List Str := ["_law_script", "_law_cells", "_law_cell"]
abbrev st__law_draw : Stmt := topS 5
abbrev nm__law_draw : List Str := ["_law_stream_here", "_law_many", "_law_rest", "_law_turn", "_law_cell", "_law_mixed"]
abbrev st__law_pick : Stmt := topS 6
abbrev nm__law_pick : List Str := ["_law_stream_here", "_law_items"]
abbrev st__law_total : Stmt := topS 8
abbrev nm__law_total : List Str := ["_law_far_here", "_law_arity", "_law_count"]
abbrev st__law_far : Stmt := topS 9
abbrev nm__law_far : List Str := ["_law_stream_here", "_law_runs", "_law_most", "_law_menu", "_law_found", "_law_k", "_law_missing"]
abbrev st_count_ready : Stmt := topS 1
abbrev nm_count_ready : List Str := ["far", "index", "height", "least", "arity", "count"]
abbrev st_far_beginnings : Stmt := topS 2
abbrev nm_far_beginnings : List Str := ["far", "found", "start", "index", "arity", "count", "many"]
abbrev st__law_whole : Stmt := topS 7
abbrev nm__law_whole : List Str := ["_law_value", "_law_low", "_law_high"]
abbrev st__law_length : Stmt := topS 10
abbrev nm__law_length : List Str := ["_law_far_here", "_law_arity", "_law_count"]
abbrev st__law_lowest : Stmt := topS 12
abbrev nm__law_lowest : List Str := ["_law_parts_here", "_law_height", "_law_least", "_law_arity", "_law_count", "_law_both"]
abbrev st__law_parts : Stmt := topS 11
abbrev nm__law_parts : List Str := ["_law_far_here", "_law_position", "_law_ahead", "_law_behind", "_law_begin", "_law_arity", "_law_count", "_law_cut"]
abbrev st__law_far_need : Stmt := topS 13
abbrev nm__law_far_need : List Str := ["_law_far_here", "_law_position"]
abbrev st__law_range_right : Stmt := topS 14
abbrev nm__law_range_right : List Str := ["_law_stream_here", "_law_far_here", "_law_first", "_law_last", "_law_length_here", "_law_inside", "_law_beside", "_law_k"]
abbrev st__law_right : Stmt := topS 15
abbrev nm__law_right : List Str := ["_law_stream_here", "_law_far_here", "_law_found", "_law_before", "_law_one", "_law_first", "_law_last"]
abbrev st_law : Stmt := topS 16
abbrev nm_law : List Str := ["_law_script", "_law_stream_here", "_law_turn", "_law_far_here", "_law_shown", "_law_wide"]
noncomputable def E1__law_range_right (ρ : Ev) (S : Sto) : R D :=
  (eVar 7) ρ S
noncomputable def Q1__law_range_right (ρ : Ev) (S : Sto) : R Bool :=
  (eT (eOp (dEq true) (eCall F__law_far_need (aCons (eVar 1) (aCons (eVar 7) aNil))) (eC (.int 0)))) ρ S
noncomputable def E2__law_range_right (ρ : Ev) (S : Sto) : R D :=
  (eVar 7) ρ S
noncomputable def Q2__law_range_right (ρ : Ev) (S : Sto) : R Bool :=
  (eT (eChain dLe dLt (eC (.int 0)) (eVar 7) (eVar 4))) ρ S
noncomputable def E3__law_range_right (ρ : Ev) (S : Sto) : R D :=
  (eVar 7) ρ S
noncomputable def Q3__law_range_right (ρ : Ev) (S : Sto) : R Bool :=
  (eT (eOp (dEq false) (eCall F__law_far_need (aCons (eVar 1) (aCons (eVar 7) aNil))) (eC (.int 0)))) ρ S
noncomputable def B__law_range_right : Ev → Sto → SR :=
  (sSeq (sAsg (eTup (aCons (eCall F__law_length (aCons (eVar 1) aNil)) (aCons (eOp dAdd (eVar 2) (eCall F__law_draw (aCons (eVar 0) (aCons (eOp dAdd (eOp dSub (eVar 3) (eVar 2)) (eC (.int 1))) aNil)))) aNil))) (tTup 2 (tCons (tN 4) (tCons (tN 5) tNil))))
    (sSeq (sIf (eT (eOp (dEq true) (eLc finFl (iSeq (eTup (aCons (eVar 2) (aCons (eVar 3) (aCons (eVar 5) aNil))))) (tN 7) [7] Q1__law_range_right E1__law_range_right) (eFl aNil))) (sRet (eC (.bl false))) sNil)
    (sSeq (sSet 6 (eLc finFl (iSeq (eTup (aCons (eOp dSub (eVar 2) (eC (.int 1))) (aCons (eOp dAdd (eVar 3) (eC (.int 1))) aNil)))) (tN 7) [7] Q2__law_range_right E2__law_range_right))
    (sRet (eOp (dEq false) (eLc finFl (iSeq (eVar 6)) (tN 7) [7] Q3__law_range_right E3__law_range_right) (eFl aNil))))))
noncomputable def F__law_range_right : Fn := fnC close 8 4 B__law_range_right

noncomputable def L1__law_right (ρ : Ev) (S : Sto) : SR :=
  (sSeq (sIf (eOr (eNot (eT (eCall bIsi (aCons (eVar 4) (aCons (eC (.ty "tuple")) aNil))))) (eOr (eT (eOp (dEq true) (eCall bLen (aCons (eVar 4) aNil)) (eC (.int 2)))) (eNot (eT (eCall F__law_whole (aCons (eOp dIx (eVar 4) (eC (.int 0))) (aCons (eOp dAdd (eVar 3) (eC (.int 2))) (aCons (eOp dSub (eCall F__law_length (aCons (eVar 1) aNil)) (eC (.int 1))) aNil)))))))) (sRet (eC (.bl false))) sNil)
    (sSeq (sIf (eOr (eNot (eT (eCall F__law_whole (aCons (eOp dIx (eVar 4) (eC (.int 1))) (aCons (eOp dIx (eVar 4) (eC (.int 0))) (aCons (eOp dSub (eCall F__law_length (aCons (eVar 1) aNil)) (eC (.int 1))) aNil)))))) (eNot (eT (eCall F__law_range_right (aCons (eVar 0) (aCons (eVar 1) (aCons (eOp dIx (eVar 4) (eC (.int 0))) (aCons (eOp dIx (eVar 4) (eC (.int 1))) aNil)))))))) (sRet (eC (.bl false))) sNil)
    (sSet 3 (eOp dIx (eVar 4) (eC (.int 1)))))) ρ S
noncomputable def E1__law_right (ρ : Ev) (S : Sto) : R D :=
  (eOp dAdd (eOp dSub (eVar 6) (eVar 5)) (eC (.int 1))) ρ S
noncomputable def B__law_right : Ev → Sto → SR :=
  (sSeq (sPar2 2 3 (aCons (eCall F_far_beginnings (aCons (eVar 1) aNil)) (aCons (eNeg (eC (.int 2))) aNil)))
    (sSeq (sIf (eNot (eT (eCall bIsi (aCons (eVar 2) (aCons (eC (.ty "tuple")) aNil))))) (sRet (eC (.bl false))) sNil)
    (sSeq (sFor (iSeq (eVar 2)) (tN 4) L1__law_right sNil)
    (sRet (eOp (dEq false) (eCall bSum2 (aCons (eLc finFl (iSeq (eVar 2)) (tTup 2 (tCons (tN 5) (tCons (tN 6) tNil))) [5, 6] cYes E1__law_right) aNil)) (eCall bMax (aCons (eC (.int 0)) (aCons (eCall F__law_total (aCons (eVar 1) aNil)) aNil))))))))
noncomputable def F__law_right : Fn := fnC close 7 2 B__law_right

noncomputable def L1_law (ρ : Ev) (S : Sto) : SR :=
  (sSeq (sSet 3 (eCall F__law_far (aCons (eVar 1) (aCons (eC (.int 12)) (aCons (eOp dPow (eC (.int 10)) (eC (.int 10))) aNil)))))
    (sSeq (sSet 4 (eCall bRepr (aCons (eVar 3) aNil)))
    (sIf (eOr (eNot (eT (eCall F__law_right (aCons (eVar 1) (aCons (eVar 3) aNil))))) (eT (eOp (dEq true) (eCall bRepr (aCons (eVar 3) aNil)) (eVar 4)))) (sRet (eC (.bl false))) sNil))) ρ S
noncomputable def B_law : Ev → Sto → SR :=
  (sSeq (sSet 1 (eCall F__law_stream (aCons (eVar 0) aNil)))
    (sSeq (sFor (iRange1 (aCons (eC (.int 8)) aNil)) (tN 2) L1_law sNil)
    (sSeq (sSet 5 (eTup (aCons (eTup (aCons (eC (.int 0)) (aCons (eC (.int 3)) aNil))) (aCons (eTup (aCons (eC (.int 2)) (aCons (eC (.int 2)) aNil))) (aCons (eTup (aCons (eC (.int 0)) (aCons (eOp dPow (eC (.int 10)) (eC (.int 11))) aNil))) aNil)))))
    (sRet (eAndV (eOp (dEq false) (eCall F_far_beginnings (aCons (eTup (aCons (eTup (aCons (eC (.int 0)) (aCons (eOp dPow (eC (.int 10)) (eC (.int 12))) aNil))) aNil)) aNil)) (eTup (aCons (eTup (aCons (eC (.int 0)) (aCons (eOp dSub (eOp dPow (eC (.int 10)) (eC (.int 12))) (eC (.int 1))) aNil))) aNil))) (eCall F__law_right (aCons (eVar 1) (aCons (eVar 5) aNil))))))))
noncomputable def F_law : Fn := fnC close 6 1 B_law

end TX

namespace TX
open PySem PySem.Spec L2 DL
open PyProof.Rows hiding St
/-- a comprehension that keeps some whole numbers -/
theorem lc_some {i : Nat} {Q : Ev → Sto → R Bool} {E : Ev → Sto → R D} {src : Ev → Sto → R Src} {ρ : Ev} {S : Sto} (as : List Int) (c : Int → Bool) (ρd : D → Ev) (hs : src ρ S = .ok (as.map D.int, yes) S) (hl : as.length ≤ 100)
    (h : ∀ a ∈ as, ∀ S', tN i (.int a) (wipeD ρ [i]) S' = some (ρd (.int a), S') ∧ Q (ρd (.int a)) S' = .ok (c a) S' ∧ E (ρd (.int a)) S' = .ok (.int a) S') :
    eLc finFl src (tN i) [i] Q E ρ S = .ok (.fl ((as.filter c).map D.int)) S := by
  let cd : D → Bool := fun d => match d with
    | .int k => c k
    | _ => false
  have key := eLc_pure (src := src) (T := tN i) (vs := [i]) (c := Q) (f := E) (ρ := ρ) (S := S) (as.map D.int) ρd cd (fun d => d) hs (by
    intro d hd S'
    obtain ⟨a, ha, rfl⟩ := List.mem_map.mp hd
    obtain ⟨h1, h2, h3⟩ := h a ha S'
    exact ⟨h1, h2, fun _ => h3⟩) (by rw [List.length_map]; exact Nat.le_trans hl (by decide)) (by
    intro d hd _
    obtain ⟨a, ha, rfl⟩ := List.mem_map.mp hd
    rfl)
  rw [key]
  congr 2
  rw [List.map_id', List.filter_map]
  congr 1
theorem range_right_ok (fs : List (Int × Int)) (hf : fs ≠ []) (hl : fs.length ≤ 20) (hr : ∀ e ∈ fs, Run e) {e : Int × Int} (he : e ∈ fbR fs) {S : Sto} {n : Nat} (hS : Strm S n []) (hn : n + 1 < 2 ^ 60) :
    ∃ S', F__law_range_right [.loc 1, .tup (fs.map dp), .int e.1, .int e.2] S = .ok (.bl true) S' ∧ Strm S' (n + 1) [] := by
  have rr := fb_rgs fs hr
  have le := rr.le e he
  have tl := toks_len fs hr
  have lo := length_ok fs (by omega)
  have hbig := len_le fs (10 ^ 13) fun e he => ⟨hr e he, (hr e he).cM⟩
  have lfn := fun p => law_far_need_ok fs hf hl hr p
  have pos : ∀ x, e.1 ≤ x → x ≤ e.2 → ∃ p : Nat, x = (p : Int) ∧ p < (toks fs).length ∧ ne (rot (toks fs) p) = 0 := fun x h1 h2 => by
    obtain ⟨p, hp, hx⟩ := List.mem_map.mp (rr.mem.mpr ⟨e, he, h1, h2⟩)
    obtain ⟨q1, q2⟩ := mem_begs.mp hp
    exact ⟨p, hx.symm, q1, q2⟩
  obtain ⟨p1, hp1, hp2, _⟩ := pos e.1 (Int.le_refl _) le
  obtain ⟨p2, hq1, hq2, _⟩ := pos e.2 le (Int.le_refl _)
  obtain ⟨z, S1, z1, z2, z3, s1⟩ := draw_ok hS (m := e.2 - e.1 + 1) (by omega) (log2_small 60 (by omega) (by decide) (by decide)) (by omega)
  refine ⟨S1, ?_, s1⟩
  have hst : startD 8 [D.loc 1, D.tup (fs.map dp), D.int e.1, D.int e.2] = [some (.loc 1), some (.tup (fs.map dp)), some (.int e.1), some (.int e.2), none, none, none, none] := rfl
  generalize hF : D.tup (fs.map dp) = Fd at *
  have lf0 : ∀ x, e.1 ≤ x → x ≤ e.2 → ∀ S, F__law_far_need [Fd, .int x] S = .ok (.int 0) S := fun x h1 h2 S => by
    obtain ⟨p, rfl, _, hp⟩ := pos x h1 h2
    rw [lfn p, hp]
  have c1 := lc_some (i := 7) (Q := Q1__law_range_right) (E := E1__law_range_right) (src := iSeq (eTup (aCons (eVar 2) (aCons (eVar 3) (aCons (eVar 5) aNil))))) (ρ := [some (.loc 1), some Fd, some (.int e.1), some (.int e.2), some (.int (len fs)), some (.int (e.1 + z)), none, none]) (S := S1) [e.1, e.2, e.1 + z] (fun _ => false) (fun d => [some (.loc 1), some Fd, some (.int e.1), some (.int e.2), some (.int (len fs)), some (.int (e.1 + z)), none, some d]) (by simp only [eVar, eC, eOp, eT, eAnd, eOr, eNot, eIf, eAndV, eOrV, eNotV, eCall, aNil, aCons, aStar, sOf, eTup, eFl, eLoc, eSl, oNone, oSome, iOf, eNeg, eChain, eMt, bOf, eDict0, eRev, eListRg, iZipD, sRaise1, sRaise0, eCallV, List.lookup, R.bind_ok, R.bind_er, R.bind_stuck, R.toS_ok, R.toS_er, R.toS_stuck, SR.next_nx, SR.next_rt, SR.next_er, SR.next_bk, SR.next_ct, SR.next_stuck, sNil, sSeq, sBrk, sCnt, sExp, sRet, sRetN, sIf, sSet, sAsg, sAug, sPar2, sPar3, tN, DL.tTup, DL.tNil, DL.tCons, DL.tSub, iSeq, srcOf_tup, srcOf_fl, srcOf_kl, srcOf_ti, iRange1, iRange2, sFor, startD, List.map_cons, List.map_nil, List.length_cons, List.length_nil, List.replicate, List.cons_append, List.nil_append, List.getElem?_cons_zero, List.getElem?_cons_succ, List.set_cons_zero, List.set_cons_succ, dSub_int, dFdiv_int, dMod_int, dLt_int, dLe_int, dGt_int, dGe_int, dAddI_int, dSubI_int, dIsN_non, isN, dAdd_int, ll0, ll1, ll2, ll3, ll4, ll5, ll6, ll7, ll8, ll9, ll10, ll11, ll12, ll13, ll14, ll15, ll16, ll17, ll18, ll19, ll20, ll21, ll22, ll23, ll24, ll25, ll26, ll27, ll28, ll29, ll30, ll31, ll32, ll33, ll34, ll35, ll36, ll37, ll38, ll39, ll40, Nat.reduceSub, Nat.reduceAdd, Nat.reduceEqDiff, if_true, if_false, ifp_t, ifp_f, reduceIte, Bool.true_eq_false, Bool.false_eq_true, Option.map_some, Option.map_none, Option.bind_some, Option.bind_none, tSq, sSet2, seqOf_fl, seqOf_tup, seqOf_ti]) (by simp) (by
    intro a ha S'
    refine ⟨rfl, ?_, rfl⟩
    have f0 := lf0 a (by
      simp only [List.mem_cons, List.not_mem_nil, or_false] at ha
      rcases ha with rfl | rfl | rfl <;> omega) (by
      simp only [List.mem_cons, List.not_mem_nil, or_false] at ha
      rcases ha with rfl | rfl | rfl <;> omega)
    have q0 : ∀ S, dEq true (.int 0) (.int 0) S = .ok (.bl false) S := fun S => rfl
    simp only [eVar, eC, eOp, eT, eAnd, eOr, eNot, eIf, eAndV, eOrV, eNotV, eCall, aNil, aCons, aStar, sOf, eTup, eFl, eLoc, eSl, oNone, oSome, iOf, eNeg, eChain, eMt, bOf, eDict0, eRev, eListRg, iZipD, sRaise1, sRaise0, eCallV, List.lookup, R.bind_ok, R.bind_er, R.bind_stuck, R.toS_ok, R.toS_er, R.toS_stuck, SR.next_nx, SR.next_rt, SR.next_er, SR.next_bk, SR.next_ct, SR.next_stuck, sNil, sSeq, sBrk, sCnt, sExp, sRet, sRetN, sIf, sSet, sAsg, sAug, sPar2, sPar3, tN, DL.tTup, DL.tNil, DL.tCons, DL.tSub, iSeq, srcOf_tup, srcOf_fl, srcOf_kl, srcOf_ti, iRange1, iRange2, sFor, startD, List.map_cons, List.map_nil, List.length_cons, List.length_nil, List.replicate, List.cons_append, List.nil_append, List.getElem?_cons_zero, List.getElem?_cons_succ, List.set_cons_zero, List.set_cons_succ, dSub_int, dFdiv_int, dMod_int, dLt_int, dLe_int, dGt_int, dGe_int, dAddI_int, dSubI_int, dIsN_non, isN, dAdd_int, ll0, ll1, ll2, ll3, ll4, ll5, ll6, ll7, ll8, ll9, ll10, ll11, ll12, ll13, ll14, ll15, ll16, ll17, ll18, ll19, ll20, ll21, ll22, ll23, ll24, ll25, ll26, ll27, ll28, ll29, ll30, ll31, ll32, ll33, ll34, ll35, ll36, ll37, ll38, ll39, ll40, Nat.reduceSub, Nat.reduceAdd, Nat.reduceEqDiff, if_true, if_false, ifp_t, ifp_f, reduceIte, Bool.true_eq_false, Bool.false_eq_true, Option.map_some, Option.map_none, Option.bind_some, Option.bind_none, tSq, sSet2, seqOf_fl, seqOf_tup, seqOf_ti, Q1__law_range_right, f0, q0])
  have c2 := lc_some (i := 7) (Q := Q2__law_range_right) (E := E2__law_range_right) (src := iSeq (eTup (aCons (eOp dSub (eVar 2) (eC (.int 1))) (aCons (eOp dAdd (eVar 3) (eC (.int 1))) aNil)))) (ρ := [some (.loc 1), some Fd, some (.int e.1), some (.int e.2), some (.int (len fs)), some (.int (e.1 + z)), none, none]) (S := S1) [e.1 - 1, e.2 + 1] (fun x => decide (0 ≤ x ∧ x < len fs)) (fun d => [some (.loc 1), some Fd, some (.int e.1), some (.int e.2), some (.int (len fs)), some (.int (e.1 + z)), none, some d]) (by simp only [eVar, eC, eOp, eT, eAnd, eOr, eNot, eIf, eAndV, eOrV, eNotV, eCall, aNil, aCons, aStar, sOf, eTup, eFl, eLoc, eSl, oNone, oSome, iOf, eNeg, eChain, eMt, bOf, eDict0, eRev, eListRg, iZipD, sRaise1, sRaise0, eCallV, List.lookup, R.bind_ok, R.bind_er, R.bind_stuck, R.toS_ok, R.toS_er, R.toS_stuck, SR.next_nx, SR.next_rt, SR.next_er, SR.next_bk, SR.next_ct, SR.next_stuck, sNil, sSeq, sBrk, sCnt, sExp, sRet, sRetN, sIf, sSet, sAsg, sAug, sPar2, sPar3, tN, DL.tTup, DL.tNil, DL.tCons, DL.tSub, iSeq, srcOf_tup, srcOf_fl, srcOf_kl, srcOf_ti, iRange1, iRange2, sFor, startD, List.map_cons, List.map_nil, List.length_cons, List.length_nil, List.replicate, List.cons_append, List.nil_append, List.getElem?_cons_zero, List.getElem?_cons_succ, List.set_cons_zero, List.set_cons_succ, dSub_int, dFdiv_int, dMod_int, dLt_int, dLe_int, dGt_int, dGe_int, dAddI_int, dSubI_int, dIsN_non, isN, dAdd_int, ll0, ll1, ll2, ll3, ll4, ll5, ll6, ll7, ll8, ll9, ll10, ll11, ll12, ll13, ll14, ll15, ll16, ll17, ll18, ll19, ll20, ll21, ll22, ll23, ll24, ll25, ll26, ll27, ll28, ll29, ll30, ll31, ll32, ll33, ll34, ll35, ll36, ll37, ll38, ll39, ll40, Nat.reduceSub, Nat.reduceAdd, Nat.reduceEqDiff, if_true, if_false, ifp_t, ifp_f, reduceIte, Bool.true_eq_false, Bool.false_eq_true, Option.map_some, Option.map_none, Option.bind_some, Option.bind_none, tSq, sSet2, seqOf_fl, seqOf_tup, seqOf_ti]) (by simp) (by
    intro a ha S'
    refine ⟨rfl, ?_, rfl⟩
    by_cases h3 : 0 ≤ a
    · by_cases h4 : a < len fs
      · simp only [eVar, eC, eOp, eT, eAnd, eOr, eNot, eIf, eAndV, eOrV, eNotV, eCall, aNil, aCons, aStar, sOf, eTup, eFl, eLoc, eSl, oNone, oSome, iOf, eNeg, eChain, eMt, bOf, eDict0, eRev, eListRg, iZipD, sRaise1, sRaise0, eCallV, List.lookup, R.bind_ok, R.bind_er, R.bind_stuck, R.toS_ok, R.toS_er, R.toS_stuck, SR.next_nx, SR.next_rt, SR.next_er, SR.next_bk, SR.next_ct, SR.next_stuck, sNil, sSeq, sBrk, sCnt, sExp, sRet, sRetN, sIf, sSet, sAsg, sAug, sPar2, sPar3, tN, DL.tTup, DL.tNil, DL.tCons, DL.tSub, iSeq, srcOf_tup, srcOf_fl, srcOf_kl, srcOf_ti, iRange1, iRange2, sFor, startD, List.map_cons, List.map_nil, List.length_cons, List.length_nil, List.replicate, List.cons_append, List.nil_append, List.getElem?_cons_zero, List.getElem?_cons_succ, List.set_cons_zero, List.set_cons_succ, dSub_int, dFdiv_int, dMod_int, dLt_int, dLe_int, dGt_int, dGe_int, dAddI_int, dSubI_int, dIsN_non, isN, dAdd_int, ll0, ll1, ll2, ll3, ll4, ll5, ll6, ll7, ll8, ll9, ll10, ll11, ll12, ll13, ll14, ll15, ll16, ll17, ll18, ll19, ll20, ll21, ll22, ll23, ll24, ll25, ll26, ll27, ll28, ll29, ll30, ll31, ll32, ll33, ll34, ll35, ll36, ll37, ll38, ll39, ll40, Nat.reduceSub, Nat.reduceAdd, Nat.reduceEqDiff, if_true, if_false, ifp_t, ifp_f, reduceIte, Bool.true_eq_false, Bool.false_eq_true, Option.map_some, Option.map_none, Option.bind_some, Option.bind_none, tSq, sSet2, seqOf_fl, seqOf_tup, seqOf_ti, Q2__law_range_right, h3, h4, decide_true, and_self]
      · simp only [eVar, eC, eOp, eT, eAnd, eOr, eNot, eIf, eAndV, eOrV, eNotV, eCall, aNil, aCons, aStar, sOf, eTup, eFl, eLoc, eSl, oNone, oSome, iOf, eNeg, eChain, eMt, bOf, eDict0, eRev, eListRg, iZipD, sRaise1, sRaise0, eCallV, List.lookup, R.bind_ok, R.bind_er, R.bind_stuck, R.toS_ok, R.toS_er, R.toS_stuck, SR.next_nx, SR.next_rt, SR.next_er, SR.next_bk, SR.next_ct, SR.next_stuck, sNil, sSeq, sBrk, sCnt, sExp, sRet, sRetN, sIf, sSet, sAsg, sAug, sPar2, sPar3, tN, DL.tTup, DL.tNil, DL.tCons, DL.tSub, iSeq, srcOf_tup, srcOf_fl, srcOf_kl, srcOf_ti, iRange1, iRange2, sFor, startD, List.map_cons, List.map_nil, List.length_cons, List.length_nil, List.replicate, List.cons_append, List.nil_append, List.getElem?_cons_zero, List.getElem?_cons_succ, List.set_cons_zero, List.set_cons_succ, dSub_int, dFdiv_int, dMod_int, dLt_int, dLe_int, dGt_int, dGe_int, dAddI_int, dSubI_int, dIsN_non, isN, dAdd_int, ll0, ll1, ll2, ll3, ll4, ll5, ll6, ll7, ll8, ll9, ll10, ll11, ll12, ll13, ll14, ll15, ll16, ll17, ll18, ll19, ll20, ll21, ll22, ll23, ll24, ll25, ll26, ll27, ll28, ll29, ll30, ll31, ll32, ll33, ll34, ll35, ll36, ll37, ll38, ll39, ll40, Nat.reduceSub, Nat.reduceAdd, Nat.reduceEqDiff, if_true, if_false, ifp_t, ifp_f, reduceIte, Bool.true_eq_false, Bool.false_eq_true, Option.map_some, Option.map_none, Option.bind_some, Option.bind_none, tSq, sSet2, seqOf_fl, seqOf_tup, seqOf_ti, Q2__law_range_right, h3, h4, decide_true, decide_false, and_false]
    · simp only [eVar, eC, eOp, eT, eAnd, eOr, eNot, eIf, eAndV, eOrV, eNotV, eCall, aNil, aCons, aStar, sOf, eTup, eFl, eLoc, eSl, oNone, oSome, iOf, eNeg, eChain, eMt, bOf, eDict0, eRev, eListRg, iZipD, sRaise1, sRaise0, eCallV, List.lookup, R.bind_ok, R.bind_er, R.bind_stuck, R.toS_ok, R.toS_er, R.toS_stuck, SR.next_nx, SR.next_rt, SR.next_er, SR.next_bk, SR.next_ct, SR.next_stuck, sNil, sSeq, sBrk, sCnt, sExp, sRet, sRetN, sIf, sSet, sAsg, sAug, sPar2, sPar3, tN, DL.tTup, DL.tNil, DL.tCons, DL.tSub, iSeq, srcOf_tup, srcOf_fl, srcOf_kl, srcOf_ti, iRange1, iRange2, sFor, startD, List.map_cons, List.map_nil, List.length_cons, List.length_nil, List.replicate, List.cons_append, List.nil_append, List.getElem?_cons_zero, List.getElem?_cons_succ, List.set_cons_zero, List.set_cons_succ, dSub_int, dFdiv_int, dMod_int, dLt_int, dLe_int, dGt_int, dGe_int, dAddI_int, dSubI_int, dIsN_non, isN, dAdd_int, ll0, ll1, ll2, ll3, ll4, ll5, ll6, ll7, ll8, ll9, ll10, ll11, ll12, ll13, ll14, ll15, ll16, ll17, ll18, ll19, ll20, ll21, ll22, ll23, ll24, ll25, ll26, ll27, ll28, ll29, ll30, ll31, ll32, ll33, ll34, ll35, ll36, ll37, ll38, ll39, ll40, Nat.reduceSub, Nat.reduceAdd, Nat.reduceEqDiff, if_true, if_false, ifp_t, ifp_f, reduceIte, Bool.true_eq_false, Bool.false_eq_true, Option.map_some, Option.map_none, Option.bind_some, Option.bind_none, tSq, sSet2, seqOf_fl, seqOf_tup, seqOf_ti, Q2__law_range_right, h3, decide_false, false_and])
  generalize hbs : [e.1 - 1, e.2 + 1].filter (fun x => decide (0 ≤ x ∧ x < len fs)) = bs at c2
  have hb : ∀ x ∈ bs, 0 ≤ x ∧ x < len fs ∧ (x = e.1 - 1 ∨ x = e.2 + 1) := fun x hx => by
    rw [← hbs] at hx
    obtain ⟨h1, h2⟩ := List.mem_filter.mp hx
    rw [decide_eq_true_eq] at h2
    simp only [List.mem_cons, List.not_mem_nil, or_false] at h1
    exact ⟨h2.1, h2.2, h1⟩
  have hbl : bs.length ≤ 2 := by rw [← hbs]; exact List.length_filter_le _ _
  have c3 := lc_some (i := 7) (Q := Q3__law_range_right) (E := E3__law_range_right) (src := iSeq (eVar 6)) (ρ := [some (.loc 1), some Fd, some (.int e.1), some (.int e.2), some (.int (len fs)), some (.int (e.1 + z)), some (.fl (bs.map D.int)), none]) (S := S1) bs (fun _ => false) (fun d => [some (.loc 1), some Fd, some (.int e.1), some (.int e.2), some (.int (len fs)), some (.int (e.1 + z)), some (.fl (bs.map D.int)), some d]) (iS_fl rfl S1) (by omega) (by
    intro a ha S'
    refine ⟨rfl, ?_, rfl⟩
    obtain ⟨a0, a1, a2⟩ := hb a ha
    obtain ⟨p, rfl⟩ : ∃ p : Nat, a = (p : Int) := ⟨a.toNat, by omega⟩
    have f := lfn p
    have hn0 : ne (rot (toks fs) p) ≠ 0 := fun hc => by
      have hm : (p : Int) ∈ (begs (toks fs)).map fun (p : Nat) => (p : Int) := List.mem_map.mpr ⟨p, mem_begs.mpr ⟨by omega, hc⟩, rfl⟩
      obtain ⟨n1, n2⟩ := rr.alone he
      rcases a2 with h | h
      · rw [h] at hm; exact n1 hm
      · rw [h] at hm; exact n2 hm
    have hb0 : (ne (rot (toks fs) p) == 0) = false := by simpa using hn0
    simp only [eVar, eC, eOp, eT, eAnd, eOr, eNot, eIf, eAndV, eOrV, eNotV, eCall, aNil, aCons, aStar, sOf, eTup, eFl, eLoc, eSl, oNone, oSome, iOf, eNeg, eChain, eMt, bOf, eDict0, eRev, eListRg, iZipD, sRaise1, sRaise0, eCallV, List.lookup, R.bind_ok, R.bind_er, R.bind_stuck, R.toS_ok, R.toS_er, R.toS_stuck, SR.next_nx, SR.next_rt, SR.next_er, SR.next_bk, SR.next_ct, SR.next_stuck, sNil, sSeq, sBrk, sCnt, sExp, sRet, sRetN, sIf, sSet, sAsg, sAug, sPar2, sPar3, tN, DL.tTup, DL.tNil, DL.tCons, DL.tSub, iSeq, srcOf_tup, srcOf_fl, srcOf_kl, srcOf_ti, iRange1, iRange2, sFor, startD, List.map_cons, List.map_nil, List.length_cons, List.length_nil, List.replicate, List.cons_append, List.nil_append, List.getElem?_cons_zero, List.getElem?_cons_succ, List.set_cons_zero, List.set_cons_succ, dSub_int, dFdiv_int, dMod_int, dLt_int, dLe_int, dGt_int, dGe_int, dAddI_int, dSubI_int, dIsN_non, isN, dAdd_int, ll0, ll1, ll2, ll3, ll4, ll5, ll6, ll7, ll8, ll9, ll10, ll11, ll12, ll13, ll14, ll15, ll16, ll17, ll18, ll19, ll20, ll21, ll22, ll23, ll24, ll25, ll26, ll27, ll28, ll29, ll30, ll31, ll32, ll33, ll34, ll35, ll36, ll37, ll38, ll39, ll40, Nat.reduceSub, Nat.reduceAdd, Nat.reduceEqDiff, if_true, if_false, ifp_t, ifp_f, reduceIte, Bool.true_eq_false, Bool.false_eq_true, Option.map_some, Option.map_none, Option.bind_some, Option.bind_none, tSq, sSet2, seqOf_fl, seqOf_tup, seqOf_ti, Q3__law_range_right, f, dEq_int, hb0])
  have n1 : ∀ (l : List Int), (l.filter fun _ => false).map D.int = [] := fun l => by simp
  rw [n1] at c1 c3
  have q1 : ∀ S, dEq true (.fl []) (.fl []) S = .ok (.bl false) S := fun S => rfl
  have q2 : ∀ S, dEq false (.fl []) (.fl []) S = .ok (.bl true) S := fun S => rfl
  refine fnC_rt rfl ?_ (by rw [s1.len, hS.len])
  rw [hst]
  unfold B__law_range_right
  generalize eLc finFl (iSeq (eTup (aCons (eVar 2) (aCons (eVar 3) (aCons (eVar 5) aNil))))) (tN 7) [7] Q1__law_range_right E1__law_range_right = LC1 at c1 ⊢
  generalize eLc finFl (iSeq (eTup (aCons (eOp dSub (eVar 2) (eC (.int 1))) (aCons (eOp dAdd (eVar 3) (eC (.int 1))) aNil)))) (tN 7) [7] Q2__law_range_right E2__law_range_right = LC2 at c2 ⊢
  generalize eLc finFl (iSeq (eVar 6)) (tN 7) [7] Q3__law_range_right E3__law_range_right = LC3 at c3 ⊢
  simp only [eVar, eC, eOp, eT, eAnd, eOr, eNot, eIf, eAndV, eOrV, eNotV, eCall, aNil, aCons, aStar, sOf, eTup, eFl, eLoc, eSl, oNone, oSome, iOf, eNeg, eChain, eMt, bOf, eDict0, eRev, eListRg, iZipD, sRaise1, sRaise0, eCallV, List.lookup, R.bind_ok, R.bind_er, R.bind_stuck, R.toS_ok, R.toS_er, R.toS_stuck, SR.next_nx, SR.next_rt, SR.next_er, SR.next_bk, SR.next_ct, SR.next_stuck, sNil, sSeq, sBrk, sCnt, sExp, sRet, sRetN, sIf, sSet, sAsg, sAug, sPar2, sPar3, tN, DL.tTup, DL.tNil, DL.tCons, DL.tSub, iSeq, srcOf_tup, srcOf_fl, srcOf_kl, srcOf_ti, iRange1, iRange2, sFor, startD, List.map_cons, List.map_nil, List.length_cons, List.length_nil, List.replicate, List.cons_append, List.nil_append, List.getElem?_cons_zero, List.getElem?_cons_succ, List.set_cons_zero, List.set_cons_succ, dSub_int, dFdiv_int, dMod_int, dLt_int, dLe_int, dGt_int, dGe_int, dAddI_int, dSubI_int, dIsN_non, isN, dAdd_int, ll0, ll1, ll2, ll3, ll4, ll5, ll6, ll7, ll8, ll9, ll10, ll11, ll12, ll13, ll14, ll15, ll16, ll17, ll18, ll19, ll20, ll21, ll22, ll23, ll24, ll25, ll26, ll27, ll28, ll29, ll30, ll31, ll32, ll33, ll34, ll35, ll36, ll37, ll38, ll39, ll40, Nat.reduceSub, Nat.reduceAdd, Nat.reduceEqDiff, if_true, if_false, ifp_t, ifp_f, reduceIte, Bool.true_eq_false, Bool.false_eq_true, Option.map_some, Option.map_none, Option.bind_some, Option.bind_none, tSq, sSet2, seqOf_fl, seqOf_tup, seqOf_ti, lo, z1, c1, q1, c2, c3, q2]
theorem right_loop (fs : List (Int × Int)) (hf : fs ≠ []) (hl : fs.length ≤ 20) (hr : ∀ e ∈ fs, Run e) (x2 x5 x6 : Option D) : ∀ (f : List (Int × Int)) (b : Int) (S : Sto) (n : Nat) (x4 : Option D), (∀ e ∈ f, e ∈ fbR fs) → f.Pairwise (fun a b => a.2 + 2 ≤ b.1) → (∀ e ∈ f, b + 2 ≤ e.1) → Strm S n [] → n + f.length < 2 ^ 60 →
    ∃ y3 y4 S', forD yes (tN 4) L1__law_right sNil (f.map dp) [some (.loc 1), some (.tup (fs.map dp)), x2, some (.int b), x4, x5, x6] S = .nx [some (.loc 1), some (.tup (fs.map dp)), x2, y3, y4, x5, x6] S' ∧ Strm S' (n + f.length) []
  | [], b, S, n, x4, _, _, _, hS, _ => ⟨some (.int b), x4, S, by rw [List.map_nil, forD_nil trivial]; rfl, by simpa using hS⟩
  | e :: f, b, S, n, x4, hm, hp, hb, hS, hn => by
    rw [List.length_cons] at hn
    have he := hm e List.mem_cons_self
    obtain ⟨p1, p2⟩ := List.pairwise_cons.mp hp
    obtain ⟨S1, r1, s1⟩ := range_right_ok fs hf hl hr he hS (by omega)
    obtain ⟨y3, y4, S', ih, s'⟩ := right_loop fs hf hl hr x2 x5 x6 f e.2 S1 (n + 1) (some (dp e)) (fun x hx => hm x (List.mem_cons_of_mem _ hx)) p2 p1 s1 (by omega)
    refine ⟨y3, y4, S', ?_, s'.mono (by rw [List.length_cons]; omega)⟩
    have rr := fb_rgs fs hr
    have le := rr.le e he
    have lo := length_ok fs (by omega)
    have tl := toks_len fs hr
    have l2 : e.2 ≤ len fs - 1 := by
      obtain ⟨p, hp, hx⟩ := List.mem_map.mp (rr.mem.mpr ⟨e, he, le, Int.le_refl _⟩)
      have := (mem_begs.mp hp).1
      omega
    have b1 := hb e List.mem_cons_self
    have it : ∀ S, bIsi [dp e, .ty "tuple"] S = .ok (.bl true) S := fun S => isi_tup (v := dp e) rfl S
    have ln : ∀ S, bLen [dp e] S = .ok (.int 2) S := fun S => rfl
    have q2 : ∀ S, dEq true (.int 2) (.int 2) S = .ok (.bl false) S := fun S => rfl
    have i0 : ∀ S, dIx (dp e) (.int 0) S = .ok (.int e.1) S := fun S => rfl
    have i1 : ∀ S, dIx (dp e) (.int 1) S = .ok (.int e.2) S := fun S => rfl
    have w1 := whole_any (v := .int e.1) rfl (b + 2) (len fs - 1)
    have w2 := whole_any (v := .int e.2) rfl e.1 (len fs - 1)
    have e1 : isI (.int e.1) (b + 2) (len fs - 1) = true := decide_eq_true (by omega)
    have e2 : isI (.int e.2) e.1 (len fs - 1) = true := decide_eq_true (by omega)
    rw [e1] at w1
    rw [e2] at w2
    generalize hF : D.tup (fs.map dp) = Fd at *
    rw [List.map_cons, forD_cons (ρ1 := [some (.loc 1), some Fd, x2, some (.int b), some (dp e), x5, x6]) (S1 := S) (ρ2 := [some (.loc 1), some Fd, x2, some (.int e.2), some (dp e), x5, x6]) (S2 := S1) trivial rfl ?_, ih]
    simp only [eVar, eC, eOp, eT, eAnd, eOr, eNot, eIf, eAndV, eOrV, eNotV, eCall, aNil, aCons, aStar, sOf, eTup, eFl, eLoc, eSl, oNone, oSome, iOf, eNeg, eChain, eMt, bOf, eDict0, eRev, eListRg, iZipD, sRaise1, sRaise0, eCallV, List.lookup, R.bind_ok, R.bind_er, R.bind_stuck, R.toS_ok, R.toS_er, R.toS_stuck, SR.next_nx, SR.next_rt, SR.next_er, SR.next_bk, SR.next_ct, SR.next_stuck, sNil, sSeq, sBrk, sCnt, sExp, sRet, sRetN, sIf, sSet, sAsg, sAug, sPar2, sPar3, tN, DL.tTup, DL.tNil, DL.tCons, DL.tSub, iSeq, srcOf_tup, srcOf_fl, srcOf_kl, srcOf_ti, iRange1, iRange2, sFor, startD, List.map_cons, List.map_nil, List.length_cons, List.length_nil, List.replicate, List.cons_append, List.nil_append, List.getElem?_cons_zero, List.getElem?_cons_succ, List.set_cons_zero, List.set_cons_succ, dSub_int, dFdiv_int, dMod_int, dLt_int, dLe_int, dGt_int, dGe_int, dAddI_int, dSubI_int, dIsN_non, isN, dAdd_int, ll0, ll1, ll2, ll3, ll4, ll5, ll6, ll7, ll8, ll9, ll10, ll11, ll12, ll13, ll14, ll15, ll16, ll17, ll18, ll19, ll20, ll21, ll22, ll23, ll24, ll25, ll26, ll27, ll28, ll29, ll30, ll31, ll32, ll33, ll34, ll35, ll36, ll37, ll38, ll39, ll40, Nat.reduceSub, Nat.reduceAdd, Nat.reduceEqDiff, if_true, if_false, ifp_t, ifp_f, reduceIte, Bool.true_eq_false, Bool.false_eq_true, Option.map_some, Option.map_none, Option.bind_some, Option.bind_none, tSq, sSet2, seqOf_fl, seqOf_tup, seqOf_ti, L1__law_right, it, Bool.not_true, ln, q2, i0, lo, w1, i1, w2, r1]
theorem right_ok (fs : List (Int × Int)) (hf : fs ≠ []) (hl : fs.length ≤ 20) (hr : ∀ e ∈ fs, Run e) {S : Sto} {n : Nat} (hS : Strm S n []) (hn : n + 20 < 2 ^ 60) : ∃ S', F__law_right [.loc 1, .tup (fs.map dp)] S = .ok (.bl true) S' ∧ Strm S' (n + 20) [] := by
  have rr := fb_rgs fs hr
  have fb := fb_ok fs (by omega) hr
  have fl := fbR_len fs
  have to := total_ok fs (by omega) hr
  have hst : startD 7 [D.loc 1, D.tup (fs.map dp)] = [some (.loc 1), some (.tup (fs.map dp)), none, none, none, none, none] := rfl
  obtain ⟨y3, y4, S1, lp, s1⟩ := right_loop fs hf hl hr (some (.tup ((fbR fs).map dp))) none none (fbR fs) (-2) S n none (fun e he => he) rr.gap (by
    intro e he
    obtain ⟨p, hp, hx⟩ := List.mem_map.mp (rr.mem.mpr ⟨e, he, Int.le_refl _, rr.le e he⟩)
    omega) hS (by omega)
  have it : ∀ S, bIsi [.tup ((fbR fs).map dp), .ty "tuple"] S = .ok (.bl true) S := fun S => isi_tup (v := .tup ((fbR fs).map dp)) rfl S
  generalize hF : D.tup (fs.map dp) = Fd at *
  have key := pair_lc (i := 2) (j := 5) (k := 6) (f := E1__law_right) (ρ := [some (.loc 1), some Fd, some (.tup ((fbR fs).map dp)), y3, y4, none, none]) (S := S1) (src := iSeq (eVar 2)) (fs := fbR fs) (fun e => e.2 - e.1 + 1) (fun e => [some (.loc 1), some Fd, some (.tup ((fbR fs).map dp)), y3, y4, some (.int e.1), some (.int e.2)]) (iS_tup rfl S1) (by omega) (fun e _ S' => rfl) (by
    intro e he S'
    simp only [eVar, eC, eOp, eT, eAnd, eOr, eNot, eIf, eAndV, eOrV, eNotV, eCall, aNil, aCons, aStar, sOf, eTup, eFl, eLoc, eSl, oNone, oSome, iOf, eNeg, eChain, eMt, bOf, eDict0, eRev, eListRg, iZipD, sRaise1, sRaise0, eCallV, List.lookup, R.bind_ok, R.bind_er, R.bind_stuck, R.toS_ok, R.toS_er, R.toS_stuck, SR.next_nx, SR.next_rt, SR.next_er, SR.next_bk, SR.next_ct, SR.next_stuck, sNil, sSeq, sBrk, sCnt, sExp, sRet, sRetN, sIf, sSet, sAsg, sAug, sPar2, sPar3, tN, DL.tTup, DL.tNil, DL.tCons, DL.tSub, iSeq, srcOf_tup, srcOf_fl, srcOf_kl, srcOf_ti, iRange1, iRange2, sFor, startD, List.map_cons, List.map_nil, List.length_cons, List.length_nil, List.replicate, List.cons_append, List.nil_append, List.getElem?_cons_zero, List.getElem?_cons_succ, List.set_cons_zero, List.set_cons_succ, dSub_int, dFdiv_int, dMod_int, dLt_int, dLe_int, dGt_int, dGe_int, dAddI_int, dSubI_int, dIsN_non, isN, dAdd_int, ll0, ll1, ll2, ll3, ll4, ll5, ll6, ll7, ll8, ll9, ll10, ll11, ll12, ll13, ll14, ll15, ll16, ll17, ll18, ll19, ll20, ll21, ll22, ll23, ll24, ll25, ll26, ll27, ll28, ll29, ll30, ll31, ll32, ll33, ll34, ll35, ll36, ll37, ll38, ll39, ll40, Nat.reduceSub, Nat.reduceAdd, Nat.reduceEqDiff, if_true, if_false, ifp_t, ifp_f, reduceIte, Bool.true_eq_false, Bool.false_eq_true, Option.map_some, Option.map_none, Option.bind_some, Option.bind_none, tSq, sSet2, seqOf_fl, seqOf_tup, seqOf_ti, E1__law_right])
  have sm : ∀ S, bSum2 [.fl (((fbR fs).map fun e => e.2 - e.1 + 1).map D.int)] S = .ok (.int (max 0 (tot fs))) S := fun S => by
    rw [sum_fli, rr.len, List.length_map, begs_count fun t ht => (toks_ar fs hr t ht).1, toks_bal fs hr]
  have mx : ∀ S, bMax [.int 0, .int (tot fs)] S = .ok (.int (max 0 (tot fs))) S := fun S => rfl
  have q : ∀ S, dEq false (.int (max 0 (tot fs))) (.int (max 0 (tot fs))) S = .ok (.bl true) S := fun S => by rw [dEq_int]; simp
  refine ⟨S1, ?_, s1.mono (by omega)⟩
  refine fnC_rt rfl ?_ (by rw [s1.len, hS.len])
  rw [hst]
  unfold B__law_right
  generalize eLc finFl (iSeq (eVar 2)) (tTup 2 (tCons (tN 5) (tCons (tN 6) tNil))) [5, 6] cYes E1__law_right = LC at key ⊢
  simp only [eVar, eC, eOp, eT, eAnd, eOr, eNot, eIf, eAndV, eOrV, eNotV, eCall, aNil, aCons, aStar, sOf, eTup, eFl, eLoc, eSl, oNone, oSome, iOf, eNeg, eChain, eMt, bOf, eDict0, eRev, eListRg, iZipD, sRaise1, sRaise0, eCallV, List.lookup, R.bind_ok, R.bind_er, R.bind_stuck, R.toS_ok, R.toS_er, R.toS_stuck, SR.next_nx, SR.next_rt, SR.next_er, SR.next_bk, SR.next_ct, SR.next_stuck, sNil, sSeq, sBrk, sCnt, sExp, sRet, sRetN, sIf, sSet, sAsg, sAug, sPar2, sPar3, tN, DL.tTup, DL.tNil, DL.tCons, DL.tSub, iSeq, srcOf_tup, srcOf_fl, srcOf_kl, srcOf_ti, iRange1, iRange2, sFor, startD, List.map_cons, List.map_nil, List.length_cons, List.length_nil, List.replicate, List.cons_append, List.nil_append, List.getElem?_cons_zero, List.getElem?_cons_succ, List.set_cons_zero, List.set_cons_succ, dSub_int, dFdiv_int, dMod_int, dLt_int, dLe_int, dGt_int, dGe_int, dAddI_int, dSubI_int, dIsN_non, isN, dAdd_int, ll0, ll1, ll2, ll3, ll4, ll5, ll6, ll7, ll8, ll9, ll10, ll11, ll12, ll13, ll14, ll15, ll16, ll17, ll18, ll19, ll20, ll21, ll22, ll23, ll24, ll25, ll26, ll27, ll28, ll29, ll30, ll31, ll32, ll33, ll34, ll35, ll36, ll37, ll38, ll39, ll40, Nat.reduceSub, Nat.reduceAdd, Nat.reduceEqDiff, if_true, if_false, ifp_t, ifp_f, reduceIte, Bool.true_eq_false, Bool.false_eq_true, Option.map_some, Option.map_none, Option.bind_some, Option.bind_none, tSq, sSet2, seqOf_fl, seqOf_tup, seqOf_ti, fb, it, Bool.not_true, lp, key, sm, to, mx, q]
theorem law_ok : LawOk F_law := law_by fun ns hl _ => by
  obtain ⟨S0, h0, s0⟩ := stream_ok hl
  generalize hsc : some (D.kl (ns.map D.int)) = sc
  have p10 : ∀ S, dPow (.int 10) (.int 10) S = .ok (.int (10 ^ 10)) S := fun S => dPow_ok (by decide) S
  obtain ⟨ρ', S1, ⟨x2, x3, x4, rfl⟩, s1, hf⟩ := forD_strm (T := tN 2) (B := L1_law) (Z := sNil) (rest := []) (fun ρ => ∃ x2 x3 x4, ρ = [sc, some (.loc 1), x2, x3, x4, none]) 60 (rangeD 0 8) [sc, some (.loc 1), none, none, none, none] S0 0 ⟨_, _, _, rfl⟩ s0 (by rw [rangeD_len]; omega) (by
    rintro d hd ρ S n ⟨x2, x3, x4, rfl⟩ hS hn
    obtain ⟨fs, S1, f1, f2, f3, f3', f4, f5, s1⟩ := far_ok2 hS (runs := 12) (most := 10 ^ 10) (by decide) (by decide) (by decide) (by decide) (by omega)
    obtain ⟨S2, r1, s2⟩ := right_ok fs f2 (by omega) f4 s1 (by omega)
    have rf := repr_s (shw_far (by omega) f4) (by decide) (by decide)
    generalize hF : D.tup (fs.map dp) = Fd at *
    refine ⟨_, [sc, some (.loc 1), some d, some Fd, some (.str (shD Fd)), none], S2, rfl, .inl ?_, ⟨_, _, _, rfl⟩, s2.mono (by omega)⟩
    show L1_law [sc, some (.loc 1), some d, x3, x4, none] S = _
    simp only [eVar, eC, eOp, eT, eAnd, eOr, eNot, eIf, eAndV, eOrV, eNotV, eCall, aNil, aCons, aStar, sOf, eTup, eFl, eLoc, eSl, oNone, oSome, iOf, eNeg, eChain, eMt, bOf, eDict0, eRev, eListRg, iZipD, sRaise1, sRaise0, eCallV, List.lookup, R.bind_ok, R.bind_er, R.bind_stuck, R.toS_ok, R.toS_er, R.toS_stuck, SR.next_nx, SR.next_rt, SR.next_er, SR.next_bk, SR.next_ct, SR.next_stuck, sNil, sSeq, sBrk, sCnt, sExp, sRet, sRetN, sIf, sSet, sAsg, sAug, sPar2, sPar3, tN, DL.tTup, DL.tNil, DL.tCons, DL.tSub, iSeq, srcOf_tup, srcOf_fl, srcOf_kl, srcOf_ti, iRange1, iRange2, sFor, startD, List.map_cons, List.map_nil, List.length_cons, List.length_nil, List.replicate, List.cons_append, List.nil_append, List.getElem?_cons_zero, List.getElem?_cons_succ, List.set_cons_zero, List.set_cons_succ, dSub_int, dFdiv_int, dMod_int, dLt_int, dLe_int, dGt_int, dGe_int, dAddI_int, dSubI_int, dIsN_non, isN, dAdd_int, ll0, ll1, ll2, ll3, ll4, ll5, ll6, ll7, ll8, ll9, ll10, ll11, ll12, ll13, ll14, ll15, ll16, ll17, ll18, ll19, ll20, ll21, ll22, ll23, ll24, ll25, ll26, ll27, ll28, ll29, ll30, ll31, ll32, ll33, ll34, ll35, ll36, ll37, ll38, ll39, ll40, Nat.reduceSub, Nat.reduceAdd, Nat.reduceEqDiff, if_true, if_false, ifp_t, ifp_f, reduceIte, Bool.true_eq_false, Bool.false_eq_true, Option.map_some, Option.map_none, Option.bind_some, Option.bind_none, tSq, sSet2, seqOf_fl, seqOf_tup, seqOf_ti, L1_law, p10, f1, rf, r1, Bool.not_true, dEq_str, decide_true])
  rw [rangeD_len] at s1
  have w3 : ∀ e ∈ [((0 : Int), (3 : Int)), (2, 2), (0, 10 ^ 11)], Run e := by
    intro e he
    simp only [List.mem_cons, List.not_mem_nil, or_false] at he
    rcases he with rfl | rfl | rfl <;> exact ⟨by decide, by decide, by decide, by decide⟩
  obtain ⟨S2, r2, s2⟩ := right_ok [(0, 3), (2, 2), (0, 10 ^ 11)] (by simp) (by simp) w3 s1 (by omega)
  have r2' : F__law_right [.loc 1, .tup [.tup [.int 0, .int 3], .tup [.int 2, .int 2], .tup [.int 0, .int (10 ^ 11)]]] S1 = .ok (.bl true) S2 := r2
  refine ⟨S2, ?_⟩
  have hst : startD 6 [D.kl (ns.map D.int)] = [sc, none, none, none, none, none] := by rw [← hsc]; rfl
  rw [hst]
  subst hsc
  unfold B_law
  have hr : ((-(2 ^ 62) : Int) ≤ 8 ∧ (8 : Int) < 2 ^ 62) = True := by simp
  have p11 : ∀ S, dPow (.int 10) (.int 11) S = .ok (.int (10 ^ 11)) S := fun S => dPow_ok (by decide) S
  have p12 : ∀ S, dPow (.int 10) (.int 12) S = .ok (.int (10 ^ 12)) S := fun S => dPow_ok (by decide) S
  have c1 : ∀ S, F_far_beginnings [.tup [.tup [.int 0, .int (10 ^ 12)]]] S = .ok (.tup [.tup [.int 0, .int (10 ^ 12 - 1)]]) S := fun S => by
    have := fb_ok [(0, 10 ^ 12)] (by simp) (by
      intro e he
      rw [List.mem_singleton.mp he]
      exact ⟨by decide, by decide, by decide, by decide⟩) S
    have e : fbR [(0, 10 ^ 12)] = [(0, 10 ^ 12 - 1)] := by decide +kernel
    rw [e] at this
    exact this
  have q1 : ∀ (a : Int) S, dEq false (.tup [.tup [.int 0, .int a]]) (.tup [.tup [.int 0, .int a]]) S = .ok (.bl true) S := fun a S => by
    have h1 : pyS S (.tup [.tup [.int 0, .int a]]) = some (.tuple [.tuple [.int 0, .int a]]) := rfl
    show dEqP false (.tup [.tup [.int 0, .int a]]) (.tup [.tup [.int 0, .int a]]) S = _
    rw [dEqP_py h1 h1 (shaped_dpT [(0, a)]) (shaped_dpT [(0, a)])]
    simp [PyData.eqv, PyData.eqvAll]
  simp only [eVar, eC, eOp, eT, eAnd, eOr, eNot, eIf, eAndV, eOrV, eNotV, eCall, aNil, aCons, aStar, sOf, eTup, eFl, eLoc, eSl, oNone, oSome, iOf, eNeg, eChain, eMt, bOf, eDict0, eRev, eListRg, iZipD, sRaise1, sRaise0, eCallV, List.lookup, R.bind_ok, R.bind_er, R.bind_stuck, R.toS_ok, R.toS_er, R.toS_stuck, SR.next_nx, SR.next_rt, SR.next_er, SR.next_bk, SR.next_ct, SR.next_stuck, sNil, sSeq, sBrk, sCnt, sExp, sRet, sRetN, sIf, sSet, sAsg, sAug, sPar2, sPar3, tN, DL.tTup, DL.tNil, DL.tCons, DL.tSub, iSeq, srcOf_tup, srcOf_fl, srcOf_kl, srcOf_ti, iRange1, iRange2, sFor, startD, List.map_cons, List.map_nil, List.length_cons, List.length_nil, List.replicate, List.cons_append, List.nil_append, List.getElem?_cons_zero, List.getElem?_cons_succ, List.set_cons_zero, List.set_cons_succ, dSub_int, dFdiv_int, dMod_int, dLt_int, dLe_int, dGt_int, dGe_int, dAddI_int, dSubI_int, dIsN_non, isN, dAdd_int, ll0, ll1, ll2, ll3, ll4, ll5, ll6, ll7, ll8, ll9, ll10, ll11, ll12, ll13, ll14, ll15, ll16, ll17, ll18, ll19, ll20, ll21, ll22, ll23, ll24, ll25, ll26, ll27, ll28, ll29, ll30, ll31, ll32, ll33, ll34, ll35, ll36, ll37, ll38, ll39, ll40, Nat.reduceSub, Nat.reduceAdd, Nat.reduceEqDiff, if_true, if_false, ifp_t, ifp_f, reduceIte, Bool.true_eq_false, Bool.false_eq_true, Option.map_some, Option.map_none, Option.bind_some, Option.bind_none, tSq, sSet2, seqOf_fl, seqOf_tup, seqOf_ti, h0, hr, show Int.toNat 8 = 8 from rfl, hf, p11, p12, c1, q1, r2']
end TX

namespace TX
open PySem PySem.Spec L2 DL
open PyProof.Rows hiding St

structure Tx (K : PySem.W.Frag) (mg : Str → Option Value) (f__law_stream f__law_draw f__law_pick f__law_total f__law_far f_count_ready f_far_beginnings f__law_whole f__law_length f__law_lowest f__law_parts f__law_far_need f__law_range_right f__law_right f_law : Addr) : Prop where
  mg__law_stream : mg "_law_stream" = some (.ref f__law_stream)
  kp__law_stream : PySem.W.keepIn K (.ref f__law_stream) = true
  mg__law_draw : mg "_law_draw" = some (.ref f__law_draw)
  kp__law_draw : PySem.W.keepIn K (.ref f__law_draw) = true
  mg__law_pick : mg "_law_pick" = some (.ref f__law_pick)
  kp__law_pick : PySem.W.keepIn K (.ref f__law_pick) = true
  mg__law_total : mg "_law_total" = some (.ref f__law_total)
  kp__law_total : PySem.W.keepIn K (.ref f__law_total) = true
  mg__law_far : mg "_law_far" = some (.ref f__law_far)
  kp__law_far : PySem.W.keepIn K (.ref f__law_far) = true
  mg_count_ready : mg "count_ready" = some (.ref f_count_ready)
  kp_count_ready : PySem.W.keepIn K (.ref f_count_ready) = true
  mg_far_beginnings : mg "far_beginnings" = some (.ref f_far_beginnings)
  kp_far_beginnings : PySem.W.keepIn K (.ref f_far_beginnings) = true
  mg__law_whole : mg "_law_whole" = some (.ref f__law_whole)
  kp__law_whole : PySem.W.keepIn K (.ref f__law_whole) = true
  mg__law_length : mg "_law_length" = some (.ref f__law_length)
  kp__law_length : PySem.W.keepIn K (.ref f__law_length) = true
  mg__law_lowest : mg "_law_lowest" = some (.ref f__law_lowest)
  kp__law_lowest : PySem.W.keepIn K (.ref f__law_lowest) = true
  mg__law_parts : mg "_law_parts" = some (.ref f__law_parts)
  kp__law_parts : PySem.W.keepIn K (.ref f__law_parts) = true
  mg__law_far_need : mg "_law_far_need" = some (.ref f__law_far_need)
  kp__law_far_need : PySem.W.keepIn K (.ref f__law_far_need) = true
  mg__law_range_right : mg "_law_range_right" = some (.ref f__law_range_right)
  kp__law_range_right : PySem.W.keepIn K (.ref f__law_range_right) = true
  mg__law_right : mg "_law_right" = some (.ref f__law_right)
  kp__law_right : PySem.W.keepIn K (.ref f__law_right) = true
  n_range : mg "range" = none
  n_repr : mg "repr" = none
  n_abs : mg "abs" = none
  n_len : mg "len" = none
  n_tuple : mg "tuple" = none
  n_sum : mg "sum" = none
  n_isinstance : mg "isinstance" = none
  n_max : mg "max" = none
  n_enumerate : mg "enumerate" = none
  n_min : mg "min" = none
  n_int : mg "int" = none
  n_bool : mg "bool" = none
section
variable {P : Program} {w : World} {K : PySem.W.Frag} {mg : Str → Option Value} {base : Heap} {f__law_stream f__law_draw f__law_pick f__law_total f__law_far f_count_ready f_far_beginnings f__law_whole f__law_length f__law_lowest f__law_parts f__law_far_need f__law_range_right f__law_right f_law : Addr}
theorem sc__law_stream : FnScope nm__law_stream ["_law_script"] (defScope st__law_stream) := ⟨rfl, rfl, rfl, by decide +kernel, rfl, by decide +kernel, by decide +kernel⟩
set_option maxHeartbeats 4000000 in
theorem fn__law_stream {fd : FuncData} (T : Tx K mg f__law_stream f__law_draw f__law_pick f__law_total f__law_far f_count_ready f_far_beginnings f__law_whole f__law_length f__law_lowest f__law_parts f__law_far_need f__law_range_right f__law_right f_law) (Fu : Fun K "_law_stream" "_law_stream" st__law_stream f__law_stream fd) : FnD true P w K mg base 1 f__law_stream F__law_stream := by
  have nd := (sc__law_stream).nd
  exact fnD_of Fu sc__law_stream (Fu.binds fun _ _ _ _ _ _ us hl => match us, hl with | [_], _ => rfl) cl_keep fun cdv A outer s H E hr hG tk po =>
    (dss_cons (ds_setLc 1 (own := [("_law_cell", 2)]) fin_fl (ct_name 2) rfl nd (di_seq (de_var 0)) (blkOk_by (own := [("_law_cell", 2)]) (N := nm__law_stream) (sc := defScope st__law_stream) (by decide +kernel)) (fun _ _ _ _ _ => pg_name (i := 2) nd rfl (Or.inl rfl)) (fun _ _ _ _ _ => dts_nil) (fun _ _ _ _ _ => (de_callB call_abs k_abs T.n_abs (by decide +kernel) (da_cons (de_var 2) da_nil))))
    (dss_one (ds_ret (de_loc (da_cons (de_lc (own := [("_law_cell", 2)]) fin_loc (ct_name 2) rfl nd (di_seq (de_var 1)) (blkOk_by (own := [("_law_cell", 2)]) (N := nm__law_stream) (sc := defScope st__law_stream) (by decide +kernel)) (fun _ _ _ _ _ => pg_name (i := 2) nd rfl (Or.inl rfl)) (fun _ _ _ _ _ => (dts_one (dt_cmp op_ge k_ge (de_var 2) (de_op op_pow k_pow de_int de_int) (nomark _)))) (fun _ _ _ _ _ => (de_var 2))) (da_cons (de_op or_add k_add (de_var 1) (de_fl (da_cons (de_op or_add k_add (de_callB c_len k_len T.n_len (by decide +kernel) (da_cons (de_var 1) da_nil)) de_int) da_nil))) (da_cons de_int da_nil)))))))
theorem sc__law_draw : FnScope nm__law_draw ["_law_stream_here", "_law_many"] (defScope st__law_draw) := ⟨rfl, rfl, rfl, by decide +kernel, rfl, by decide +kernel, by decide +kernel⟩
set_option maxHeartbeats 4000000 in
theorem fn__law_draw {fd : FuncData} (T : Tx K mg f__law_stream f__law_draw f__law_pick f__law_total f__law_far f_count_ready f_far_beginnings f__law_whole f__law_length f__law_lowest f__law_parts f__law_far_need f__law_range_right f__law_right f_law) (Fu : Fun K "_law_draw" "_law_draw" st__law_draw f__law_draw fd) : FnD true P w K mg base 1 f__law_draw F__law_draw := by
  have nd := (sc__law_draw).nd
  exact fnD_of Fu sc__law_draw (Fu.binds fun _ _ _ _ _ _ us hl => match us, hl with | [_, _], _ => rfl) cl_drop fun cdv A outer s H E hr hG tk po =>
    (dss_cons (ds_while 4000 po (dt_cmp (or_ne hr.units) k_neD (de_ix (de_var 0) de_int) (de_fl da_nil) (nomark _)) (dss_cons (ds_set 2 nd (de_ix (de_ix (de_var 0) de_int) de_int))
    (dss_cons (ds_if (dt_cmp op_gt k_gt (de_var 2) de_int (nomark _)) (dss_cons (ds_asg (de_op op_fdivW k_fdiv (de_var 2) (de_var 1)) (dg_sub (W := (fun cls d _ H' => E cls d H')) (de_ix (de_var 0) de_int) de_int))
    (dss_one (ds_ret (de_op op_modN k_mod (de_var 2) (de_var 1))))) dss_nil)
    (dss_one (ds_expr (de_bm PySem.F.plainAttrs_list PySem.F.slot_list_pop PySem.F.type_list_pop mt_popAt k_popAt chk_lst (de_ix (de_var 0) de_int) (da_cons de_int da_nil)))))))
    (dss_cons (ds_set 3 nd (de_op or_add k_add (de_ix (de_var 0) de_int) de_int))
    (dss_cons (ds_asg (de_var 3) (dg_sub (W := (fun cls d _ H' => E cls d H')) (de_var 0) de_int))
    (dss_cons (ds_set 4 nd (de_op op_modN k_mod (de_ix (de_ix (de_var 0) de_int) (de_op op_modN k_mod (de_var 3) (de_callB c_len k_len T.n_len (by decide +kernel) (da_cons (de_ix (de_var 0) de_int) da_nil)))) de_int))
    (dss_cons (ds_set 5 nd (de_op op_modN k_mod (de_op or_add k_add (de_op or_add k_add (de_op or_mul k_mul (de_var 4) (de_op or_add k_add de_int (de_op or_mul k_mul de_int (de_var 3)))) (de_op or_mul k_mul (de_op or_mul k_mul de_int (de_var 3)) (de_var 3))) de_int) de_int))
    (dss_one (ds_ret (de_op op_modN k_mod (de_op op_fdivW k_fdiv (de_op op_modN k_mod (de_op or_mul k_mul (de_var 5) (de_var 5)) de_int) de_int) (de_var 1)))))))))
theorem sc__law_pick : FnScope nm__law_pick ["_law_stream_here", "_law_items"] (defScope st__law_pick) := ⟨rfl, rfl, rfl, by decide +kernel, rfl, by decide +kernel, by decide +kernel⟩
set_option maxHeartbeats 4000000 in
theorem fn__law_pick {fd : FuncData} (T : Tx K mg f__law_stream f__law_draw f__law_pick f__law_total f__law_far f_count_ready f_far_beginnings f__law_whole f__law_length f__law_lowest f__law_parts f__law_far_need f__law_range_right f__law_right f_law) (Fu : Fun K "_law_pick" "_law_pick" st__law_pick f__law_pick fd) (G__law_draw : FnD true P w K mg base 1 f__law_draw F__law_draw) : FnD true P w K mg base 2 f__law_pick F__law_pick := by
  have nd := (sc__law_pick).nd
  exact fnD_of Fu sc__law_pick (Fu.binds fun _ _ _ _ _ _ us hl => match us, hl with | [_, _], _ => rfl) cl_drop fun cdv A outer s H E hr hG tk po =>
    (dss_one (ds_ret (de_ix (de_var 1) (de_callD G__law_draw (hr.mono (by decide)) hG tk T.mg__law_draw T.kp__law_draw (da_cons (de_var 0) (da_cons (de_callB c_len k_len T.n_len (by decide +kernel) (da_cons (de_var 1) da_nil)) da_nil))))))
theorem sc__law_total : FnScope nm__law_total ["_law_far_here"] (defScope st__law_total) := ⟨rfl, rfl, rfl, by decide +kernel, rfl, by decide +kernel, by decide +kernel⟩
set_option maxHeartbeats 4000000 in
theorem fn__law_total {fd : FuncData} (T : Tx K mg f__law_stream f__law_draw f__law_pick f__law_total f__law_far f_count_ready f_far_beginnings f__law_whole f__law_length f__law_lowest f__law_parts f__law_far_need f__law_range_right f__law_right f_law) (Fu : Fun K "_law_total" "_law_total" st__law_total f__law_total fd) : FnD true P w K mg base 1 f__law_total F__law_total := by
  have nd := (sc__law_total).nd
  exact fnD_of Fu sc__law_total (Fu.binds fun _ _ _ _ _ _ us hl => match us, hl with | [_], _ => rfl) cl_drop fun cdv A outer s H E hr hG tk po =>
    (dss_one (ds_ret (de_callB (cr_sum2 rfl) k_sum2 T.n_sum (by decide +kernel) (da_cons (de_lc (own := [("_law_arity", 1), ("_law_count", 2)]) fin_fl (ct_pair 1 2 (by decide)) rfl nd (di_seq (de_var 0)) (blkOk_by (own := [("_law_arity", 1), ("_law_count", 2)]) (N := nm__law_total) (sc := defScope st__law_total) (by decide +kernel)) (fun _ _ _ _ _ => pg_tup rfl (pgs_cons (pg_name (i := 1) nd rfl (Or.inl rfl)) (pgs_cons (pg_name (i := 2) nd rfl (Or.inl rfl)) pgs_nil))) (fun _ _ _ _ _ => dts_nil) (fun _ _ _ _ _ => (de_op or_mulT k_mulT (de_op op_sub k_sub de_int (de_var 1)) (de_var 2)))) da_nil))))
theorem sc__law_far : FnScope nm__law_far ["_law_stream_here", "_law_runs", "_law_most"] (defScope st__law_far) := ⟨rfl, rfl, rfl, by decide +kernel, rfl, by decide +kernel, by decide +kernel⟩
set_option maxHeartbeats 4000000 in
theorem fn__law_far {fd : FuncData} (T : Tx K mg f__law_stream f__law_draw f__law_pick f__law_total f__law_far f_count_ready f_far_beginnings f__law_whole f__law_length f__law_lowest f__law_parts f__law_far_need f__law_range_right f__law_right f_law) (Fu : Fun K "_law_far" "_law_far" st__law_far f__law_far fd) (G__law_pick : FnD true P w K mg base 2 f__law_pick F__law_pick) (G__law_draw : FnD true P w K mg base 1 f__law_draw F__law_draw) (G__law_total : FnD true P w K mg base 1 f__law_total F__law_total) : FnD true P w K mg base 3 f__law_far F__law_far := by
  have nd := (sc__law_far).nd
  exact fnD_of Fu sc__law_far (Fu.binds fun _ _ _ _ _ _ us hl => match us, hl with | [_, _, _], _ => rfl) cl_drop fun cdv A outer s H E hr hG tk po =>
    (dss_cons (ds_par2 3 4 rfl nd (da_cons (de_callD G__law_pick (hr.mono (by decide)) hG tk T.mg__law_pick T.kp__law_pick (da_cons (de_var 0) (da_cons (de_fl (da_cons (de_fl (da_cons de_int (da_cons de_int (da_cons de_int da_nil)))) (da_cons (de_fl (da_cons de_int (da_cons de_int da_nil))) (da_cons (de_fl (da_cons de_int (da_cons de_int (da_cons de_int (da_cons de_int da_nil))))) (da_cons (de_fl (da_cons de_int (da_cons de_int (da_cons de_int (da_cons de_int (da_cons de_int (da_cons de_int da_nil))))))) (da_cons (de_fl (da_cons de_int (da_cons de_int da_nil))) (da_cons (de_fl (da_cons de_int da_nil)) da_nil))))))) da_nil))) (da_cons (de_loc da_nil) da_nil)))
    (dss_cons (ds_for po rfl (di_range1 rfl T.n_range (da_cons (de_op or_add k_add de_int (de_callD G__law_draw (hr.mono (by decide)) hG tk T.mg__law_draw T.kp__law_draw (da_cons (de_var 0) (da_cons (de_var 1) da_nil)))) da_nil)) (dg_name 5 nd) (dss_one (ds_expr (de_bm PySem.F.plainAttrs_list PySem.F.slot_list_append PySem.F.type_list_append mt_append k_append chk_lst (de_var 4) (da_cons (de_tup (da_cons (de_callD G__law_pick (hr.mono (by decide)) hG tk T.mg__law_pick T.kp__law_pick (da_cons (de_var 0) (da_cons (de_var 3) da_nil))) (da_cons (de_op or_add k_add de_int (de_callD G__law_draw (hr.mono (by decide)) hG tk T.mg__law_draw T.kp__law_draw (da_cons (de_var 0) (da_cons (de_var 2) da_nil)))) da_nil))) da_nil)))) dss_nil)
    (dss_cons (ds_set 6 nd (de_op op_sub k_sub (de_callD G__law_draw (hr.mono (by decide)) hG tk T.mg__law_draw T.kp__law_draw (da_cons (de_var 0) (da_cons de_int da_nil))) (de_callD G__law_total (hr.mono (by decide)) hG tk T.mg__law_total T.kp__law_total (da_cons (de_var 4) da_nil))))
    (dss_cons (ds_if (dw_t (dw_and (dt_cmp (or_eq hr.units) k_eqD (de_callD G__law_draw (hr.mono (by decide)) hG tk T.mg__law_draw T.kp__law_draw (da_cons (de_var 0) (da_cons de_int da_nil))) de_int (nomark _)) (dw_and (dt_cmp op_gt k_gt (de_var 6) de_int (nomark _)) (dw_and1 (dt_cmp op_lt k_lt (de_callB c_len k_len T.n_len (by decide +kernel) (da_cons (de_var 4) da_nil)) de_int (nomark _)))))) (dss_one (ds_expr (de_bm PySem.F.plainAttrs_list PySem.F.slot_list_insert PySem.F.type_list_insert mt_insert k_insert chk_lst (de_var 4) (da_cons (de_callD G__law_draw (hr.mono (by decide)) hG tk T.mg__law_draw T.kp__law_draw (da_cons (de_var 0) (da_cons (de_op or_add k_add (de_callB c_len k_len T.n_len (by decide +kernel) (da_cons (de_var 4) da_nil)) de_int) da_nil))) (da_cons (de_tup (da_cons de_int (da_cons (de_var 6) da_nil))) da_nil))))) dss_nil)
    (dss_one (ds_ret (de_callTy call_tuple_of k_tuple T.n_tuple (by decide +kernel) (da_cons (de_var 4) da_nil))))))))
theorem sc_count_ready : FnScope nm_count_ready ["far", "index"] (defScope st_count_ready) := ⟨rfl, rfl, rfl, by decide +kernel, rfl, by decide +kernel, by decide +kernel⟩
set_option maxHeartbeats 4000000 in
theorem fn_count_ready {fd : FuncData} (T : Tx K mg f__law_stream f__law_draw f__law_pick f__law_total f__law_far f_count_ready f_far_beginnings f__law_whole f__law_length f__law_lowest f__law_parts f__law_far_need f__law_range_right f__law_right f_law) (Fu : Fun K "count_ready" "count_ready" st_count_ready f_count_ready fd) : FnD false P w K mg base 1 f_count_ready F_count_ready := by
  have nd := (sc_count_ready).nd
  exact fnD_of Fu sc_count_ready (Fu.binds fun _ _ _ _ _ _ us hl => match us, hl with | [_, _], _ => rfl) cl_drop fun cdv A outer s H E hr hG tk po =>
    (dss_cons (ds_set2 2 3 nd (de_ix (de_ix (de_var 0) (de_var 1)) de_int))
    (dss_cons (ds_for po rfl (di_seq (de_op or_add k_add (de_sl mk_fl (de_var 0) (do_some (de_op or_add k_add (de_var 1) de_int)) do_none) (de_sl mk_fl (de_var 0) do_none (do_some (de_var 1))))) (dg_tup rfl (dgs_cons (dg_name 4 nd) (dgs_cons (dg_name 5 nd) dgs_nil))) (dss_cons (ds_aug 2 nd (de_op or_mulT k_mulT (de_op op_sub k_sub de_int (de_var 4)) (de_var 5)) ip_add k_ipadd)
    (dss_one (ds_set 3 nd (de_callB (c_minT rfl) k_minT T.n_min (by decide +kernel) (da_cons (de_var 3) (da_cons (de_var 2) da_nil)))))) dss_nil)
    (dss_one (ds_ret (de_callB (c_max rfl) k_max T.n_max (by decide +kernel) (da_cons de_int (da_cons (de_var 3) da_nil)))))))
theorem sc_far_beginnings : FnScope nm_far_beginnings ["far"] (defScope st_far_beginnings) := ⟨rfl, rfl, rfl, by decide +kernel, rfl, by decide +kernel, by decide +kernel⟩
set_option maxHeartbeats 4000000 in
theorem fn_far_beginnings {fd : FuncData} (T : Tx K mg f__law_stream f__law_draw f__law_pick f__law_total f__law_far f_count_ready f_far_beginnings f__law_whole f__law_length f__law_lowest f__law_parts f__law_far_need f__law_range_right f__law_right f_law) (Fu : Fun K "far_beginnings" "far_beginnings" st_far_beginnings f_far_beginnings fd) (G_count_ready : FnD false P w K mg base 1 f_count_ready F_count_ready) : FnD false P w K mg base 2 f_far_beginnings F_far_beginnings := by
  have nd := (sc_far_beginnings).nd
  exact fnD_of Fu sc_far_beginnings (Fu.binds fun _ _ _ _ _ _ us hl => match us, hl with | [_], _ => rfl) cl_drop fun cdv A outer s H E hr hG tk po =>
    (dss_cons (ds_par2 1 2 rfl nd (da_cons (de_loc da_nil) (da_cons de_int da_nil)))
    (dss_cons (ds_for po rfl (di_enum rfl T.n_enumerate (da_cons (de_var 0) da_nil)) (dg_tup rfl (dgs_cons (dg_name 3 nd) (dgs_cons (dg_tup rfl (dgs_cons (dg_name 4 nd) (dgs_cons (dg_name 5 nd) dgs_nil))) dgs_nil))) (dss_cons (ds_set 6 nd (de_if (dt_cmp (or_eq hr.units) k_eqD (de_var 4) de_int (nomark _)) (de_callD G_count_ready (hr.mono (by decide)) (fun z => nomatch z) tk T.mg_count_ready T.kp_count_ready (da_cons (de_var 0) (da_cons (de_var 3) da_nil))) de_int))
    (dss_cons (ds_if (dw_t (dw_and (dt_cmp op_gt k_gt (de_var 6) de_int (nomark _)) (dw_and (dt_cmp (or_ne hr.units) k_neD (de_var 1) (de_fl da_nil) (nomark _)) (dw_and1 (dt_cmp (or_eq hr.units) k_eqD (de_ix (de_ix (de_var 1) (de_neg de_int)) de_int) (de_op op_sub k_sub (de_var 2) de_int) (nomark _)))))) (dss_one (ds_asg (de_tup (da_cons (de_ix (de_ix (de_var 1) (de_neg de_int)) de_int) (da_cons (de_op op_sub k_sub (de_op or_add k_add (de_var 2) (de_var 6)) de_int) da_nil))) (dg_sub (W := (fun cls d _ H' => E cls d H')) (de_var 1) (de_neg de_int)))) (dss_one (ds_if (dt_cmp op_gt k_gt (de_var 6) de_int (nomark _)) (dss_one (ds_expr (de_bm PySem.F.plainAttrs_list PySem.F.slot_list_append PySem.F.type_list_append mt_append k_append chk_lst (de_var 1) (da_cons (de_tup (da_cons (de_var 2) (da_cons (de_op op_sub k_sub (de_op or_add k_add (de_var 2) (de_var 6)) de_int) da_nil))) da_nil)))) dss_nil)))
    (dss_one (ds_aug 2 nd (de_var 5) ip_add k_ipadd)))) dss_nil)
    (dss_one (ds_ret (de_callTy call_tuple_of k_tuple T.n_tuple (by decide +kernel) (da_cons (de_var 1) da_nil))))))
theorem sc__law_whole : FnScope nm__law_whole ["_law_value", "_law_low", "_law_high"] (defScope st__law_whole) := ⟨rfl, rfl, rfl, by decide +kernel, rfl, by decide +kernel, by decide +kernel⟩
set_option maxHeartbeats 4000000 in
theorem fn__law_whole {fd : FuncData} (T : Tx K mg f__law_stream f__law_draw f__law_pick f__law_total f__law_far f_count_ready f_far_beginnings f__law_whole f__law_length f__law_lowest f__law_parts f__law_far_need f__law_range_right f__law_right f_law) (Fu : Fun K "_law_whole" "_law_whole" st__law_whole f__law_whole fd) : FnD true P w K mg base 1 f__law_whole F__law_whole := by
  have nd := (sc__law_whole).nd
  exact fnD_of Fu sc__law_whole (Fu.binds fun _ _ _ _ _ _ us hl => match us, hl with | [_, _, _], _ => rfl) cl_drop fun cdv A outer s H E hr hG tk po =>
    (dss_cons (ds_if (dw_t (dw_or (dt_not (dt_val (de_callB call_isi k_isi T.n_isinstance (by decide +kernel) (da_cons (de_var 0) (da_cons (de_bty T.n_int (by decide +kernel)) da_nil))))) (dw_or1 (dt_val (de_callB call_isi k_isi T.n_isinstance (by decide +kernel) (da_cons (de_var 0) (da_cons (de_bty T.n_bool (by decide +kernel)) da_nil))))))) (dss_one (ds_ret de_bl)) dss_nil)
    (dss_one (ds_ret (de_chain op_le k_le op_le k_le (de_var 1) (de_var 0) (de_var 2)))))
theorem sc__law_length : FnScope nm__law_length ["_law_far_here"] (defScope st__law_length) := ⟨rfl, rfl, rfl, by decide +kernel, rfl, by decide +kernel, by decide +kernel⟩
set_option maxHeartbeats 4000000 in
theorem fn__law_length {fd : FuncData} (T : Tx K mg f__law_stream f__law_draw f__law_pick f__law_total f__law_far f_count_ready f_far_beginnings f__law_whole f__law_length f__law_lowest f__law_parts f__law_far_need f__law_range_right f__law_right f_law) (Fu : Fun K "_law_length" "_law_length" st__law_length f__law_length fd) : FnD true P w K mg base 1 f__law_length F__law_length := by
  have nd := (sc__law_length).nd
  exact fnD_of Fu sc__law_length (Fu.binds fun _ _ _ _ _ _ us hl => match us, hl with | [_], _ => rfl) cl_drop fun cdv A outer s H E hr hG tk po =>
    (dss_one (ds_ret (de_callB (cr_sum2 rfl) k_sum2 T.n_sum (by decide +kernel) (da_cons (de_lc (own := [("_law_arity", 1), ("_law_count", 2)]) fin_fl (ct_pair 1 2 (by decide)) rfl nd (di_seq (de_var 0)) (blkOk_by (own := [("_law_arity", 1), ("_law_count", 2)]) (N := nm__law_length) (sc := defScope st__law_length) (by decide +kernel)) (fun _ _ _ _ _ => pg_tup rfl (pgs_cons (pg_name (i := 1) nd rfl (Or.inl rfl)) (pgs_cons (pg_name (i := 2) nd rfl (Or.inl rfl)) pgs_nil))) (fun _ _ _ _ _ => dts_nil) (fun _ _ _ _ _ => (de_var 2))) da_nil))))
theorem sc__law_lowest : FnScope nm__law_lowest ["_law_parts_here"] (defScope st__law_lowest) := ⟨rfl, rfl, rfl, by decide +kernel, rfl, by decide +kernel, by decide +kernel⟩
set_option maxHeartbeats 4000000 in
theorem fn__law_lowest {fd : FuncData} (T : Tx K mg f__law_stream f__law_draw f__law_pick f__law_total f__law_far f_count_ready f_far_beginnings f__law_whole f__law_length f__law_lowest f__law_parts f__law_far_need f__law_range_right f__law_right f_law) (Fu : Fun K "_law_lowest" "_law_lowest" st__law_lowest f__law_lowest fd) : FnD true P w K mg base 1 f__law_lowest F__law_lowest := by
  have nd := (sc__law_lowest).nd
  exact fnD_of Fu sc__law_lowest (Fu.binds fun _ _ _ _ _ _ us hl => match us, hl with | [_], _ => rfl) cl_drop fun cdv A outer s H E hr hG tk po =>
    (dss_cons (ds_asg (de_tup (da_cons de_int (da_cons de_non da_nil))) (dg_tup rfl (dgs_cons (dg_name 1 nd) (dgs_cons (dg_name 2 nd) dgs_nil))))
    (dss_cons (ds_for po rfl (di_seq (de_var 0)) (dg_tup rfl (dgs_cons (dg_name 3 nd) (dgs_cons (dg_name 4 nd) dgs_nil))) (dss_cons (ds_set 5 nd (de_fl (da_cons (de_op op_sub k_sub (de_op or_add k_add (de_var 1) de_int) (de_var 3)) (da_cons (de_op or_add k_add (de_var 1) (de_op or_mulT k_mulT (de_op op_sub k_sub de_int (de_var 3)) (de_var 4))) da_nil))))
    (dss_cons (ds_set 2 nd (de_callB (c_minT rfl) k_minT T.n_min (by decide +kernel) (da_cons (de_if (dt_cmp op_isN k_isN (de_var 2) de_non (nomark _)) (de_var 5) (de_op or_add k_add (de_fl (da_cons (de_var 2) da_nil)) (de_var 5))) da_nil)))
    (dss_one (ds_set 1 nd (de_ix (de_var 5) de_int))))) dss_nil)
    (dss_one (ds_ret (de_fl (da_cons (de_var 2) (da_cons (de_var 1) da_nil)))))))
theorem sc__law_parts : FnScope nm__law_parts ["_law_far_here", "_law_position"] (defScope st__law_parts) := ⟨rfl, rfl, rfl, by decide +kernel, rfl, by decide +kernel, by decide +kernel⟩
set_option maxHeartbeats 4000000 in
theorem fn__law_parts {fd : FuncData} (T : Tx K mg f__law_stream f__law_draw f__law_pick f__law_total f__law_far f_count_ready f_far_beginnings f__law_whole f__law_length f__law_lowest f__law_parts f__law_far_need f__law_range_right f__law_right f_law) (Fu : Fun K "_law_parts" "_law_parts" st__law_parts f__law_parts fd) : FnD true P w K mg base 1 f__law_parts F__law_parts := by
  have nd := (sc__law_parts).nd
  exact fnD_of Fu sc__law_parts (Fu.binds fun _ _ _ _ _ _ us hl => match us, hl with | [_, _], _ => rfl) cl_drop fun cdv A outer s H E hr hG tk po =>
    (dss_cons (ds_par3 2 3 4 rfl nd (da_cons (de_fl da_nil) (da_cons (de_fl da_nil) (da_cons de_int da_nil))))
    (dss_cons (ds_for po rfl (di_seq (de_var 0)) (dg_tup rfl (dgs_cons (dg_name 5 nd) (dgs_cons (dg_name 6 nd) dgs_nil))) (dss_cons (ds_set 7 nd (de_callB (c_max rfl) k_max T.n_max (by decide +kernel) (da_cons de_int (da_cons (de_callB (c_minT rfl) k_minT T.n_min (by decide +kernel) (da_cons (de_var 6) (da_cons (de_op op_sub k_sub (de_var 1) (de_var 4)) da_nil))) da_nil))))
    (dss_cons (ds_set 2 nd (de_op or_add k_add (de_var 2) (de_op or_mulT k_mulT (de_fl (da_cons (de_tup (da_cons (de_var 5) (da_cons (de_var 7) da_nil))) da_nil)) (de_callTy call_int1 k_int T.n_int (by decide +kernel) (da_cons (de_cmp op_gt k_gt (de_var 7) de_int (nomark _)) da_nil)))))
    (dss_cons (ds_set 3 nd (de_op or_add k_add (de_var 3) (de_op or_mulT k_mulT (de_fl (da_cons (de_tup (da_cons (de_var 5) (da_cons (de_op op_sub k_sub (de_var 6) (de_var 7)) da_nil))) da_nil)) (de_callTy call_int1 k_int T.n_int (by decide +kernel) (da_cons (de_cmp op_lt k_lt (de_var 7) (de_var 6) (nomark _)) da_nil)))))
    (dss_one (ds_set 4 nd (de_op or_add k_add (de_var 4) (de_var 6))))))) dss_nil)
    (dss_one (ds_ret (de_op or_add k_add (de_var 3) (de_var 2))))))
theorem sc__law_far_need : FnScope nm__law_far_need ["_law_far_here", "_law_position"] (defScope st__law_far_need) := ⟨rfl, rfl, rfl, by decide +kernel, rfl, by decide +kernel, by decide +kernel⟩
set_option maxHeartbeats 4000000 in
theorem fn__law_far_need {fd : FuncData} (T : Tx K mg f__law_stream f__law_draw f__law_pick f__law_total f__law_far f_count_ready f_far_beginnings f__law_whole f__law_length f__law_lowest f__law_parts f__law_far_need f__law_range_right f__law_right f_law) (Fu : Fun K "_law_far_need" "_law_far_need" st__law_far_need f__law_far_need fd) (G__law_lowest : FnD true P w K mg base 1 f__law_lowest F__law_lowest) (G__law_parts : FnD true P w K mg base 1 f__law_parts F__law_parts) : FnD true P w K mg base 2 f__law_far_need F__law_far_need := by
  have nd := (sc__law_far_need).nd
  exact fnD_of Fu sc__law_far_need (Fu.binds fun _ _ _ _ _ _ us hl => match us, hl with | [_, _], _ => rfl) cl_drop fun cdv A outer s H E hr hG tk po =>
    (dss_one (ds_ret (de_callB (c_max rfl) k_max T.n_max (by decide +kernel) (da_cons de_int (da_cons (de_op op_sub k_sub de_int (de_ix (de_callD G__law_lowest (hr.mono (by decide)) hG tk T.mg__law_lowest T.kp__law_lowest (da_cons (de_callD G__law_parts (hr.mono (by decide)) hG tk T.mg__law_parts T.kp__law_parts (da_cons (de_var 0) (da_cons (de_var 1) da_nil))) da_nil)) de_int)) da_nil)))))
theorem sc__law_range_right : FnScope nm__law_range_right ["_law_stream_here", "_law_far_here", "_law_first", "_law_last"] (defScope st__law_range_right) := ⟨rfl, rfl, rfl, by decide +kernel, rfl, by decide +kernel, by decide +kernel⟩
set_option maxHeartbeats 4000000 in
theorem fn__law_range_right {fd : FuncData} (T : Tx K mg f__law_stream f__law_draw f__law_pick f__law_total f__law_far f_count_ready f_far_beginnings f__law_whole f__law_length f__law_lowest f__law_parts f__law_far_need f__law_range_right f__law_right f_law) (Fu : Fun K "_law_range_right" "_law_range_right" st__law_range_right f__law_range_right fd) (G__law_draw : FnD true P w K mg base 1 f__law_draw F__law_draw) (G__law_length : FnD true P w K mg base 1 f__law_length F__law_length) (G__law_far_need : FnD true P w K mg base 2 f__law_far_need F__law_far_need) : FnD true P w K mg base 3 f__law_range_right F__law_range_right := by
  have nd := (sc__law_range_right).nd
  exact fnD_of Fu sc__law_range_right (Fu.binds fun _ _ _ _ _ _ us hl => match us, hl with | [_, _, _, _], _ => rfl) cl_drop fun cdv A outer s H E hr hG tk po =>
    (dss_cons (ds_asg (de_tup (da_cons (de_callD G__law_length (hr.mono (by decide)) hG tk T.mg__law_length T.kp__law_length (da_cons (de_var 1) da_nil)) (da_cons (de_op or_add k_add (de_var 2) (de_callD G__law_draw (hr.mono (by decide)) hG tk T.mg__law_draw T.kp__law_draw (da_cons (de_var 0) (da_cons (de_op or_add k_add (de_op op_sub k_sub (de_var 3) (de_var 2)) de_int) da_nil)))) da_nil))) (dg_tup rfl (dgs_cons (dg_name 4 nd) (dgs_cons (dg_name 5 nd) dgs_nil))))
    (dss_cons (ds_if (dt_cmp (or_ne hr.units) k_neD (de_lc (own := [("_law_k", 7)]) fin_fl (ct_name 7) rfl nd (di_seq (de_tup (da_cons (de_var 2) (da_cons (de_var 3) (da_cons (de_var 5) da_nil))))) (blkOk_by (own := [("_law_k", 7)]) (N := nm__law_range_right) (sc := defScope st__law_range_right) (by decide +kernel)) (fun _ _ _ _ _ => pg_name (i := 7) nd rfl (Or.inl rfl)) (fun _ _ _ _ _ => (dts_one (dt_cmp (or_ne hr.units) k_neD (de_callD G__law_far_need (hr.mono (by decide)) hG takes0 T.mg__law_far_need T.kp__law_far_need (da_cons (de_var 1) (da_cons (de_var 7) da_nil))) de_int (nomark _)))) (fun _ _ _ _ _ => (de_var 7))) (de_fl da_nil) (nomark _)) (dss_one (ds_ret de_bl)) dss_nil)
    (dss_cons (ds_setLc 6 (own := [("_law_k", 7)]) fin_fl (ct_name 7) rfl nd (di_seq (de_tup (da_cons (de_op op_sub k_sub (de_var 2) de_int) (da_cons (de_op or_add k_add (de_var 3) de_int) da_nil)))) (blkOk_by (own := [("_law_k", 7)]) (N := nm__law_range_right) (sc := defScope st__law_range_right) (by decide +kernel)) (fun _ _ _ _ _ => pg_name (i := 7) nd rfl (Or.inl rfl)) (fun _ _ _ _ _ => (dts_one (dt_chain op_le k_le op_lt k_lt de_int (de_var 7) (de_var 4)))) (fun _ _ _ _ _ => (de_var 7)))
    (dss_one (ds_ret (de_cmp (or_eq hr.units) k_eqD (de_lc (own := [("_law_k", 7)]) fin_fl (ct_name 7) rfl nd (di_seq (de_var 6)) (blkOk_by (own := [("_law_k", 7)]) (N := nm__law_range_right) (sc := defScope st__law_range_right) (by decide +kernel)) (fun _ _ _ _ _ => pg_name (i := 7) nd rfl (Or.inl rfl)) (fun _ _ _ _ _ => (dts_one (dt_cmp (or_eq hr.units) k_eqD (de_callD G__law_far_need (hr.mono (by decide)) hG takes0 T.mg__law_far_need T.kp__law_far_need (da_cons (de_var 1) (da_cons (de_var 7) da_nil))) de_int (nomark _)))) (fun _ _ _ _ _ => (de_var 7))) (de_fl da_nil) (nomark _)))))))
theorem sc__law_right : FnScope nm__law_right ["_law_stream_here", "_law_far_here"] (defScope st__law_right) := ⟨rfl, rfl, rfl, by decide +kernel, rfl, by decide +kernel, by decide +kernel⟩
set_option maxHeartbeats 4000000 in
theorem fn__law_right {fd : FuncData} (T : Tx K mg f__law_stream f__law_draw f__law_pick f__law_total f__law_far f_count_ready f_far_beginnings f__law_whole f__law_length f__law_lowest f__law_parts f__law_far_need f__law_range_right f__law_right f_law) (Fu : Fun K "_law_right" "_law_right" st__law_right f__law_right fd) (G_far_beginnings : FnD false P w K mg base 2 f_far_beginnings F_far_beginnings) (G__law_whole : FnD true P w K mg base 1 f__law_whole F__law_whole) (G__law_length : FnD true P w K mg base 1 f__law_length F__law_length) (G__law_range_right : FnD true P w K mg base 3 f__law_range_right F__law_range_right) (G__law_total : FnD true P w K mg base 1 f__law_total F__law_total) : FnD true P w K mg base 4 f__law_right F__law_right := by
  have nd := (sc__law_right).nd
  exact fnD_of Fu sc__law_right (Fu.binds fun _ _ _ _ _ _ us hl => match us, hl with | [_, _], _ => rfl) cl_drop fun cdv A outer s H E hr hG tk po =>
    (dss_cons (ds_par2 2 3 rfl nd (da_cons (de_callD G_far_beginnings (hr.mono (by decide)) (fun z => nomatch z) tk T.mg_far_beginnings T.kp_far_beginnings (da_cons (de_var 1) da_nil)) (da_cons (de_neg de_int) da_nil)))
    (dss_cons (ds_if (dt_not (dt_val (de_callB call_isi k_isi T.n_isinstance (by decide +kernel) (da_cons (de_var 2) (da_cons (de_bty T.n_tuple (by decide +kernel)) da_nil))))) (dss_one (ds_ret de_bl)) dss_nil)
    (dss_cons (ds_for po rfl (di_seq (de_var 2)) (dg_name 4 nd) (dss_cons (ds_if (dw_t (dw_or (dt_not (dt_val (de_callB call_isi k_isi T.n_isinstance (by decide +kernel) (da_cons (de_var 4) (da_cons (de_bty T.n_tuple (by decide +kernel)) da_nil))))) (dw_or (dt_cmp (or_ne hr.units) k_neD (de_callB c_len k_len T.n_len (by decide +kernel) (da_cons (de_var 4) da_nil)) de_int (nomark _)) (dw_or1 (dt_not (dt_val (de_callD G__law_whole (hr.mono (by decide)) hG tk T.mg__law_whole T.kp__law_whole (da_cons (de_ix (de_var 4) de_int) (da_cons (de_op or_add k_add (de_var 3) de_int) (da_cons (de_op op_sub k_sub (de_callD G__law_length (hr.mono (by decide)) hG tk T.mg__law_length T.kp__law_length (da_cons (de_var 1) da_nil)) de_int) da_nil)))))))))) (dss_one (ds_ret de_bl)) dss_nil)
    (dss_cons (ds_if (dw_t (dw_or (dt_not (dt_val (de_callD G__law_whole (hr.mono (by decide)) hG tk T.mg__law_whole T.kp__law_whole (da_cons (de_ix (de_var 4) de_int) (da_cons (de_ix (de_var 4) de_int) (da_cons (de_op op_sub k_sub (de_callD G__law_length (hr.mono (by decide)) hG tk T.mg__law_length T.kp__law_length (da_cons (de_var 1) da_nil)) de_int) da_nil)))))) (dw_or1 (dt_not (dt_val (de_callD G__law_range_right (hr.mono (by decide)) hG tk T.mg__law_range_right T.kp__law_range_right (da_cons (de_var 0) (da_cons (de_var 1) (da_cons (de_ix (de_var 4) de_int) (da_cons (de_ix (de_var 4) de_int) da_nil)))))))))) (dss_one (ds_ret de_bl)) dss_nil)
    (dss_one (ds_set 3 nd (de_ix (de_var 4) de_int))))) dss_nil)
    (dss_one (ds_ret (de_cmp (or_eq hr.units) k_eqD (de_callB (cr_sum2 rfl) k_sum2 T.n_sum (by decide +kernel) (da_cons (de_lc (own := [("_law_first", 5), ("_law_last", 6)]) fin_fl (ct_pair 5 6 (by decide)) rfl nd (di_seq (de_var 2)) (blkOk_by (own := [("_law_first", 5), ("_law_last", 6)]) (N := nm__law_right) (sc := defScope st__law_right) (by decide +kernel)) (fun _ _ _ _ _ => pg_tup rfl (pgs_cons (pg_name (i := 5) nd rfl (Or.inl rfl)) (pgs_cons (pg_name (i := 6) nd rfl (Or.inl rfl)) pgs_nil))) (fun _ _ _ _ _ => dts_nil) (fun _ _ _ _ _ => (de_op or_add k_add (de_op op_sub k_sub (de_var 6) (de_var 5)) de_int))) da_nil)) (de_callB (c_max rfl) k_max T.n_max (by decide +kernel) (da_cons de_int (da_cons (de_callD G__law_total (hr.mono (by decide)) hG tk T.mg__law_total T.kp__law_total (da_cons (de_var 1) da_nil)) da_nil))) (nomark _)))))))
theorem sc_law : FnScope nm_law ["_law_script"] (defScope st_law) := ⟨rfl, rfl, rfl, by decide +kernel, rfl, by decide +kernel, by decide +kernel⟩
set_option maxHeartbeats 4000000 in
theorem fn_law {fd : FuncData} (T : Tx K mg f__law_stream f__law_draw f__law_pick f__law_total f__law_far f_count_ready f_far_beginnings f__law_whole f__law_length f__law_lowest f__law_parts f__law_far_need f__law_range_right f__law_right f_law) (Fu : Fun K "law" "law" st_law f_law fd) (G__law_stream : FnD true P w K mg base 1 f__law_stream F__law_stream) (G__law_far : FnD true P w K mg base 3 f__law_far F__law_far) (G__law_right : FnD true P w K mg base 4 f__law_right F__law_right) (G_far_beginnings : FnD false P w K mg base 2 f_far_beginnings F_far_beginnings) (hsys : ∃ o, base.get? sysModules = some o) : FnD true P w K mg base 5 f_law F_law := by
  have nd := (sc_law).nd
  exact fnD_of Fu sc_law (Fu.binds fun _ _ _ _ _ _ us hl => match us, hl with | [_], _ => rfl) cl_drop fun cdv A outer s H E hr hG tk po =>
    (dss_cons (ds_set 1 nd (de_callD G__law_stream (hr.mono (by decide)) hG tk T.mg__law_stream T.kp__law_stream (da_cons (de_var 0) da_nil)))
    (dss_cons (ds_for po rfl (di_range1 rfl T.n_range (da_cons de_int da_nil)) (dg_name 2 nd) (dss_cons (ds_set 3 nd (de_callD G__law_far (hr.mono (by decide)) hG tk T.mg__law_far T.kp__law_far (da_cons (de_var 1) (da_cons de_int (da_cons (de_op op_pow k_pow de_int de_int) da_nil)))))
    (dss_cons (ds_set 4 nd (de_callB (c_repr hr (hG rfl) hsys) k_repr T.n_repr (by decide +kernel) (da_cons (de_var 3) da_nil)))
    (dss_one (ds_if (dw_t (dw_or (dt_not (dt_val (de_callD G__law_right (hr.mono (by decide)) hG tk T.mg__law_right T.kp__law_right (da_cons (de_var 1) (da_cons (de_var 3) da_nil))))) (dw_or1 (dt_cmp (or_ne hr.units) k_neD (de_callB (c_repr hr (hG rfl) hsys) k_repr T.n_repr (by decide +kernel) (da_cons (de_var 3) da_nil)) (de_var 4) (nomark _))))) (dss_one (ds_ret de_bl)) dss_nil)))) dss_nil)
    (dss_cons (ds_set 5 nd (de_tup (da_cons (de_tup (da_cons de_int (da_cons de_int da_nil))) (da_cons (de_tup (da_cons de_int (da_cons de_int da_nil))) (da_cons (de_tup (da_cons de_int (da_cons (de_op op_pow k_pow de_int de_int) da_nil))) da_nil)))))
    (dss_one (ds_ret (de_and (de_cmp (or_eq hr.units) k_eqD (de_callD G_far_beginnings (hr.mono (by decide)) (fun z => nomatch z) tk T.mg_far_beginnings T.kp_far_beginnings (da_cons (de_tup (da_cons (de_tup (da_cons de_int (da_cons (de_op op_pow k_pow de_int de_int) da_nil))) da_nil)) da_nil)) (de_tup (da_cons (de_tup (da_cons de_int (da_cons (de_op op_sub k_sub (de_op op_pow k_pow de_int de_int) de_int) da_nil))) da_nil)) (nomark _)) (de_one (de_callD G__law_right (hr.mono (by decide)) hG tk T.mg__law_right T.kp__law_right (da_cons (de_var 1) (da_cons (de_var 5) da_nil))))))))))
end
theorem all_mk {l : PySem.W.OpenLaw} {w : World} {K : PySem.W.Frag} {h : Heap} {mg : Str → Option Value} {fa f__law_stream f__law_draw f__law_pick f__law_total f__law_far f_count_ready f_far_beginnings f__law_whole f__law_length f__law_lowest f__law_parts f__law_far_need f__law_range_right f__law_right f_law : Addr} (X : K.In h) (G : h.Ns mainGlobals mg) (hfa : mg "law" = some (.ref fa))
    {od__law_stream an__law_stream : Option Addr} {sl__law_stream : Array (Option Value)} {oc__law_stream kV__law_stream dc__law_stream pm__law_stream cd__law_stream ct__law_stream : Value}
    {od__law_draw an__law_draw : Option Addr} {sl__law_draw : Array (Option Value)} {oc__law_draw kV__law_draw dc__law_draw pm__law_draw cd__law_draw ct__law_draw : Value}
    {od__law_pick an__law_pick : Option Addr} {sl__law_pick : Array (Option Value)} {oc__law_pick kV__law_pick dc__law_pick pm__law_pick cd__law_pick ct__law_pick : Value}
    {od__law_total an__law_total : Option Addr} {sl__law_total : Array (Option Value)} {oc__law_total kV__law_total dc__law_total pm__law_total cd__law_total ct__law_total : Value}
    {od__law_far an__law_far : Option Addr} {sl__law_far : Array (Option Value)} {oc__law_far kV__law_far dc__law_far pm__law_far cd__law_far ct__law_far : Value}
    {od_count_ready an_count_ready : Option Addr} {sl_count_ready : Array (Option Value)} {oc_count_ready kV_count_ready dc_count_ready pm_count_ready cd_count_ready ct_count_ready : Value}
    {od_far_beginnings an_far_beginnings : Option Addr} {sl_far_beginnings : Array (Option Value)} {oc_far_beginnings kV_far_beginnings dc_far_beginnings pm_far_beginnings cd_far_beginnings ct_far_beginnings : Value}
    {od__law_whole an__law_whole : Option Addr} {sl__law_whole : Array (Option Value)} {oc__law_whole kV__law_whole dc__law_whole pm__law_whole cd__law_whole ct__law_whole : Value}
    {od__law_length an__law_length : Option Addr} {sl__law_length : Array (Option Value)} {oc__law_length kV__law_length dc__law_length pm__law_length cd__law_length ct__law_length : Value}
    {od__law_lowest an__law_lowest : Option Addr} {sl__law_lowest : Array (Option Value)} {oc__law_lowest kV__law_lowest dc__law_lowest pm__law_lowest cd__law_lowest ct__law_lowest : Value}
    {od__law_parts an__law_parts : Option Addr} {sl__law_parts : Array (Option Value)} {oc__law_parts kV__law_parts dc__law_parts pm__law_parts cd__law_parts ct__law_parts : Value}
    {od__law_far_need an__law_far_need : Option Addr} {sl__law_far_need : Array (Option Value)} {oc__law_far_need kV__law_far_need dc__law_far_need pm__law_far_need cd__law_far_need ct__law_far_need : Value}
    {od__law_range_right an__law_range_right : Option Addr} {sl__law_range_right : Array (Option Value)} {oc__law_range_right kV__law_range_right dc__law_range_right pm__law_range_right cd__law_range_right ct__law_range_right : Value}
    {od__law_right an__law_right : Option Addr} {sl__law_right : Array (Option Value)} {oc__law_right kV__law_right dc__law_right pm__law_right cd__law_right ct__law_right : Value}
    {od_law an_law : Option Addr} {sl_law : Array (Option Value)} {oc_law kV_law dc_law pm_law cd_law ct_law : Value}
    (a__law_stream : PySem.W.nsIn K mainGlobals "_law_stream" = some (some (.ref f__law_stream)))
    (l__law_stream : K.lookup f__law_stream = some ⟨oc__law_stream, od__law_stream, .func (PySem.W.fnOf "_law_stream" "_law_stream" (defArgs st__law_stream) (defBody st__law_stream) (defScope st__law_stream) .none kV__law_stream dc__law_stream pm__law_stream an__law_stream cd__law_stream ct__law_stream), sl__law_stream⟩)
    (c__law_stream : PySem.W.codeIn K cd__law_stream "_law_stream" = true)
    (k__law_stream : PySem.W.keepIn K (.ref f__law_stream) = true)
    (a__law_draw : PySem.W.nsIn K mainGlobals "_law_draw" = some (some (.ref f__law_draw)))
    (l__law_draw : K.lookup f__law_draw = some ⟨oc__law_draw, od__law_draw, .func (PySem.W.fnOf "_law_draw" "_law_draw" (defArgs st__law_draw) (defBody st__law_draw) (defScope st__law_draw) .none kV__law_draw dc__law_draw pm__law_draw an__law_draw cd__law_draw ct__law_draw), sl__law_draw⟩)
    (c__law_draw : PySem.W.codeIn K cd__law_draw "_law_draw" = true)
    (k__law_draw : PySem.W.keepIn K (.ref f__law_draw) = true)
    (a__law_pick : PySem.W.nsIn K mainGlobals "_law_pick" = some (some (.ref f__law_pick)))
    (l__law_pick : K.lookup f__law_pick = some ⟨oc__law_pick, od__law_pick, .func (PySem.W.fnOf "_law_pick" "_law_pick" (defArgs st__law_pick) (defBody st__law_pick) (defScope st__law_pick) .none kV__law_pick dc__law_pick pm__law_pick an__law_pick cd__law_pick ct__law_pick), sl__law_pick⟩)
    (c__law_pick : PySem.W.codeIn K cd__law_pick "_law_pick" = true)
    (k__law_pick : PySem.W.keepIn K (.ref f__law_pick) = true)
    (a__law_total : PySem.W.nsIn K mainGlobals "_law_total" = some (some (.ref f__law_total)))
    (l__law_total : K.lookup f__law_total = some ⟨oc__law_total, od__law_total, .func (PySem.W.fnOf "_law_total" "_law_total" (defArgs st__law_total) (defBody st__law_total) (defScope st__law_total) .none kV__law_total dc__law_total pm__law_total an__law_total cd__law_total ct__law_total), sl__law_total⟩)
    (c__law_total : PySem.W.codeIn K cd__law_total "_law_total" = true)
    (k__law_total : PySem.W.keepIn K (.ref f__law_total) = true)
    (a__law_far : PySem.W.nsIn K mainGlobals "_law_far" = some (some (.ref f__law_far)))
    (l__law_far : K.lookup f__law_far = some ⟨oc__law_far, od__law_far, .func (PySem.W.fnOf "_law_far" "_law_far" (defArgs st__law_far) (defBody st__law_far) (defScope st__law_far) .none kV__law_far dc__law_far pm__law_far an__law_far cd__law_far ct__law_far), sl__law_far⟩)
    (c__law_far : PySem.W.codeIn K cd__law_far "_law_far" = true)
    (k__law_far : PySem.W.keepIn K (.ref f__law_far) = true)
    (a_count_ready : PySem.W.nsIn K mainGlobals "count_ready" = some (some (.ref f_count_ready)))
    (l_count_ready : K.lookup f_count_ready = some ⟨oc_count_ready, od_count_ready, .func (PySem.W.fnOf "count_ready" "count_ready" (defArgs st_count_ready) (defBody st_count_ready) (defScope st_count_ready) .none kV_count_ready dc_count_ready pm_count_ready an_count_ready cd_count_ready ct_count_ready), sl_count_ready⟩)
    (c_count_ready : PySem.W.codeIn K cd_count_ready "count_ready" = true)
    (k_count_ready : PySem.W.keepIn K (.ref f_count_ready) = true)
    (a_far_beginnings : PySem.W.nsIn K mainGlobals "far_beginnings" = some (some (.ref f_far_beginnings)))
    (l_far_beginnings : K.lookup f_far_beginnings = some ⟨oc_far_beginnings, od_far_beginnings, .func (PySem.W.fnOf "far_beginnings" "far_beginnings" (defArgs st_far_beginnings) (defBody st_far_beginnings) (defScope st_far_beginnings) .none kV_far_beginnings dc_far_beginnings pm_far_beginnings an_far_beginnings cd_far_beginnings ct_far_beginnings), sl_far_beginnings⟩)
    (c_far_beginnings : PySem.W.codeIn K cd_far_beginnings "far_beginnings" = true)
    (k_far_beginnings : PySem.W.keepIn K (.ref f_far_beginnings) = true)
    (a__law_whole : PySem.W.nsIn K mainGlobals "_law_whole" = some (some (.ref f__law_whole)))
    (l__law_whole : K.lookup f__law_whole = some ⟨oc__law_whole, od__law_whole, .func (PySem.W.fnOf "_law_whole" "_law_whole" (defArgs st__law_whole) (defBody st__law_whole) (defScope st__law_whole) .none kV__law_whole dc__law_whole pm__law_whole an__law_whole cd__law_whole ct__law_whole), sl__law_whole⟩)
    (c__law_whole : PySem.W.codeIn K cd__law_whole "_law_whole" = true)
    (k__law_whole : PySem.W.keepIn K (.ref f__law_whole) = true)
    (a__law_length : PySem.W.nsIn K mainGlobals "_law_length" = some (some (.ref f__law_length)))
    (l__law_length : K.lookup f__law_length = some ⟨oc__law_length, od__law_length, .func (PySem.W.fnOf "_law_length" "_law_length" (defArgs st__law_length) (defBody st__law_length) (defScope st__law_length) .none kV__law_length dc__law_length pm__law_length an__law_length cd__law_length ct__law_length), sl__law_length⟩)
    (c__law_length : PySem.W.codeIn K cd__law_length "_law_length" = true)
    (k__law_length : PySem.W.keepIn K (.ref f__law_length) = true)
    (a__law_lowest : PySem.W.nsIn K mainGlobals "_law_lowest" = some (some (.ref f__law_lowest)))
    (l__law_lowest : K.lookup f__law_lowest = some ⟨oc__law_lowest, od__law_lowest, .func (PySem.W.fnOf "_law_lowest" "_law_lowest" (defArgs st__law_lowest) (defBody st__law_lowest) (defScope st__law_lowest) .none kV__law_lowest dc__law_lowest pm__law_lowest an__law_lowest cd__law_lowest ct__law_lowest), sl__law_lowest⟩)
    (c__law_lowest : PySem.W.codeIn K cd__law_lowest "_law_lowest" = true)
    (k__law_lowest : PySem.W.keepIn K (.ref f__law_lowest) = true)
    (a__law_parts : PySem.W.nsIn K mainGlobals "_law_parts" = some (some (.ref f__law_parts)))
    (l__law_parts : K.lookup f__law_parts = some ⟨oc__law_parts, od__law_parts, .func (PySem.W.fnOf "_law_parts" "_law_parts" (defArgs st__law_parts) (defBody st__law_parts) (defScope st__law_parts) .none kV__law_parts dc__law_parts pm__law_parts an__law_parts cd__law_parts ct__law_parts), sl__law_parts⟩)
    (c__law_parts : PySem.W.codeIn K cd__law_parts "_law_parts" = true)
    (k__law_parts : PySem.W.keepIn K (.ref f__law_parts) = true)
    (a__law_far_need : PySem.W.nsIn K mainGlobals "_law_far_need" = some (some (.ref f__law_far_need)))
    (l__law_far_need : K.lookup f__law_far_need = some ⟨oc__law_far_need, od__law_far_need, .func (PySem.W.fnOf "_law_far_need" "_law_far_need" (defArgs st__law_far_need) (defBody st__law_far_need) (defScope st__law_far_need) .none kV__law_far_need dc__law_far_need pm__law_far_need an__law_far_need cd__law_far_need ct__law_far_need), sl__law_far_need⟩)
    (c__law_far_need : PySem.W.codeIn K cd__law_far_need "_law_far_need" = true)
    (k__law_far_need : PySem.W.keepIn K (.ref f__law_far_need) = true)
    (a__law_range_right : PySem.W.nsIn K mainGlobals "_law_range_right" = some (some (.ref f__law_range_right)))
    (l__law_range_right : K.lookup f__law_range_right = some ⟨oc__law_range_right, od__law_range_right, .func (PySem.W.fnOf "_law_range_right" "_law_range_right" (defArgs st__law_range_right) (defBody st__law_range_right) (defScope st__law_range_right) .none kV__law_range_right dc__law_range_right pm__law_range_right an__law_range_right cd__law_range_right ct__law_range_right), sl__law_range_right⟩)
    (c__law_range_right : PySem.W.codeIn K cd__law_range_right "_law_range_right" = true)
    (k__law_range_right : PySem.W.keepIn K (.ref f__law_range_right) = true)
    (a__law_right : PySem.W.nsIn K mainGlobals "_law_right" = some (some (.ref f__law_right)))
    (l__law_right : K.lookup f__law_right = some ⟨oc__law_right, od__law_right, .func (PySem.W.fnOf "_law_right" "_law_right" (defArgs st__law_right) (defBody st__law_right) (defScope st__law_right) .none kV__law_right dc__law_right pm__law_right an__law_right cd__law_right ct__law_right), sl__law_right⟩)
    (c__law_right : PySem.W.codeIn K cd__law_right "_law_right" = true)
    (k__law_right : PySem.W.keepIn K (.ref f__law_right) = true)
    (a_law : PySem.W.nsIn K mainGlobals "law" = some (some (.ref f_law)))
    (l_law : K.lookup f_law = some ⟨oc_law, od_law, .func (PySem.W.fnOf "law" "law" (defArgs st_law) (defBody st_law) (defScope st_law) .none kV_law dc_law pm_law an_law cd_law ct_law), sl_law⟩)
    (c_law : PySem.W.codeIn K cd_law "law" = true)
    (k_law : PySem.W.keepIn K (.ref f_law) = true)
    (z_range : PySem.W.nsIn K mainGlobals "range" = some none)
    (z_repr : PySem.W.nsIn K mainGlobals "repr" = some none)
    (z_abs : PySem.W.nsIn K mainGlobals "abs" = some none)
    (z_len : PySem.W.nsIn K mainGlobals "len" = some none)
    (z_tuple : PySem.W.nsIn K mainGlobals "tuple" = some none)
    (z_sum : PySem.W.nsIn K mainGlobals "sum" = some none)
    (z_isinstance : PySem.W.nsIn K mainGlobals "isinstance" = some none)
    (z_max : PySem.W.nsIn K mainGlobals "max" = some none)
    (z_enumerate : PySem.W.nsIn K mainGlobals "enumerate" = some none)
    (z_min : PySem.W.nsIn K mainGlobals "min" = some none)
    (z_int : PySem.W.nsIn K mainGlobals "int" = some none)
    (z_bool : PySem.W.nsIn K mainGlobals "bool" = some none)
    (hl : LawOk F_law) : ∃ F : Fn, LawOk F ∧ ∀ base : Heap, K.In base → base.Ns mainGlobals mg → (∃ o, base.get? sysModules = some o) → FnD true l.prog w K mg base 5 fa F := by
  have e := hfa.symm.trans (PySem.W.mg_of X G a_law)
  cases e
  have T : Tx K mg f__law_stream f__law_draw f__law_pick f__law_total f__law_far f_count_ready f_far_beginnings f__law_whole f__law_length f__law_lowest f__law_parts f__law_far_need f__law_range_right f__law_right fa := ⟨PySem.W.mg_of X G a__law_stream, k__law_stream, PySem.W.mg_of X G a__law_draw, k__law_draw, PySem.W.mg_of X G a__law_pick, k__law_pick, PySem.W.mg_of X G a__law_total, k__law_total, PySem.W.mg_of X G a__law_far, k__law_far, PySem.W.mg_of X G a_count_ready, k_count_ready, PySem.W.mg_of X G a_far_beginnings, k_far_beginnings, PySem.W.mg_of X G a__law_whole, k__law_whole, PySem.W.mg_of X G a__law_length, k__law_length, PySem.W.mg_of X G a__law_lowest, k__law_lowest, PySem.W.mg_of X G a__law_parts, k__law_parts, PySem.W.mg_of X G a__law_far_need, k__law_far_need, PySem.W.mg_of X G a__law_range_right, k__law_range_right, PySem.W.mg_of X G a__law_right, k__law_right, PySem.W.mg_none_of X G z_range, PySem.W.mg_none_of X G z_repr, PySem.W.mg_none_of X G z_abs, PySem.W.mg_none_of X G z_len, PySem.W.mg_none_of X G z_tuple, PySem.W.mg_none_of X G z_sum, PySem.W.mg_none_of X G z_isinstance, PySem.W.mg_none_of X G z_max, PySem.W.mg_none_of X G z_enumerate, PySem.W.mg_none_of X G z_min, PySem.W.mg_none_of X G z_int, PySem.W.mg_none_of X G z_bool⟩
  refine ⟨F_law, hl, fun base _ _ hsys => ?_⟩
  have G__law_stream : FnD true l.prog w K mg base 1 f__law_stream F__law_stream := fn__law_stream T (fun_mk (st := st__law_stream) l__law_stream c__law_stream k__law_stream) 
  have G__law_draw : FnD true l.prog w K mg base 1 f__law_draw F__law_draw := fn__law_draw T (fun_mk (st := st__law_draw) l__law_draw c__law_draw k__law_draw) 
  have G__law_pick : FnD true l.prog w K mg base 2 f__law_pick F__law_pick := fn__law_pick T (fun_mk (st := st__law_pick) l__law_pick c__law_pick k__law_pick) G__law_draw
  have G__law_total : FnD true l.prog w K mg base 1 f__law_total F__law_total := fn__law_total T (fun_mk (st := st__law_total) l__law_total c__law_total k__law_total) 
  have G__law_far : FnD true l.prog w K mg base 3 f__law_far F__law_far := fn__law_far T (fun_mk (st := st__law_far) l__law_far c__law_far k__law_far) G__law_pick G__law_draw G__law_total
  have G_count_ready : FnD false l.prog w K mg base 1 f_count_ready F_count_ready := fn_count_ready T (fun_mk (st := st_count_ready) l_count_ready c_count_ready k_count_ready) 
  have G_far_beginnings : FnD false l.prog w K mg base 2 f_far_beginnings F_far_beginnings := fn_far_beginnings T (fun_mk (st := st_far_beginnings) l_far_beginnings c_far_beginnings k_far_beginnings) G_count_ready
  have G__law_whole : FnD true l.prog w K mg base 1 f__law_whole F__law_whole := fn__law_whole T (fun_mk (st := st__law_whole) l__law_whole c__law_whole k__law_whole) 
  have G__law_length : FnD true l.prog w K mg base 1 f__law_length F__law_length := fn__law_length T (fun_mk (st := st__law_length) l__law_length c__law_length k__law_length) 
  have G__law_lowest : FnD true l.prog w K mg base 1 f__law_lowest F__law_lowest := fn__law_lowest T (fun_mk (st := st__law_lowest) l__law_lowest c__law_lowest k__law_lowest) 
  have G__law_parts : FnD true l.prog w K mg base 1 f__law_parts F__law_parts := fn__law_parts T (fun_mk (st := st__law_parts) l__law_parts c__law_parts k__law_parts) 
  have G__law_far_need : FnD true l.prog w K mg base 2 f__law_far_need F__law_far_need := fn__law_far_need T (fun_mk (st := st__law_far_need) l__law_far_need c__law_far_need k__law_far_need) G__law_lowest G__law_parts
  have G__law_range_right : FnD true l.prog w K mg base 3 f__law_range_right F__law_range_right := fn__law_range_right T (fun_mk (st := st__law_range_right) l__law_range_right c__law_range_right k__law_range_right) G__law_draw G__law_length G__law_far_need
  have G__law_right : FnD true l.prog w K mg base 4 f__law_right F__law_right := fn__law_right T (fun_mk (st := st__law_right) l__law_right c__law_right k__law_right) G_far_beginnings G__law_whole G__law_length G__law_range_right G__law_total
  have G_law : FnD true l.prog w K mg base 5 fa F_law := fn_law T (fun_mk (st := st_law) l_law c_law k_law) G__law_stream G__law_far G__law_right G_far_beginnings hsys
  exact G_law
end TX

open PySem PySem.W PyProof.Rows
set_option maxRecDepth 100000 in
set_option maxHeartbeats 0 in
theorem PySem.Challenge.cw_ringpostfix_k55_long_far_beginnings_holds : PySem.Challenge.rw_ringpostfix_k55_long_far_beginnings.Holds := by
  w_on; o_law; k_head; (case hw => w_witness2)
  k_fill
  refine DL.law_walk (k := 5) (l := PySem.Challenge.rw_ringpostfix_k55_long_far_beginnings) rfl rfl ⟨rfl, by decide, by decide⟩ (by decide +kernel) (fun w h Y => PySem.W.kIn_of Y) ?F
  case F =>
    intro w mg fa h KX G hmg
    refine' TX.all_mk KX G hmg ?a__law_stream ?l__law_stream ?c__law_stream ?k__law_stream ?a__law_draw ?l__law_draw ?c__law_draw ?k__law_draw ?a__law_pick ?l__law_pick ?c__law_pick ?k__law_pick ?a__law_total ?l__law_total ?c__law_total ?k__law_total ?a__law_far ?l__law_far ?c__law_far ?k__law_far ?a_count_ready ?l_count_ready ?c_count_ready ?k_count_ready ?a_far_beginnings ?l_far_beginnings ?c_far_beginnings ?k_far_beginnings ?a__law_whole ?l__law_whole ?c__law_whole ?k__law_whole ?a__law_length ?l__law_length ?c__law_length ?k__law_length ?a__law_lowest ?l__law_lowest ?c__law_lowest ?k__law_lowest ?a__law_parts ?l__law_parts ?c__law_parts ?k__law_parts ?a__law_far_need ?l__law_far_need ?c__law_far_need ?k__law_far_need ?a__law_range_right ?l__law_range_right ?c__law_range_right ?k__law_range_right ?a__law_right ?l__law_right ?c__law_right ?k__law_right ?a_law ?l_law ?c_law ?k_law ?z_range ?z_repr ?z_abs ?z_len ?z_tuple ?z_sum ?z_isinstance ?z_max ?z_enumerate ?z_min ?z_int ?z_bool TX.law_ok
    (case a__law_stream => k_is)
    (case l__law_stream => k_is)
    (case c__law_stream => k_is)
    (case k__law_stream => k_is)
    (case a__law_draw => k_is)
    (case l__law_draw => k_is)
    (case c__law_draw => k_is)
    (case k__law_draw => k_is)
    (case a__law_pick => k_is)
    (case l__law_pick => k_is)
    (case c__law_pick => k_is)
    (case k__law_pick => k_is)
    (case a__law_total => k_is)
    (case l__law_total => k_is)
    (case c__law_total => k_is)
    (case k__law_total => k_is)
    (case a__law_far => k_is)
    (case l__law_far => k_is)
    (case c__law_far => k_is)
    (case k__law_far => k_is)
    (case a_count_ready => k_is)
    (case l_count_ready => k_is)
    (case c_count_ready => k_is)
    (case k_count_ready => k_is)
    (case a_far_beginnings => k_is)
    (case l_far_beginnings => k_is)
    (case c_far_beginnings => k_is)
    (case k_far_beginnings => k_is)
    (case a__law_whole => k_is)
    (case l__law_whole => k_is)
    (case c__law_whole => k_is)
    (case k__law_whole => k_is)
    (case a__law_length => k_is)
    (case l__law_length => k_is)
    (case c__law_length => k_is)
    (case k__law_length => k_is)
    (case a__law_lowest => k_is)
    (case l__law_lowest => k_is)
    (case c__law_lowest => k_is)
    (case k__law_lowest => k_is)
    (case a__law_parts => k_is)
    (case l__law_parts => k_is)
    (case c__law_parts => k_is)
    (case k__law_parts => k_is)
    (case a__law_far_need => k_is)
    (case l__law_far_need => k_is)
    (case c__law_far_need => k_is)
    (case k__law_far_need => k_is)
    (case a__law_range_right => k_is)
    (case l__law_range_right => k_is)
    (case c__law_range_right => k_is)
    (case k__law_range_right => k_is)
    (case a__law_right => k_is)
    (case l__law_right => k_is)
    (case c__law_right => k_is)
    (case k__law_right => k_is)
    (case a_law => k_is)
    (case l_law => k_is)
    (case c_law => k_is)
    (case k_law => k_is)
    (case z_range => k_is)
    (case z_repr => k_is)
    (case z_abs => k_is)
    (case z_len => k_is)
    (case z_tuple => k_is)
    (case z_sum => k_is)
    (case z_isinstance => k_is)
    (case z_max => k_is)
    (case z_enumerate => k_is)
    (case z_min => k_is)
    (case z_int => k_is)
    (case z_bool => k_is)

