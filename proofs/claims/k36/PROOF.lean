import PyProof.Rows.All
import Wide.All
import OpenK.AllK
import Wide.FinOn
import HandS.ForMost
import HandS.ForExc
import HandS.Star
import HandS.IsInst
import HandS.Flow
import HandS.Wide
import HandS.EndBits
import PyProof.ReprRoads
import HandS.TupAny
import HandS.TupMul
import HandS.Deep
import HandS.More
import HandS.Style
import KE.KTupSum
import PyProof.WalkInts
import HandS.SortInts
import HandS.Zip
import KE.KRevSl
import KE.KExcInit
import KE.KExcIs
import HandS.ExcIs
import HandS.ExcField
import HandS.TryMany
import HandS.Small
import HandS.HotCalls
import HandS.Conv
import HandS.Iter
import KE.GoesEnum
import PyProof.NeKinds
import KE.DataFind
import KE.KEqDict
import HandS.NoneIn
import PyProof.Rows.IntBool
import HandS.ExcValue
import HandS.Text
import PyProof.StrBlock2
import PyProof.CallStr
import HandS.FStr
import HandS.GenList
import PyProof.RulesMatch
import PyProof.AutoSeq1
import HandS.Dict
import PyProof.Rows.ReprOcc
import PyProof.Rows.StrBin
import PySem.Challenge.RW_ringpostfix_k36_other_terms
set_option Elab.async false
set_option linter.all false
set_option maxRecDepth 100000
set_option maxHeartbeats 4000000
namespace DL
open PySem PySem.Spec L2
open PyProof.Rows hiding St
/-- a class by its name: of the program, built in -/
inductive Cn where
  | own (n : Str) | blt (n : String)
  deriving DecidableEq
/-- plain data (tuples, frozen lists and dicts by value), defs by name, caught errors, and places of the store -/
inductive D where
  | non | bl (b : Bool) | int (i : Int) | str (x : Str) | ty (n : String) | fn (n : Str)
  | tup (ds : List D) | fl (ds : List D) | kl (ds : List D) | fd (kvs : List (Key × D)) | exc (c : Cn) (fs : List (Str × D)) | loc (n : Nat)
abbrev Ev := List (Option D)
/-- what a place of the store holds -/
inductive Ob where
  | lst (ds : List D)
  | ins (c : Str) (fs : List (Str × D))
  | dct (kvs : List (Key × D))
  | dtt (kvs : List (List Key × D))
  | scr (ds : List D)
  | tpl (ds : List D)
abbrev Sto := List Ob
structure Ex where
  cls : Cn
  fs : List (Str × D)
inductive R (α : Type) where
  | ok (a : α) (S : Sto)
  | er (e : Ex) (S : Sto)
  | stuck
inductive SR where
  | nx (ρ : Ev) (S : Sto)
  | rt (d : D) (S : Sto)
  | bk (ρ : Ev) (S : Sto)
  | ct (ρ : Ev) (S : Sto)
  | er (e : Ex) (ρ : Ev) (S : Sto)
  | stuck
/-- a test that no reckoning opens -/
noncomputable def ifp {α : Type} (p : Prop) (a b : α) : α := @ite α p (Classical.propDecidable p) a b
theorem ifp_pos {α : Type} {p : Prop} {a b : α} (h : p) : ifp p a b = a := by unfold ifp; exact if_pos h
theorem ifp_neg {α : Type} {p : Prop} {a b : α} (h : ¬ p) : ifp p a b = b := by unfold ifp; exact if_neg h
theorem ifp_t {α : Type} {a b : α} : ifp True a b = a := ifp_pos trivial
theorem ifp_f {α : Type} {a b : α} : ifp False a b = b := ifp_neg id
def R.bind {α β : Type} (r : R α) (k : α → Sto → R β) : R β := match r with
  | .ok a S => k a S
  | .er e S => .er e S
  | .stuck => .stuck
@[simp] theorem R.bind_ok {α β : Type} (a : α) (S : Sto) (k : α → Sto → R β) : (R.ok a S).bind k = k a S := rfl
@[simp] theorem R.bind_er {α β : Type} (e : Ex) (S : Sto) (k : α → Sto → R β) : (R.er e S : R α).bind k = .er e S := rfl
@[simp] theorem R.bind_stuck {α β : Type} (k : α → Sto → R β) : (R.stuck : R α).bind k = .stuck := rfl
def TupAt (K : PySem.W.Frag) (ι : List Addr) (H : Hp) (a : Addr) (vs : List V) : Prop := (a ∉ ι ∧ H a = some (.tup vs)) ∨ SqT K (fun _ => none) a vs
def LstAt (ι : List Addr) (H : Hp) (a : Addr) (vs : List V) : Prop := a ∉ ι ∧ H a = some (.lst vs)
/-- a list that nobody changes: locked, or of the written part -/
def KlAt (K : PySem.W.Frag) (ι : List Addr) (H : Hp) (a : Addr) (vs : List V) : Prop := (a ∉ ι ∧ ∃ o, H a = some (.frz o (.lst vs))) ∨ SqL K (fun _ => none) a vs
theorem no_rd {a : Addr} {u : HO} (h : Rd (fun _ => none) a u) : False := by
  rcases h with h | ⟨_, h⟩ <;> cases h
theorem TupAt.sq {K : PySem.W.Frag} {ι : List Addr} {H : Hp} {a : Addr} {vs : List V} (h : TupAt K ι H a vs) : SqT K H a vs := by
  rcases h with h | h | h
  · exact .inl (.inl h.2)
  · exact (no_rd h).elim
  · exact .inr h
theorem KlAt.sq {K : PySem.W.Frag} {ι : List Addr} {H : Hp} {a : Addr} {vs : List V} (h : KlAt K ι H a vs) : SqL K H a vs := by
  rcases h with ⟨_, h⟩ | h | h
  · exact .inl (.inr h)
  · exact (no_rd h).elim
  · exact .inr h
theorem LstAt.sq {K : PySem.W.Frag} {ι : List Addr} {H : Hp} {a : Addr} {vs : List V} (h : LstAt ι H a vs) : SqL K H a vs := SqL.of h.2
def RepC (K : PySem.W.Frag) : Cn → Value → Prop
  | .own n, v => ∃ C, v = .ref C ∧ PySem.W.nsIn K mainGlobals n = some (some (.ref C))
  | .blt n, v => v = .type n
/-- an error that is held as a value: at a, its class, its dict -/
def exv (a : Addr) (cls : Value) (d : Option Addr) : HO := .ext fun h => ∃ (oe : Obj) (vs : Array Value), h.get? a = some oe ∧ oe.cls = cls ∧ oe.dict = d ∧ oe.data = .fields vs
mutual
def RepV (K : PySem.W.Frag) (ι : List Addr) (H : Hp) : D → V → Prop
  | .non, v => v = .non
  | .bl b, v => v = .bl b
  | .int i, v => v = .int i
  | .str x, v => v = .str x
  | .ty n, v => v = .ty n
  | .fn n, v => ∃ a, v = .ref a ∧ PySem.W.nsIn K mainGlobals n = some (some (.ref a))
  | .loc n, v => ∃ a, ι[n]? = some a ∧ v = .ref a
  | .tup ds, v => ∃ a vs, v = .ref a ∧ TupAt K ι H a vs ∧ RepL K ι H ds vs
  | .fl ds, v => ∃ a vs, v = .ref a ∧ LstAt ι H a vs ∧ RepL K ι H ds vs
  | .kl ds, v => ∃ a vs, v = .ref a ∧ KlAt K ι H a vs ∧ RepL K ι H ds vs
  | .fd kvs, v => ∃ a ks, v = .ref a ∧ a ∉ ι ∧ H a = some (.dK ks) ∧ RepK K ι H kvs ks
  | .exc c fs, v => ∃ a cls dd, v = .ref a ∧ a ∉ ι ∧ H a = some (exv a cls dd) ∧ RepC K c cls ∧ ((dd = none ∧ fs = []) ∨ ∃ d vs, dd = some d ∧ d ∉ ι ∧ H d = some (.xd vs) ∧ RepF K ι H fs vs)
def RepL (K : PySem.W.Frag) (ι : List Addr) (H : Hp) : List D → List V → Prop
  | [], vs => vs = []
  | d :: ds, vs => ∃ v r, vs = v :: r ∧ RepV K ι H d v ∧ RepL K ι H ds r
def RepK (K : PySem.W.Frag) (ι : List Addr) (H : Hp) : List (Key × D) → List (Key × V) → Prop
  | [], vs => vs = []
  | (k, d) :: ds, vs => ∃ v r, vs = (k, v) :: r ∧ RepV K ι H d v ∧ RepK K ι H ds r
def RepF (K : PySem.W.Frag) (ι : List Addr) (H : Hp) : List (Str × D) → List (Str × V) → Prop
  | [], vs => vs = []
  | (k, d) :: ds, vs => ∃ v r, vs = (k, v) :: r ∧ RepV K ι H d v ∧ RepF K ι H ds r
end
def RepKT (K : PySem.W.Frag) (ι : List Addr) (H : Hp) : List (List Key × D) → List (List Key × V) → Prop
  | [], vs => vs = []
  | (k, d) :: ds, vs => ∃ v r, vs = (k, v) :: r ∧ RepV K ι H d v ∧ RepKT K ι H ds r
def RepO (K : PySem.W.Frag) (ι : List Addr) (H : Hp) (a : Addr) : Ob → Prop
  | .lst ds => ∃ vs, H a = some (.lst vs) ∧ RepL K ι H ds vs
  | .ins c fs => ∃ C dx vs, PySem.W.nsIn K mainGlobals c = some (some (.ref C)) ∧ H a = some (.ins C dx vs) ∧ RepF K ι H fs vs
  | .dct kvs => ∃ ks, H a = some (.dK ks) ∧ RepK K ι H kvs ks
  | .dtt kvs => ∃ ks, H a = some (.dT ks) ∧ RepKT K ι H kvs ks
  | .scr ds => ∃ o vs, H a = some (.frz o (.lst vs)) ∧ RepL K ι H ds vs
  | .tpl ds => ∃ o vs, H a = some (.frz o (.tup vs)) ∧ o.cls = .type "tuple" ∧ o.dict = none ∧ RepL K ι H ds vs
structure Sim (K : PySem.W.Frag) (ι : List Addr) (H : Hp) (S : Sto) : Prop where
  nd : ι.Nodup
  len : ι.length = S.length
  ob : ∀ (n : Nat) (a : Addr) (o : Ob), ι[n]? = some a → S[n]? = some o → RepO K ι H a o
def RepE (K : PySem.W.Frag) (ι : List Addr) (H : Hp) (σ : St) (ρ : Ev) : Prop :=
  σ.length = ρ.length ∧ ∀ (i : Nat) (d : D), ρ[i]? = some (some d) → ∃ v, σ[i]? = some (some v) ∧ RepV K ι H d v
structure Grow (ι : List Addr) (H : Hp) (ι' : List Addr) (H' : Hp) : Prop where
  pre : ι <+: ι'
  keep : ∀ a o, H a = some o → a ∉ ι → H' a = some o
  fresh : ∀ a, a ∈ ι' → a ∉ ι → H a = none
theorem Grow.refl (ι : List Addr) (H : Hp) : Grow ι H ι H := ⟨List.prefix_rfl, fun _ _ e _ => e, fun _ h n => absurd h n⟩
theorem Grow.trans {ι ι1 ι2 : List Addr} {H H1 H2 : Hp} (a : Grow ι H ι1 H1) (b : Grow ι1 H1 ι2 H2) : Grow ι H ι2 H2 where
  pre := a.pre.trans b.pre
  keep := fun c o e n => b.keep c o (a.keep c o e n) fun z => by
    have := a.fresh c z n
    rw [this] at e; cases e
  fresh := fun c h n => by
    by_cases z : c ∈ ι1
    · exact a.fresh c z n
    · have q := b.fresh c h z
      cases e : H c with
      | none => rfl
      | some o => rw [a.keep c o e n] at q; cases q
theorem Grow.rd {ι ι' : List Addr} {H H' : Hp} {a : Addr} {u : HO} (g : Grow ι H ι' H') (n : a ∉ ι) (r : H a = some u) : a ∉ ι' ∧ H' a = some u := by
  refine ⟨fun z => ?_, g.keep _ _ r n⟩
  have q := g.fresh a z n
  rw [q] at r; cases r
theorem TupAt.grow {K : PySem.W.Frag} {ι ι' : List Addr} {H H' : Hp} {a : Addr} {vs : List V} (g : Grow ι H ι' H') (h : TupAt K ι H a vs) : TupAt K ι' H' a vs := by
  rcases h with ⟨n, r⟩ | h
  · exact .inl (g.rd n r)
  · exact .inr h
theorem KlAt.grow {K : PySem.W.Frag} {ι ι' : List Addr} {H H' : Hp} {a : Addr} {vs : List V} (g : Grow ι H ι' H') (h : KlAt K ι H a vs) : KlAt K ι' H' a vs := by
  rcases h with ⟨n, o, r⟩ | h
  · exact .inl ⟨(g.rd n r).1, o, (g.rd n r).2⟩
  · exact .inr h
theorem LstAt.grow {ι ι' : List Addr} {H H' : Hp} {a : Addr} {vs : List V} (g : Grow ι H ι' H') (h : LstAt ι H a vs) : LstAt ι' H' a vs := g.rd h.1 h.2
theorem getElem?_pre {ι ι' : List Addr} (p : ι <+: ι') {n : Nat} {a : Addr} (h : ι[n]? = some a) : ι'[n]? = some a := by
  obtain ⟨t, rfl⟩ := p
  have hn : n < ι.length := (List.getElem?_eq_some_iff.mp h).1
  rw [List.getElem?_append_left hn]; exact h
mutual
theorem RepV.grow {K : PySem.W.Frag} {ι ι' : List Addr} {H H' : Hp} (g : Grow ι H ι' H') : ∀ (d : D) (v : V), RepV K ι H d v → RepV K ι' H' d v
  | .non, _, h => by rw [RepV] at h ⊢; exact h
  | .bl _, _, h => by rw [RepV] at h ⊢; exact h
  | .int _, _, h => by rw [RepV] at h ⊢; exact h
  | .str _, _, h => by rw [RepV] at h ⊢; exact h
  | .ty _, _, h => by rw [RepV] at h ⊢; exact h
  | .fn _, _, h => by rw [RepV] at h ⊢; exact h
  | .loc n, _, h => by
    rw [RepV] at h ⊢
    obtain ⟨a, e, r⟩ := h
    exact ⟨a, getElem?_pre g.pre e, r⟩
  | .tup ds, _, h => by
    rw [RepV] at h ⊢
    obtain ⟨a, vs, e, t, r⟩ := h
    exact ⟨a, vs, e, t.grow g, RepL.grow g ds vs r⟩
  | .fl ds, _, h => by
    rw [RepV] at h ⊢
    obtain ⟨a, vs, e, t, r⟩ := h
    exact ⟨a, vs, e, t.grow g, RepL.grow g ds vs r⟩
  | .kl ds, _, h => by
    rw [RepV] at h ⊢
    obtain ⟨a, vs, e, t, r⟩ := h
    exact ⟨a, vs, e, t.grow g, RepL.grow g ds vs r⟩
  | .fd kvs, _, h => by
    rw [RepV] at h ⊢
    obtain ⟨a, vs, e, n, t, r⟩ := h
    have q := g.rd n t
    exact ⟨a, vs, e, q.1, g.keep _ _ t n, RepK.grow g kvs vs r⟩
  | .exc c fs, _, h => by
    rw [RepV] at h ⊢
    obtain ⟨a, cls, dd, e, n, t, rc, r⟩ := h
    have q := g.rd n t
    refine ⟨a, cls, dd, e, q.1, q.2, rc, ?_⟩
    rcases r with r | ⟨d, vs, e1, e2, e3, e4⟩
    · exact .inl r
    · have q2 := g.rd e2 e3
      exact .inr ⟨d, vs, e1, q2.1, q2.2, RepF.grow g fs vs e4⟩
theorem RepL.grow {K : PySem.W.Frag} {ι ι' : List Addr} {H H' : Hp} (g : Grow ι H ι' H') : ∀ (ds : List D) (vs : List V), RepL K ι H ds vs → RepL K ι' H' ds vs
  | [], _, h => by rw [RepL] at h ⊢; exact h
  | d :: ds, _, h => by
    rw [RepL] at h ⊢
    obtain ⟨v, r, e, a, b⟩ := h
    exact ⟨v, r, e, RepV.grow g d v a, RepL.grow g ds r b⟩
theorem RepK.grow {K : PySem.W.Frag} {ι ι' : List Addr} {H H' : Hp} (g : Grow ι H ι' H') : ∀ (ds : List (Key × D)) (vs : List (Key × V)), RepK K ι H ds vs → RepK K ι' H' ds vs
  | [], _, h => by rw [RepK] at h ⊢; exact h
  | (k, d) :: ds, _, h => by
    rw [RepK] at h ⊢
    obtain ⟨v, r, e, a, b⟩ := h
    exact ⟨v, r, e, RepV.grow g d v a, RepK.grow g ds r b⟩
theorem RepF.grow {K : PySem.W.Frag} {ι ι' : List Addr} {H H' : Hp} (g : Grow ι H ι' H') : ∀ (ds : List (Str × D)) (vs : List (Str × V)), RepF K ι H ds vs → RepF K ι' H' ds vs
  | [], _, h => by rw [RepF] at h ⊢; exact h
  | (k, d) :: ds, _, h => by
    rw [RepF] at h ⊢
    obtain ⟨v, r, e, a, b⟩ := h
    exact ⟨v, r, e, RepV.grow g d v a, RepF.grow g ds r b⟩
end
theorem RepKT.grow {K : PySem.W.Frag} {ι ι' : List Addr} {H H' : Hp} (g : Grow ι H ι' H') : ∀ (ds : List (List Key × D)) (vs : List (List Key × V)), RepKT K ι H ds vs → RepKT K ι' H' ds vs
  | [], _, h => by rw [RepKT] at h ⊢; exact h
  | (k, d) :: ds, _, h => by
    rw [RepKT] at h ⊢
    obtain ⟨v, r, e, a, b⟩ := h
    exact ⟨v, r, e, RepV.grow g d v a, RepKT.grow g ds r b⟩
theorem RepE.grow {K : PySem.W.Frag} {ι ι' : List Addr} {H H' : Hp} {σ : St} {ρ : Ev} (g : Grow ι H ι' H') (h : RepE K ι H σ ρ) : RepE K ι' H' σ ρ :=
  ⟨h.1, fun i d e => let ⟨v, e', r⟩ := h.2 i d e; ⟨v, e', RepV.grow g d v r⟩⟩
theorem RepE.get {K : PySem.W.Frag} {ι : List Addr} {H : Hp} {σ : St} {ρ : Ev} (h : RepE K ι H σ ρ) {i : Nat} {d : D} (e : ρ[i]? = some (some d)) : ∃ v, σ[i]? = some (some v) ∧ RepV K ι H d v := h.2 i d e
theorem RepE.set {K : PySem.W.Frag} {ι : List Addr} {H : Hp} {σ : St} {ρ : Ev} (h : RepE K ι H σ ρ) {d : D} {v : V} (r : RepV K ι H d v) (i : Nat) : RepE K ι H (σ.set i (some v)) (ρ.set i (some d)) := by
  refine ⟨by simp [h.1], fun j d' e => ?_⟩
  rw [List.getElem?_set] at e ⊢
  by_cases hij : i = j
  · rw [if_pos hij] at e ⊢
    by_cases hl : i < ρ.length
    · rw [if_pos hl] at e
      rw [if_pos (by rw [h.1]; exact hl)]
      cases e
      exact ⟨v, rfl, r⟩
    · rw [if_neg hl] at e; cases e
  · rw [if_neg hij] at e ⊢
    exact h.2 j d' e
theorem RepE.drop {K : PySem.W.Frag} {ι : List Addr} {H : Hp} {σ : St} {ρ : Ev} (h : RepE K ι H σ ρ) (x : Option V) (i : Nat) : RepE K ι H (σ.set i x) (ρ.set i none) := by
  refine ⟨by simp [h.1], fun j d' e => ?_⟩
  rw [List.getElem?_set] at e ⊢
  by_cases hij : i = j
  · rw [if_pos hij] at e
    by_cases hl : i < ρ.length
    · rw [if_pos hl] at e; cases e
    · rw [if_neg hl] at e; cases e
  · rw [if_neg hij] at e ⊢
    exact h.2 j d' e
theorem RepL.length {K : PySem.W.Frag} {ι : List Addr} {H : Hp} : ∀ (ds : List D) (vs : List V), RepL K ι H ds vs → ds.length = vs.length
  | [], _, h => by rw [RepL] at h; subst h; rfl
  | d :: ds, _, h => by
    rw [RepL] at h
    obtain ⟨v, r, rfl, _, b⟩ := h
    simp [RepL.length ds r b]
theorem RepL.get {K : PySem.W.Frag} {ι : List Addr} {H : Hp} : ∀ (ds : List D) (vs : List V), RepL K ι H ds vs → ∀ (i : Nat) (d : D), ds[i]? = some d → ∃ v, vs[i]? = some v ∧ RepV K ι H d v
  | [], _, h, i, d, e => by simp at e
  | d :: ds, _, h, i, d', e => by
    rw [RepL] at h
    obtain ⟨v, r, rfl, a, b⟩ := h
    cases i with
    | zero => simp at e; subst e; exact ⟨v, rfl, a⟩
    | succ i => exact RepL.get ds r b i d' (by simpa using e)
theorem RepL.app {K : PySem.W.Frag} {ι : List Addr} {H : Hp} : ∀ (ds : List D) (vs : List V), RepL K ι H ds vs → ∀ (es : List D) (us : List V), RepL K ι H es us → RepL K ι H (ds ++ es) (vs ++ us)
  | [], _, h, es, us, h' => by rw [RepL] at h; subst h; simpa using h'
  | d :: ds, _, h, es, us, h' => by
    rw [RepL] at h
    obtain ⟨v, r, rfl, a, b⟩ := h
    show RepL K ι H (d :: (ds ++ es)) (v :: (r ++ us))
    rw [RepL]
    exact ⟨v, _, rfl, a, RepL.app ds r b es us h'⟩
theorem RepL.one {K : PySem.W.Frag} {ι : List Addr} {H : Hp} {d : D} {v : V} (h : RepV K ι H d v) : RepL K ι H [d] [v] := by
  rw [RepL]; exact ⟨v, [], rfl, h, by rw [RepL]⟩
theorem RepL.nil {K : PySem.W.Frag} {ι : List Addr} {H : Hp} : RepL K ι H [] [] := by rw [RepL]
theorem RepL.cons {K : PySem.W.Frag} {ι : List Addr} {H : Hp} {d : D} {v : V} {ds : List D} {vs : List V} (h : RepV K ι H d v) (t : RepL K ι H ds vs) : RepL K ι H (d :: ds) (v :: vs) := by
  rw [RepL]; exact ⟨v, vs, rfl, h, t⟩
theorem RepL.take {K : PySem.W.Frag} {ι : List Addr} {H : Hp} : ∀ (ds : List D) (vs : List V) (n : Nat), RepL K ι H ds vs → RepL K ι H (ds.take n) (vs.take n)
  | _, _, 0, _ => by simp [RepL]
  | [], _, n + 1, h => by rw [RepL] at h; subst h; simp [RepL]
  | d :: ds, _, n + 1, h => by
    rw [RepL] at h
    obtain ⟨v, r, rfl, a, b⟩ := h
    exact RepL.cons a (RepL.take ds r n b)
theorem RepL.drop {K : PySem.W.Frag} {ι : List Addr} {H : Hp} : ∀ (ds : List D) (vs : List V) (n : Nat), RepL K ι H ds vs → RepL K ι H (ds.drop n) (vs.drop n)
  | _, _, 0, h => h
  | [], _, n + 1, h => by rw [RepL] at h; subst h; simp [RepL]
  | d :: ds, _, n + 1, h => by
    rw [RepL] at h
    obtain ⟨v, r, rfl, a, b⟩ := h
    exact RepL.drop ds r n b
theorem RepL.set {K : PySem.W.Frag} {ι : List Addr} {H : Hp} {d : D} {v : V} (r : RepV K ι H d v) : ∀ (ds : List D) (vs : List V) (n : Nat), RepL K ι H ds vs → RepL K ι H (ds.set n d) (vs.set n v)
  | [], _, n, h => by rw [RepL] at h; subst h; simp [RepL]
  | d' :: ds, _, 0, h => by
    rw [RepL] at h
    obtain ⟨v', r', rfl, a, b⟩ := h
    exact RepL.cons r b
  | d' :: ds, _, n + 1, h => by
    rw [RepL] at h
    obtain ⟨v', r', rfl, a, b⟩ := h
    exact RepL.cons a (RepL.set r ds r' n b)
theorem RepO.grow {K : PySem.W.Frag} {ι : List Addr} {H H' : Hp} {a : Addr} {o : Ob} {ι' : List Addr} (g : Grow ι H ι' H') (e : H' a = H a) (h : RepO K ι H a o) : RepO K ι' H' a o := by
  cases o with
  | lst ds => obtain ⟨vs, q, r⟩ := h; exact ⟨vs, by rw [e]; exact q, RepL.grow g ds vs r⟩
  | ins C fs => obtain ⟨C', dx, vs, nc, q, r⟩ := h; exact ⟨C', dx, vs, nc, by rw [e]; exact q, RepF.grow g fs vs r⟩
  | dct ks => obtain ⟨vs, q, r⟩ := h; exact ⟨vs, by rw [e]; exact q, RepK.grow g ks vs r⟩
  | dtt ks => obtain ⟨vs, q, r⟩ := h; exact ⟨vs, by rw [e]; exact q, RepKT.grow g ks vs r⟩
  | scr ds => obtain ⟨o, vs, q, r⟩ := h; exact ⟨o, vs, by rw [e]; exact q, RepL.grow g ds vs r⟩
  | tpl ds => obtain ⟨o, vs, q, c1, c2, r⟩ := h; exact ⟨o, vs, by rw [e]; exact q, c1, c2, RepL.grow g ds vs r⟩
theorem RepO.some {K : PySem.W.Frag} {ι : List Addr} {H : Hp} {a : Addr} {o : Ob} (h : RepO K ι H a o) : ∃ u, H a = some u := by
  cases o with
  | lst ds => obtain ⟨vs, q, _⟩ := h; exact ⟨_, q⟩
  | ins C fs => obtain ⟨C', dx, vs, _, q, _⟩ := h; exact ⟨_, q⟩
  | dct ks => obtain ⟨vs, q, _⟩ := h; exact ⟨_, q⟩
  | dtt ks => obtain ⟨vs, q, _⟩ := h; exact ⟨_, q⟩
  | scr ds => obtain ⟨o, vs, q, _⟩ := h; exact ⟨_, q⟩
  | tpl ds => obtain ⟨o, vs, q, _⟩ := h; exact ⟨_, q⟩
theorem Sim.there {K : PySem.W.Frag} {ι : List Addr} {H : Hp} {S : Sto} (s : Sim K ι H S) {a : Addr} (h : a ∈ ι) : ∃ u, H a = some u := by
  obtain ⟨n, hn, rfl⟩ := List.mem_iff_getElem.mp h
  have hs : n < S.length := by rw [← s.len]; exact hn
  exact (s.ob n ι[n] S[n] (List.getElem?_eq_some_iff.mpr ⟨hn, rfl⟩) (List.getElem?_eq_some_iff.mpr ⟨hs, rfl⟩)).some
theorem Sim.free {K : PySem.W.Frag} {ι : List Addr} {H : Hp} {S : Sto} (s : Sim K ι H S) {p : Addr} (h : H p = none) : p ∉ ι := fun z => by
  obtain ⟨u, e⟩ := s.there z
  rw [h] at e; cases e
/-- a new thing outside of the store -/
theorem Grow.upd {ι : List Addr} {H : Hp} {p : Addr} {o : HO} (h : H p = none) : Grow ι H ι (L2.upd H p o) :=
  ⟨List.prefix_rfl, fun a u e _ => by rw [upd_ne (ne_of_none e h)]; exact e, fun _ z n => absurd z n⟩
theorem Sim.upd {K : PySem.W.Frag} {ι : List Addr} {H : Hp} {S : Sto} (s : Sim K ι H S) {p : Addr} {o : HO} (h : H p = none) : Sim K ι (L2.upd H p o) S :=
  ⟨s.nd, s.len, fun n a u e1 e2 => (s.ob n a u e1 e2).grow (Grow.upd h) (by
    have hp := s.free h
    have hne : a ≠ p := fun z => hp (z ▸ List.mem_of_getElem? e1)
    rw [upd_ne hne])⟩
/-- a new place -/
theorem Grow.push {ι : List Addr} {H : Hp} {p : Addr} {o : HO} (h : H p = none) : Grow ι H (ι ++ [p]) (L2.upd H p o) :=
  ⟨List.prefix_append _ _, fun a u e _ => by rw [upd_ne (ne_of_none e h)]; exact e, fun a z n => by
    rcases List.mem_append.mp z with z | z
    · exact absurd z n
    · rw [List.mem_singleton.mp z]; exact h⟩
theorem Sim.push {K : PySem.W.Frag} {ι : List Addr} {H : Hp} {S : Sto} (s : Sim K ι H S) {p : Addr} {o : HO} {b : Ob} (h : H p = none) (r : RepO K (ι ++ [p]) (L2.upd H p o) p b) : Sim K (ι ++ [p]) (L2.upd H p o) (S ++ [b]) := by
  have hp := s.free h
  refine ⟨?_, by simp [s.len], fun n a u e1 e2 => ?_⟩
  · exact List.nodup_append.mpr ⟨s.nd, by simp, fun x hx y hy => by rw [List.mem_singleton.mp hy]; exact fun z => hp (z ▸ hx)⟩
  · by_cases hn : n < ι.length
    · rw [List.getElem?_append_left hn] at e1
      rw [List.getElem?_append_left (by rw [← s.len]; exact hn)] at e2
      refine (s.ob n a u e1 e2).grow (Grow.push h) ?_
      have hne : a ≠ p := fun z => hp (z ▸ List.mem_of_getElem? e1)
      rw [upd_ne hne]
    · rw [List.getElem?_append_right (by omega)] at e1
      rw [List.getElem?_append_right (by rw [← s.len]; omega)] at e2
      rw [← s.len] at e2
      have hl := (List.getElem?_eq_some_iff.mp e1).1
      have : n - ι.length = 0 := by simpa using hl
      rw [this] at e1 e2
      simp at e1 e2
      subst e1; subst e2
      exact r
/-- a place changed -/
theorem Grow.put {ι : List Addr} {H : Hp} {p : Addr} {o : HO} (h : p ∈ ι) : Grow ι H ι (L2.upd H p o) :=
  ⟨List.prefix_rfl, fun a u e n => by
    have hne : a ≠ p := fun z => n (z ▸ h)
    rw [upd_ne hne]; exact e, fun _ z n => absurd z n⟩
theorem Sim.put {K : PySem.W.Frag} {ι : List Addr} {H : Hp} {S : Sto} (s : Sim K ι H S) {p : Addr} {o : HO} {b : Ob} {m : Nat} (h : ι[m]? = some p) (r : RepO K ι (L2.upd H p o) p b) : Sim K ι (L2.upd H p o) (S.set m b) := by
  refine ⟨s.nd, by simp [s.len], fun n a u e1 e2 => ?_⟩
  by_cases hn : n = m
  · subst hn
    rw [h] at e1; cases e1
    have hl : n < S.length := by rw [← s.len]; exact (List.getElem?_eq_some_iff.mp h).1
    rw [List.getElem?_set_self hl] at e2; cases e2
    exact r
  · rw [List.getElem?_set_ne (Ne.symm hn)] at e2
    refine (s.ob n a u e1 e2).grow (Grow.put (List.mem_of_getElem? h)) ?_
    rw [upd_ne]
    rintro rfl
    obtain ⟨h1, q1⟩ := List.getElem?_eq_some_iff.mp e1
    obtain ⟨h2, q2⟩ := List.getElem?_eq_some_iff.mp h
    exact hn ((List.getElem_inj s.nd).mp (q1.trans q2.symm))
/-- a raised exception: its class, its own dict -/
def RepX (K : PySem.W.Frag) (ι : List Addr) (H : Hp) (e : Ex) (cls : Value) (dd : Option Addr) : Prop :=
  RepC K e.cls cls ∧ ((dd = none ∧ e.fs = []) ∨ ∃ a vs, dd = some a ∧ a ∉ ι ∧ H a = some (.xd vs) ∧ RepF K ι H e.fs vs)
/-- behind a result: what is wanted of a value, W of an exception -/
def Post {α : Type} (K : PySem.W.Frag) (W : WX) (σ : St) (ι : List Addr) (H : Hp) (r : R α) (P : α → Sto → List Addr → Hp → Prop) : Prop := match r with
  | .ok a S' => ∀ ι' H', Grow ι H ι' H' → Sim K ι' H' S' → P a S' ι' H'
  | .er e S' => ∀ ι' H' cls dd, Grow ι H ι' H' → Sim K ι' H' S' → RepX K ι' H' e cls dd → W cls dd σ H'
  | .stuck => False
theorem Post.bind {α β : Type} {K : PySem.W.Frag} {W : WX} {σ : St} {ι : List Addr} {H : Hp} {r : R α} {k : α → Sto → R β} {P : β → Sto → List Addr → Hp → Prop} (h : Post K W σ ι H (r.bind k) P) :
    Post K W σ ι H r fun a S1 ι1 H1 => Post K W σ ι1 H1 (k a S1) P := by
  cases r with
  | stuck => exact h
  | er e S => exact h
  | ok a S =>
    intro ι1 H1 G1 s1
    have h : Post K W σ ι H (k a S) P := h
    show Post K W σ ι1 H1 (k a S) P
    revert h
    cases k a S with
    | stuck => exact fun h => h
    | er e S => exact fun h ι2 H2 cls dd G2 s2 x => h ι2 H2 cls dd (G1.trans G2) s2 x
    | ok b S => exact fun h ι2 H2 G2 s2 => h ι2 H2 (G1.trans G2) s2
theorem Post.mono {α : Type} {K : PySem.W.Frag} {W : WX} {σ : St} {ι : List Addr} {H : Hp} {r : R α} {P P' : α → Sto → List Addr → Hp → Prop} (h : Post K W σ ι H r P)
    (i : ∀ a S' ι' H', Grow ι H ι' H' → Sim K ι' H' S' → P a S' ι' H' → P' a S' ι' H') : Post K W σ ι H r P' := by
  cases r with
  | stuck => exact h
  | er e S => exact h
  | ok a S => exact fun ι' H' G s => i a S ι' H' G s (h ι' H' G s)
theorem Post.here {α : Type} {K : PySem.W.Frag} {W : WX} {σ : St} {ι : List Addr} {H : Hp} {a : α} {S : Sto} {P : α → Sto → List Addr → Hp → Prop} (h : Post K W σ ι H (.ok a S) P) (s : Sim K ι H S) : P a S ι H := h ι H (Grow.refl ι H) s
/-- the world of a piece of code: the store's addresses, the data of the slots, the store -/
def rdE (K : PySem.W.Frag) (W : WX) (f : Ev → Sto → R D) : TE := fun σ H Q => ∃ ι ρ S, RepE K ι H σ ρ ∧ Sim K ι H S ∧ Post K W σ ι H (f ρ S) fun d _ ι' H' => ∀ v, RepV K ι' H' d v → Q v H'
def rdT (K : PySem.W.Frag) (W : WX) (f : Ev → Sto → R Bool) : TT := fun σ H Q => ∃ ι ρ S, RepE K ι H σ ρ ∧ Sim K ι H S ∧ Post K W σ ι H (f ρ S) fun b _ _ H' => Q b H'
def rdA (K : PySem.W.Frag) (W : WX) (f : Ev → Sto → R (List D)) : TA := fun σ H Q => ∃ ι ρ S, RepE K ι H σ ρ ∧ Sim K ι H S ∧ Post K W σ ι H (f ρ S) fun ds _ ι' H' => ∀ vs, RepL K ι' H' ds vs → Q vs H'
/-- behind a statement -/
def PostS (K : PySem.W.Frag) (W : WX) (E : Ends) (ι : List Addr) (H : Hp) (r : SR) : Prop := match r with
  | .nx ρ' S' => ∀ ι' H' σ', Grow ι H ι' H' → Sim K ι' H' S' → RepE K ι' H' σ' ρ' → E.nx σ' H'
  | .rt d S' => ∀ ι' H' v, Grow ι H ι' H' → Sim K ι' H' S' → RepV K ι' H' d v → E.rt v H'
  | .bk ρ' S' => ∀ ι' H' σ', Grow ι H ι' H' → Sim K ι' H' S' → RepE K ι' H' σ' ρ' → E.bk σ' H'
  | .ct ρ' S' => ∀ ι' H' σ', Grow ι H ι' H' → Sim K ι' H' S' → RepE K ι' H' σ' ρ' → E.ct σ' H'
  | .er e ρ' S' => ∀ ι' H' σ' cls dd, Grow ι H ι' H' → Sim K ι' H' S' → RepE K ι' H' σ' ρ' → RepX K ι' H' e cls dd → W cls dd σ' H'
  | .stuck => False
theorem PostS.grow {K : PySem.W.Frag} {W : WX} {E : Ends} {ι ι1 : List Addr} {H H1 : Hp} {r : SR} (h : PostS K W E ι H r) (G : Grow ι H ι1 H1) : PostS K W E ι1 H1 r := by
  cases r with
  | stuck => exact h
  | nx ρ S => exact fun ι' H' σ' G1 => h ι' H' σ' (G.trans G1)
  | bk ρ S => exact fun ι' H' σ' G1 => h ι' H' σ' (G.trans G1)
  | ct ρ S => exact fun ι' H' σ' G1 => h ι' H' σ' (G.trans G1)
  | rt d S => exact fun ι' H' v G1 => h ι' H' v (G.trans G1)
  | er e ρ S => exact fun ι' H' σ' cls dd G1 => h ι' H' σ' cls dd (G.trans G1)
def rdS (K : PySem.W.Frag) (W : WX) (F : Ev → Sto → SR) : TS := fun E σ H => ∃ ι ρ S, RepE K ι H σ ρ ∧ Sim K ι H S ∧ PostS K W E ι H (F ρ S)
abbrev DE (X : Cx) (W : WX) (e : Expr) (f : Ev → Sto → R D) : Prop := PE X e (rdE X.K W f)
abbrev DT (X : Cx) (W : WX) (e : Expr) (f : Ev → Sto → R Bool) : Prop := PT X e (rdT X.K W f)
abbrev DW (X : Cx) (W : WX) (e : Expr) (f : Ev → Sto → R Bool) : Prop := PW X e (rdT X.K W f)
abbrev DA (X : Cx) (W : WX) (es : List Expr) (f : Ev → Sto → R (List D)) : Prop := PA X es (rdA X.K W f)
abbrev DS (X : Cx) (W : WX) (st : Stmt) (F : Ev → Sto → SR) : Prop := PS X st (rdS X.K W F)
abbrev DSs (X : Cx) (W : WX) (st : List Stmt) (F : Ev → Sto → SR) : Prop := PSs X st (rdS X.K W F)
theorem PE.imp {X : Cx} {e : Expr} {t u : TE} (h : PE X e t) (i : ∀ σ H Q, u σ H Q → t σ H Q) : PE X e u := ⟨fun pins s σ H Q I q => h.run pins s σ H Q I (i σ H Q q)⟩
theorem PT.imp {X : Cx} {e : Expr} {t u : TT} (h : PT X e t) (i : ∀ σ H Q, u σ H Q → t σ H Q) : PT X e u := ⟨fun pins s σ H Q I q => h.run pins s σ H Q I (i σ H Q q)⟩
theorem PW.imp {X : Cx} {e : Expr} {t u : TT} (h : PW X e t) (i : ∀ σ H Q, u σ H Q → t σ H Q) : PW X e u := ⟨fun wh pins s σ H Q I q => h.run wh pins s σ H Q I (i σ H Q q)⟩
theorem PA.imp {X : Cx} {e : List Expr} {t u : TA} (h : PA X e t) (i : ∀ σ H Q, u σ H Q → t σ H Q) : PA X e u := ⟨fun p pins s σ H Q I q => h.run p pins s σ H Q I (i σ H Q q)⟩
theorem PS.imp {X : Cx} {e : Stmt} {t u : TS} (h : PS X e t) (i : ∀ D σ H, u D σ H → t D σ H) : PS X e u := ⟨fun pins s σ H D I q => h.run pins s σ H D I (i D σ H q)⟩
theorem PSs.imp {X : Cx} {e : List Stmt} {t u : TS} (h : PSs X e t) (i : ∀ D σ H, u D σ H → t D σ H) : PSs X e u := ⟨fun pins s σ H D I q => h.run pins s σ H D I (i D σ H q)⟩
end DL
namespace DL
open PySem PySem.Spec L2
open PyProof.Rows hiding St
section
variable {X : Cx} {W : WX} {pos : Pos}
def eVar (i : Nat) : Ev → Sto → R D := fun ρ S => match ρ[i]? with
  | some (some d) => .ok d S
  | _ => .stuck
def eC (d : D) : Ev → Sto → R D := fun _ S => .ok d S
theorem de_var (i : Nat) {x : Str} {pos : Pos} (hN : X.N[i]? = some x := by rfl) (hv : Vis X.env.scope x := by first | exact Or.inl rfl | exact Or.inr (Or.inl rfl) | exact Or.inr (Or.inr rfl)) (hd : (x == ("__debug__" : Str)) = false := by decide)
    (hcd : (x == ("__classdict__" : Str)) = false := by decide) : DE X W (.Name x pos) (eVar i) := by
  refine PE.imp (pe_var hN hv hd hcd) fun σ H Q ⟨ι, ρ, S, hE, hS, h⟩ => ?_
  unfold eVar at h
  split at h
  · rename_i d e
    obtain ⟨v, e', r⟩ := hE.get e
    exact ⟨v, e', h.here hS v r⟩
  · exact h.elim
theorem de_c {e : Expr} {d : D} {v : V} (h : PE X e (tC v)) (r : ∀ ι H, RepV X.K ι H d v) : DE X W e (eC d) :=
  PE.imp h fun σ H Q ⟨ι, ρ, S, hE, hS, h⟩ => h.here hS v (r ι H)
theorem de_int {i j pos} : DE X W (.Constant (.int i) j pos) (eC (.int i)) := de_c pe_int fun _ _ => by rw [RepV]
theorem de_bl {b j pos} : DE X W (.Constant (.bool b) j pos) (eC (.bl b)) := de_c pe_bl fun _ _ => by rw [RepV]
theorem de_non {j pos} : DE X W (.Constant .none j pos) (eC .non) := de_c pe_non fun _ _ => by rw [RepV]
theorem de_str {x j pos} : DE X W (.Constant (.str x) j pos) (eC (.str x)) := de_c pe_str fun _ _ => by rw [RepV]
/-- a module's constant: KRep says how the datum stands in the written part -/
def KRep (K : PySem.W.Frag) (u : Value) (d : D) : Prop := ∃ v, RelV v u ∧ ∀ ι H, RepV K ι H d v
theorem de_glob {x : Str} {d : D} {u : Value} {pos : Pos} (hg : Gl X x) (hm : X.mg x = some u) (r : KRep X.K u d) (hd : (x == ("__debug__" : Str)) = false := by decide) : DE X W (.Name x pos) (eC d) :=
  let ⟨v, rv, rr⟩ := r
  de_c (pe_glob hg hm rv hd) rr
def eOp (o : D → D → Sto → R D) (f g : Ev → Sto → R D) : Ev → Sto → R D := fun ρ S => (f ρ S).bind fun a S1 => (g ρ S1).bind fun b S2 => o a b S2
/-- a rule by values keeps the function o -/
def OpK (K : PySem.W.Frag) (r : R2) (o : D → D → Sto → R D) : Prop := ∀ (W : WX) (σ : St) (ι : List Addr) (H : Hp) (S : Sto) (x y : V) (a b : D) (Q : VK), Sim K ι H S → RepV K ι H a x → RepV K ι H b y →
  Post K W σ ι H (o a b S) (fun d _ ι' H' => ∀ v, RepV K ι' H' d v → Q v H') → r x y H Q
theorem op_seq {r : R2} {o : D → D → Sto → R D} {f g : Ev → Sto → R D} (k : OpK X.K r o) : ∀ σ H Q, rdE X.K W (eOp o f g) σ H Q → tOp r (rdE X.K W f) (rdE X.K W g) σ H Q := fun σ H Q ⟨ι, ρ, S, hE, hS, h⟩ => by
  refine ⟨ι, ρ, S, hE, hS, (Post.bind h).mono fun a S1 ι1 H1 G1 s1 h1 x rx => ?_⟩
  refine ⟨ι1, ρ, S1, hE.grow G1, s1, (Post.bind h1).mono fun b S2 ι2 H2 G2 s2 h2 y ry => ?_⟩
  exact k W σ ι2 H2 S2 x y a b Q s2 (RepV.grow G2 a x rx) ry h2
theorem de_op {a b : Expr} {op : Operator} {r : R2} {o : D → D → Sto → R D} {f g : Ev → Sto → R D} (ho : OpR X (binaryOp op) r) (k : OpK X.K r o) (ha : DE X W a f) (hb : DE X W b g) : DE X W (.BinOp a op b pos) (eOp o f g) :=
  PE.imp (pe_op ho ha hb) (op_seq k)
theorem de_cmp {a b : Expr} {op : CmpOp} {r : R2} {o : D → D → Sto → R D} {f g : Ev → Sto → R D} (ho : OpR X (compareOp op) r) (k : OpK X.K r o) (ha : DE X W a f) (hb : DE X W b g) (hm : behindInMarks op b = false) : DE X W (.Compare a [op] [b] pos) (eOp o f g) :=
  PE.imp (pe_cmpR ho ha hb hm) (op_seq k)
/-- a value's truth where it is a bool -/
def bOf : D → Sto → R Bool := fun d S => match d with
  | .bl b => .ok b S
  | _ => .stuck
def eT (f : Ev → Sto → R D) : Ev → Sto → R Bool := fun ρ S => (f ρ S).bind bOf
theorem bOf_post {K : PySem.W.Frag} {σ : St} {ι : List Addr} {H : Hp} {d : D} {S : Sto} {v : V} {Q : Bool → Hp → Prop} (h : Post K W σ ι H (bOf d S) fun b _ _ H' => Q b H') (s : Sim K ι H S) (r : RepV K ι H d v) : ∃ c, v = .bl c ∧ Q c H := by
  cases d with
  | bl b => rw [RepV] at r; exact ⟨b, r, h.here s⟩
  | _ => exact (show False from h).elim
theorem dt_of_test {e : Expr} {t : TE} {f : Ev → Sto → R D} (h : PT X e (tTest t)) (i : ∀ σ H Q, rdE X.K W f σ H Q → t σ H Q) : DT X W e (eT f) := by
  refine PT.imp h fun σ H Q ⟨ι, ρ, S, hE, hS, q⟩ => i σ H _ ⟨ι, ρ, S, hE, hS, (Post.bind q).mono fun d S1 ι1 H1 G1 s1 h1 v rv => bOf_post h1 s1 rv⟩
theorem dt_cmp {a b : Expr} {op : CmpOp} {r : R2} {o : D → D → Sto → R D} {f g : Ev → Sto → R D} (ho : OpR X (compareOp op) r) (k : OpK X.K r o) (ha : DE X W a f) (hb : DE X W b g) (hm : behindInMarks op b = false) : DT X W (.Compare a [op] [b] pos) (eT (eOp o f g)) :=
  dt_of_test (pt_cmpR ho ha hb hm) (op_seq k)
/-- an expression whose value is a bool, as a test -/
theorem dt_val {e : Expr} {f : Ev → Sto → R D} (h : DE X W e f) (he : ∀ whole, isTrue e X.env whole = (do let v ← whole; standAt e.pos; holding [v] (truthy v)) := by intro _; rfl) : DT X W e (eT f) := by
  refine PT.imp (pt_val h he) fun σ H Q ⟨ι, ρ, S, hE, hS, q⟩ => ⟨ι, ρ, S, hE, hS, (Post.bind q).mono fun d S1 ι1 H1 G1 s1 h1 v rv => bOf_post h1 s1 rv⟩
def eAnd (f g : Ev → Sto → R Bool) : Ev → Sto → R Bool := fun ρ S => (f ρ S).bind fun b S1 => if b = true then g ρ S1 else .ok false S1
def eOr (f g : Ev → Sto → R Bool) : Ev → Sto → R Bool := fun ρ S => (f ρ S).bind fun b S1 => if b = true then .ok true S1 else g ρ S1
def eNot (f : Ev → Sto → R Bool) : Ev → Sto → R Bool := fun ρ S => (f ρ S).bind fun b S1 => .ok (!b) S1
def eIf (c : Ev → Sto → R Bool) (f g : Ev → Sto → R D) : Ev → Sto → R D := fun ρ S => (c ρ S).bind fun b S1 => if b = true then f ρ S1 else g ρ S1
variable {a b c : Expr} {rest : List Expr} {f g : Ev → Sto → R Bool}
theorem dw_and1 (ha : DT X W a f) : DW X W (.BoolOp .And [a] pos) f := pw_and1 ha
theorem dw_or1 (ha : DT X W a f) : DW X W (.BoolOp .Or [a] pos) f := pw_or1 ha
theorem dw_and (ha : DT X W a f) (hb : DW X W (.BoolOp .And (b :: rest) pos) g) : DW X W (.BoolOp .And (a :: b :: rest) pos) (eAnd f g) := by
  refine PW.imp (pw_and ha hb) fun σ H Q ⟨ι, ρ, S, hE, hS, h⟩ => ⟨ι, ρ, S, hE, hS, (Post.bind h).mono fun k S1 ι1 H1 G1 s1 h1 => ?_⟩
  cases k with
  | true => rw [if_pos rfl] at h1 ⊢; exact ⟨ι1, ρ, S1, hE.grow G1, s1, h1⟩
  | false => rw [if_neg (by decide)] at h1 ⊢; exact h1.here s1
theorem dw_or (ha : DT X W a f) (hb : DW X W (.BoolOp .Or (b :: rest) pos) g) : DW X W (.BoolOp .Or (a :: b :: rest) pos) (eOr f g) := by
  refine PW.imp (pw_or ha hb) fun σ H Q ⟨ι, ρ, S, hE, hS, h⟩ => ⟨ι, ρ, S, hE, hS, (Post.bind h).mono fun k S1 ι1 H1 G1 s1 h1 => ?_⟩
  cases k with
  | false => rw [if_neg (by decide)] at h1 ⊢; exact ⟨ι1, ρ, S1, hE.grow G1, s1, h1⟩
  | true => rw [if_pos rfl] at h1 ⊢; exact h1.here s1
theorem dw_t (h : DW X W a f) : DT X W a f := PW.pt h
theorem dt_not (ha : DT X W a f) : DT X W (.UnaryOp .Not a pos) (eNot f) := by
  refine PT.imp (pt_not ha) fun σ H Q ⟨ι, ρ, S, hE, hS, h⟩ => ⟨ι, ρ, S, hE, hS, (Post.bind h).mono fun k S1 ι1 H1 G1 s1 h1 => ?_⟩
  exact h1.here s1
/-- and, or, not as values: all but the last a bool -/
def eAndV (f g : Ev → Sto → R D) : Ev → Sto → R D := fun ρ S => (f ρ S).bind fun d S1 => (bOf d S1).bind fun b S2 => if b = true then g ρ S2 else .ok (.bl false) S2
def eOrV (f g : Ev → Sto → R D) : Ev → Sto → R D := fun ρ S => (f ρ S).bind fun d S1 => (bOf d S1).bind fun b S2 => if b = true then .ok (.bl true) S2 else g ρ S2
def eNotV (f : Ev → Sto → R D) : Ev → Sto → R D := fun ρ S => (f ρ S).bind fun d S1 => (bOf d S1).bind fun b S2 => .ok (.bl (!b)) S2
theorem bOf_bind {K : PySem.W.Frag} {σ : St} {ι : List Addr} {H : Hp} {d : D} {S : Sto} {v : V} {k : Bool → Sto → R D} {P : D → Sto → List Addr → Hp → Prop} (h : Post K W σ ι H ((bOf d S).bind k) P) (s : Sim K ι H S) (r : RepV K ι H d v) :
    ∃ c, v = .bl c ∧ Post K W σ ι H (k c S) P := by
  cases d with
  | bl b => rw [RepV] at r; exact ⟨b, r, h⟩
  | _ => exact (show False from h).elim
theorem de_one {op} {f : Ev → Sto → R D} (h : DE X W a f) : DE X W (.BoolOp op [a] pos) f := pe_one h
theorem de_and {f g : Ev → Sto → R D} (ha : DE X W a f) (hb : DE X W (.BoolOp .And (b :: rest) pos) g) : DE X W (.BoolOp .And (a :: b :: rest) pos) (eAndV f g) := by
  refine PE.imp (pe_and ha hb) fun σ H Q ⟨ι, ρ, S, hE, hS, h⟩ => ⟨ι, ρ, S, hE, hS, (Post.bind h).mono fun d S1 ι1 H1 G1 s1 h1 v rv => ?_⟩
  obtain ⟨k, e, h2⟩ := bOf_bind h1 s1 rv
  refine ⟨k, e, ?_⟩
  cases k with
  | true => rw [if_pos rfl] at h2 ⊢; exact ⟨ι1, ρ, S1, hE.grow G1, s1, h2⟩
  | false => rw [if_neg (by decide)] at h2 ⊢; exact h2.here s1 _ (by rw [RepV])
theorem de_or {f g : Ev → Sto → R D} (ha : DE X W a f) (hb : DE X W (.BoolOp .Or (b :: rest) pos) g) : DE X W (.BoolOp .Or (a :: b :: rest) pos) (eOrV f g) := by
  refine PE.imp (pe_or ha hb) fun σ H Q ⟨ι, ρ, S, hE, hS, h⟩ => ⟨ι, ρ, S, hE, hS, (Post.bind h).mono fun d S1 ι1 H1 G1 s1 h1 v rv => ?_⟩
  obtain ⟨k, e, h2⟩ := bOf_bind h1 s1 rv
  refine ⟨k, e, ?_⟩
  cases k with
  | false => rw [if_neg (by decide)] at h2 ⊢; exact ⟨ι1, ρ, S1, hE.grow G1, s1, h2⟩
  | true => rw [if_pos rfl] at h2 ⊢; exact h2.here s1 _ (by rw [RepV])
theorem de_not {f : Ev → Sto → R D} (ha : DE X W a f) : DE X W (.UnaryOp .Not a pos) (eNotV f) := by
  refine PE.imp (pe_not ha) fun σ H Q ⟨ι, ρ, S, hE, hS, h⟩ => ⟨ι, ρ, S, hE, hS, (Post.bind h).mono fun d S1 ι1 H1 G1 s1 h1 v rv => ?_⟩
  obtain ⟨k, e, h2⟩ := bOf_bind h1 s1 rv
  exact ⟨k, e, h2.here s1 _ (by rw [RepV])⟩
end
end DL
namespace DL
open PySem PySem.Spec L2
open PyProof.Rows hiding St
theorem OpR.or {X : Cx} {f : Value → Value → Sem Value} {r r' : R2} (h : OpR X f r) (h' : OpR X f r') : OpR X f (fun x y H Q => r x y H Q ∨ r' x y H Q) := by
  intro pins s σ H x y v u Q I rx ry q
  rcases q with q | q
  · exact h pins s σ H x y v u Q I rx ry q
  · exact h' pins s σ H x y v u Q I rx ry q
/-- a new tuple, a new list that is not changed any more -/
theorem rep_tup {K : PySem.W.Frag} {ι : List Addr} {H : Hp} {S : Sto} {ds : List D} {vs : List V} {p : Addr} (s : Sim K ι H S) (h : H p = none) (r : RepL K ι H ds vs) : RepV K ι (upd H p (.tup vs)) (.tup ds) (.ref p) := by
  rw [RepV]
  exact ⟨p, vs, rfl, .inl ⟨s.free h, upd_same⟩, RepL.grow (Grow.upd h) ds vs r⟩
theorem rep_fl {K : PySem.W.Frag} {ι : List Addr} {H : Hp} {S : Sto} {ds : List D} {vs : List V} {p : Addr} (s : Sim K ι H S) (h : H p = none) (r : RepL K ι H ds vs) : RepV K ι (upd H p (.lst vs)) (.fl ds) (.ref p) := by
  rw [RepV]
  exact ⟨p, vs, rfl, ⟨s.free h, upd_same⟩, RepL.grow (Grow.upd h) ds vs r⟩
theorem new_tup {K : PySem.W.Frag} {W : WX} {σ : St} {ι : List Addr} {H : Hp} {S : Sto} {ds : List D} {vs : List V} {Q : VK} (h : Post K W σ ι H (.ok (.tup ds) S) fun d _ ι' H' => ∀ v, RepV K ι' H' d v → Q v H') (s : Sim K ι H S) (r : RepL K ι H ds vs) :
    ∀ p, H p = none → Q (.ref p) (upd H p (.tup vs)) := fun p hp => h ι _ (Grow.upd hp) (s.upd hp) _ (rep_tup s hp r)
theorem new_fl {K : PySem.W.Frag} {W : WX} {σ : St} {ι : List Addr} {H : Hp} {S : Sto} {ds : List D} {vs : List V} {Q : VK} (h : Post K W σ ι H (.ok (.fl ds) S) fun d _ ι' H' => ∀ v, RepV K ι' H' d v → Q v H') (s : Sim K ι H S) (r : RepL K ι H ds vs) :
    ∀ p, H p = none → Q (.ref p) (upd H p (.lst vs)) := fun p hp => h ι _ (Grow.upd hp) (s.upd hp) _ (rep_fl s hp r)
theorem new_loc {K : PySem.W.Frag} {W : WX} {σ : St} {ι : List Addr} {H : Hp} {S : Sto} {ds : List D} {vs : List V} {Q : VK} (h : Post K W σ ι H (.ok (.loc S.length) (S ++ [.lst ds])) fun d _ ι' H' => ∀ v, RepV K ι' H' d v → Q v H') (s : Sim K ι H S) (r : RepL K ι H ds vs) :
    ∀ p, H p = none → Q (.ref p) (upd H p (.lst vs)) := fun p hp => by
  refine h (ι ++ [p]) _ (Grow.push hp) (s.push hp ⟨vs, upd_same, RepL.grow (Grow.push hp) ds vs r⟩) _ ?_
  rw [RepV]
  exact ⟨p, by rw [← s.len]; simp, rfl⟩
def getL (S : Sto) (n : Nat) : Option (List D) := match S[n]? with
  | some (.lst ds) => some ds
  | _ => none
def getQ (S : Sto) (n : Nat) : Option (List D) := match S[n]? with
  | some (.lst ds) => some ds
  | some (.scr ds) => some ds
  | _ => none
def lstOf (S : Sto) : D → Option (List D)
  | .fl ds => some ds
  | .loc n => getL S n
  | _ => none
def seqOf (S : Sto) : D → Option (List D)
  | .tup ds => some ds
  | .fl ds => some ds
  | .kl ds => some ds
  | .loc n => getQ S n
  | _ => none
theorem getL_some {S : Sto} {n : Nat} {ds : List D} (h : getL S n = some ds) : S[n]? = some (.lst ds) := by
  unfold getL at h
  (try unfold ifp at h); split at h
  · rename_i e; cases h; exact e
  · cases h
theorem getL_of {S : Sto} {n : Nat} {ds : List D} (h : S[n]? = some (.lst ds)) : getL S n = some ds := by unfold getL; rw [h]
theorem getQ_of {S : Sto} {n : Nat} {ds : List D} (h : S[n]? = some (.lst ds)) : getQ S n = some ds := by unfold getQ; rw [h]
theorem lst_at {K : PySem.W.Frag} {ι : List Addr} {H : Hp} {S : Sto} {d : D} {x : V} {ds : List D} (s : Sim K ι H S) (r : RepV K ι H d x) (e : lstOf S d = some ds) : ∃ p vs, x = .ref p ∧ H p = some (.lst vs) ∧ RepL K ι H ds vs := by
  cases d with
  | fl xs => cases e; rw [RepV] at r; obtain ⟨a, vs, rfl, t, q⟩ := r; exact ⟨a, vs, rfl, t.2, q⟩
  | loc n =>
    rw [RepV] at r
    obtain ⟨a, ea, rfl⟩ := r
    obtain ⟨vs, h1, h2⟩ := s.ob _ _ _ ea (getL_some e)
    exact ⟨a, vs, rfl, h1, h2⟩
  | _ => cases e
theorem seq_at {K : PySem.W.Frag} {ι : List Addr} {H : Hp} {S : Sto} {d : D} {x : V} {ds : List D} (s : Sim K ι H S) (r : RepV K ι H d x) (e : seqOf S d = some ds) : ∃ p vs, x = .ref p ∧ (SqL K H p vs ∨ SqT K H p vs) ∧ RepL K ι H ds vs := by
  cases d with
  | tup xs => cases e; rw [RepV] at r; obtain ⟨a, vs, rfl, t, q⟩ := r; exact ⟨a, vs, rfl, .inr t.sq, q⟩
  | fl xs => cases e; rw [RepV] at r; obtain ⟨a, vs, rfl, t, q⟩ := r; exact ⟨a, vs, rfl, .inl t.sq, q⟩
  | kl xs => cases e; rw [RepV] at r; obtain ⟨a, vs, rfl, t, q⟩ := r; exact ⟨a, vs, rfl, .inl t.sq, q⟩
  | loc n =>
    rw [RepV] at r
    obtain ⟨a, ea, rfl⟩ := r
    have e : getQ S n = some ds := e
    unfold getQ at e
    (try unfold ifp at e); split at e
    · rename_i q; cases e
      obtain ⟨vs, h1, h2⟩ := s.ob _ _ _ ea q
      exact ⟨a, vs, rfl, .inl (SqL.of h1), h2⟩
    · rename_i q; cases e
      obtain ⟨o, vs, h1, h2⟩ := s.ob _ _ _ ea q
      exact ⟨a, vs, rfl, .inl (.inl (.inr ⟨o, h1⟩)), h2⟩
    · cases e
  | _ => cases e
theorem tup_at {K : PySem.W.Frag} {ι : List Addr} {H : Hp} {ds : List D} {x : V} (r : RepV K ι H (.tup ds) x) : ∃ p vs, x = .ref p ∧ SqT K H p vs ∧ RepL K ι H ds vs := by
  rw [RepV] at r; obtain ⟨a, vs, rfl, t, q⟩ := r; exact ⟨a, vs, rfl, t.sq, q⟩
theorem int_at {K : PySem.W.Frag} {ι : List Addr} {H : Hp} {i : Int} {x : V} (r : RepV K ι H (.int i) x) : x = .int i := by rw [RepV] at r; exact r
theorem str_at {K : PySem.W.Frag} {ι : List Addr} {H : Hp} {i : Str} {x : V} (r : RepV K ι H (.str i) x) : x = .str i := by rw [RepV] at r; exact r
theorem int_rep {K : PySem.W.Frag} {ι : List Addr} {H : Hp} {i : Int} : RepV K ι H (.int i) (.int i) := by rw [RepV]
theorem bl_rep {K : PySem.W.Frag} {ι : List Addr} {H : Hp} {i : Bool} : RepV K ι H (.bl i) (.bl i) := by rw [RepV]
theorem str_rep {K : PySem.W.Frag} {ι : List Addr} {H : Hp} {i : Str} : RepV K ι H (.str i) (.str i) := by rw [RepV]
theorem non_rep {K : PySem.W.Frag} {ι : List Addr} {H : Hp} : RepV K ι H .non .non := by rw [RepV]
theorem rep_nil {K : PySem.W.Frag} {ι : List Addr} {H : Hp} {ds : List D} (h : RepL K ι H ds []) : ds = [] := by
  cases ds with
  | nil => rfl
  | cons d ds => rw [RepL] at h; obtain ⟨v, r, e, _⟩ := h; cases e
noncomputable def dAdd (a b : D) (S : Sto) : R D := match a, b with
  | .int i, .int j => .ok (.int (i + j)) S
  | .str x, .str y => ifp (x.length + y.length ≤ sizeLine) (.ok (.str (x ++ y)) S) .stuck
  | .tup xs, .tup ys => ifp (xs.length + ys.length ≤ sizeLine) (.ok (.tup (xs ++ ys)) S) .stuck
  | a, b => match lstOf S a, lstOf S b with
    | some xs, some ys => ifp (xs.length + ys.length ≤ sizeLine) (.ok (.fl (xs ++ ys)) S) .stuck
    | _, _ => .stuck
def dSub (a b : D) (S : Sto) : R D := match a, b with
  | .int i, .int j => .ok (.int (i - j)) S
  | _, _ => .stuck
open Classical in
noncomputable def dMul (a b : D) (S : Sto) : R D := match a, b with
  | .int i, .int j => ifp (CMul i j ∨ CMulW i j) (.ok (.int (i * j)) S) .stuck
  | a, .int k => match lstOf S a with
    | some xs => ifp (-(2 ^ 63) ≤ k ∧ k < 2 ^ 63 ∧ xs.length * k.toNat ≤ sizeLine) (.ok (.fl (List.replicate k.toNat xs).flatten) S) .stuck
    | _ => .stuck
  | _, _ => .stuck
noncomputable def dFdiv (a b : D) (S : Sto) : R D := match a, b with
  | .int i, .int j => ifp (0 < j ∧ j.natAbs.log2 < 9000) (.ok (.int (i / j)) S) .stuck
  | _, _ => .stuck
def dMod (a b : D) (S : Sto) : R D := match a, b with
  | .int i, .int j => if 0 < j then .ok (.int (i % j)) S else .stuck
  | _, _ => .stuck
noncomputable def dPow (a b : D) (S : Sto) : R D := match a, b with
  | .int i, .int j => ifp (0 ≤ j ∧ j ≤ 1000000 ∧ i.natAbs < 2 ^ 64) (.ok (.int (i ^ j.toNat)) S) .stuck
  | _, _ => .stuck
def dCmp (p : Int → Int → Bool) (a b : D) (S : Sto) : R D := match a, b with
  | .int i, .int j => .ok (.bl (p i j)) S
  | _, _ => .stuck
section
variable {X : Cx} {K : PySem.W.Frag}
def rAddD (K : PySem.W.Frag) : R2 := fun x y H Q => (∃ i j, x = .int i ∧ y = .int j ∧ Q (.int (i + j)) H) ∨ (∃ i j, x = .str i ∧ y = .str j ∧ i.length + j.length ≤ sizeLine ∧ Q (.str (i ++ j)) H) ∨ rCatA K x y H Q ∨ rCat x y H Q
theorem or_add : OpR X (binaryOp .Add) (rAddD X.K) := OpR.or op_add (OpR.or op_add_str (OpR.or op_catA op_cat))
theorem RepL.replicate {K : PySem.W.Frag} {ι : List Addr} {H : Hp} {ds : List D} {vs : List V} (h : RepL K ι H ds vs) : ∀ n : Nat, RepL K ι H (List.replicate n ds).flatten (List.replicate n vs).flatten
  | 0 => RepL.nil
  | n + 1 => by
    rw [List.replicate_succ, List.replicate_succ, List.flatten_cons, List.flatten_cons]
    exact RepL.app ds vs h _ _ (RepL.replicate h n)
theorem k_cat {W : WX} {σ : St} {ι : List Addr} {H : Hp} {S : Sto} {a b : D} {x y : V} {Q : VK} (s : Sim K ι H S) (rx : RepV K ι H a x) (ry : RepV K ι H b y)
    (h : Post K W σ ι H (match lstOf S a, lstOf S b with
    | some xs, some ys => ifp (xs.length + ys.length ≤ sizeLine) (.ok (.fl (xs ++ ys)) S) .stuck
    | _, _ => .stuck) fun d _ ι' H' => ∀ v, RepV K ι' H' d v → Q v H') : rCat x y H Q := by
  (try unfold ifp at h); split at h
  · rename_i xs ys e1 e2
    (try unfold ifp at h); split at h
    · rename_i hl
      obtain ⟨p, vs, rfl, hp, rp⟩ := lst_at s rx e1
      obtain ⟨q, us, rfl, hq, rq⟩ := lst_at s ry e2
      refine ⟨p, q, vs, us, rfl, rfl, hp, hq, ?_, new_fl h s (RepL.app _ _ rp _ _ rq)⟩
      rw [← RepL.length _ _ rp, ← RepL.length _ _ rq]; exact hl
    · exact h.elim
  · exact h.elim
theorem k_add : OpK K (rAddD K) dAdd := by
  intro W σ ι H S x y a b Q s rx ry h
  unfold dAdd at h
  (try unfold ifp at h); split at h
  · rename_i i j
    exact .inl ⟨i, j, int_at rx, int_at ry, h.here s _ int_rep⟩
  · rename_i i j
    (try unfold ifp at h); split at h
    · rename_i hl
      exact .inr (.inl ⟨i, j, str_at rx, str_at ry, hl, h.here s _ str_rep⟩)
    · exact h.elim
  · rename_i xs ys
    (try unfold ifp at h); split at h
    · rename_i hl
      obtain ⟨p, vs, rfl, hp, rp⟩ := tup_at rx
      obtain ⟨q, us, rfl, hq, rq⟩ := tup_at ry
      refine .inr (.inr (.inl ⟨p, q, vs, us, rfl, rfl, hp, hq, ?_, fun e => ?_, fun e1 e => ?_, fun _ _ => new_tup h s (RepL.app _ _ rp _ _ rq)⟩))
      · rw [← RepL.length _ _ rp, ← RepL.length _ _ rq]; exact hl
      · subst e
        have := rep_nil rp
        subst this
        exact h.here s _ (by simpa using ry)
      · subst e
        have := rep_nil rq
        subst this
        exact h.here s _ (by simpa using rx)
    · exact h.elim
  · exact .inr (.inr (.inr (k_cat s rx ry h)))
theorem k_sub : OpK K (rI0 fun i j => .int (i - j)) dSub := by
  intro W σ ι H S x y a b Q s rx ry h
  unfold dSub at h
  (try unfold ifp at h); split at h
  · rename_i i j
    exact ⟨i, j, int_at rx, int_at ry, h.here s _ int_rep⟩
  · exact h.elim
def rMulD : R2 := fun x y H Q => rI CMul (fun i j => .int (i * j)) x y H Q ∨ rI CMulW (fun i j => .int (i * j)) x y H Q ∨ rRep x y H Q
theorem or_mul : OpR X (binaryOp .Mult) rMulD := OpR.or op_mul (OpR.or op_mulW op_rep)
theorem k_mul : OpK K rMulD dMul := by
  intro W σ ι H S x y a b Q s rx ry h
  unfold dMul at h
  (try unfold ifp at h); split at h
  · rename_i i j
    (try unfold ifp at h); split at h
    · rename_i hl
      rcases hl with hl | hl
      · exact .inl ⟨i, j, int_at rx, int_at ry, hl, h.here s _ int_rep⟩
      · exact .inr (.inl ⟨i, j, int_at rx, int_at ry, hl, h.here s _ int_rep⟩)
    · exact h.elim
  · rename_i k _
    (try unfold ifp at h); split at h
    · rename_i xs e
      (try unfold ifp at h); split at h
      · rename_i hl
        obtain ⟨p, vs, rfl, hp, rp⟩ := lst_at s rx e
        refine .inr (.inr ⟨p, k, vs, rfl, int_at ry, hp, hl.1, hl.2.1, ?_, new_fl h s (RepL.replicate rp _)⟩)
        rw [← RepL.length _ _ rp]; exact hl.2.2
      · exact h.elim
    · exact h.elim
  · exact h.elim
theorem k_fdiv : OpK K (rI CDivW fun i j => .int (i / j)) dFdiv := by
  intro W σ ι H S x y a b Q s rx ry h
  unfold dFdiv at h
  (try unfold ifp at h); split at h
  · rename_i i j
    (try unfold ifp at h); split at h
    · rename_i hl
      exact ⟨i, j, int_at rx, int_at ry, hl, h.here s _ int_rep⟩
    · exact h.elim
  · exact h.elim
theorem k_mod : OpK K (rI (fun _ j => j ≠ 0) fun i j => .int (i.fmod j)) dMod := by
  intro W σ ι H S x y a b Q s rx ry h
  unfold dMod at h
  (try unfold ifp at h); split at h
  · rename_i i j
    (try unfold ifp at h); split at h
    · rename_i hl
      refine ⟨i, j, int_at rx, int_at ry, by omega, ?_⟩
      show Q (V.int (i.fmod j)) H
      rw [Int.fmod_eq_emod_of_nonneg i (by omega)]
      exact h.here s _ int_rep
    · exact h.elim
  · exact h.elim
theorem k_pow : OpK K (rI CPow fun i j => .int (i ^ j.toNat)) dPow := by
  intro W σ ι H S x y a b Q s rx ry h
  unfold dPow at h
  (try unfold ifp at h); split at h
  · rename_i i j
    (try unfold ifp at h); split at h
    · rename_i hl
      exact ⟨i, j, int_at rx, int_at ry, hl, h.here s _ int_rep⟩
    · exact h.elim
  · exact h.elim
theorem k_cmp {p : Int → Int → Bool} : OpK K (rI0 fun i j => .bl (p i j)) (dCmp p) := by
  intro W σ ι H S x y a b Q s rx ry h
  unfold dCmp at h
  (try unfold ifp at h); split at h
  · rename_i i j
    exact ⟨i, j, int_at rx, int_at ry, h.here s _ bl_rep⟩
  · exact h.elim
def dLt : D → D → Sto → R D := dCmp fun i j => decide (i < j)
def dLe : D → D → Sto → R D := dCmp fun i j => decide (i ≤ j)
def dGt : D → D → Sto → R D := dCmp fun i j => decide (j < i)
def dGe : D → D → Sto → R D := dCmp fun i j => decide (j ≤ i)
end
end DL
namespace DL
open PySem PySem.Spec L2
open PyProof.Rows hiding St
section
variable {X : Cx} {W : WX} {pos : Pos} {e : Expr} {es : List Expr}
def aNil : Ev → Sto → R (List D) := fun _ S => .ok [] S
def aCons (f : Ev → Sto → R D) (g : Ev → Sto → R (List D)) : Ev → Sto → R (List D) := fun ρ S => (f ρ S).bind fun d S1 => (g ρ S1).bind fun ds S2 => .ok (d :: ds) S2
def sOf (d : D) (S : Sto) : R (List D) := match seqOf S d with
  | some ds => .ok ds S
  | none => .stuck
def aStar (f : Ev → Sto → R D) (g : Ev → Sto → R (List D)) : Ev → Sto → R (List D) := fun ρ S => (f ρ S).bind fun d S1 => (sOf d S1).bind fun xs S2 => (g ρ S2).bind fun ds S3 => .ok (xs ++ ds) S3
theorem da_nil : DA X W [] aNil := PA.imp pa_nil fun σ H Q ⟨ι, ρ, S, hE, hS, h⟩ => h.here hS [] RepL.nil
theorem da_cons {f : Ev → Sto → R D} {g : Ev → Sto → R (List D)} (ha : DE X W e f) (hr : DA X W es g) (hs : starEach (e :: es) X.env = (false, eval e X.env) :: starEach es X.env := by rfl) : DA X W (e :: es) (aCons f g) := by
  refine PA.imp (pa_cons ha hr hs) fun σ H Q ⟨ι, ρ, S, hE, hS, h⟩ => ⟨ι, ρ, S, hE, hS, (Post.bind h).mono fun d S1 ι1 H1 G1 s1 h1 v rv => ?_⟩
  refine ⟨ι1, ρ, S1, hE.grow G1, s1, (Post.bind h1).mono fun ds S2 ι2 H2 G2 s2 h2 vs rs => ?_⟩
  exact h2.here s2 _ (RepL.cons (RepV.grow G2 d v rv) rs)
noncomputable def eTup (g : Ev → Sto → R (List D)) : Ev → Sto → R D := fun ρ S => (g ρ S).bind fun ds S1 => ifp (ds.length ≤ sizeLine) (.ok (.tup ds) S1) .stuck
noncomputable def eFl (g : Ev → Sto → R (List D)) : Ev → Sto → R D := fun ρ S => (g ρ S).bind fun ds S1 => ifp (ds.length ≤ sizeLine) (.ok (.fl ds) S1) .stuck
noncomputable def eLoc (g : Ev → Sto → R (List D)) : Ev → Sto → R D := fun ρ S => (g ρ S).bind fun ds S1 => ifp (ds.length ≤ sizeLine) (.ok (.loc S1.length) (S1 ++ [.lst ds])) .stuck
theorem de_tup {k} {g : Ev → Sto → R (List D)} (h : DA X W es g) : DE X W (.Tuple es k pos) (eTup g) := by
  refine PE.imp (pe_tup h) fun σ H Q ⟨ι, ρ, S, hE, hS, h⟩ => ⟨ι, ρ, S, hE, hS, (Post.bind h).mono fun ds S1 ι1 H1 G1 s1 h1 vs rs => ?_⟩
  (try unfold ifp at h1); split at h1
  · rename_i hl
    exact ⟨by rw [← RepL.length _ _ rs]; exact hl, new_tup h1 s1 rs⟩
  · exact h1.elim
theorem de_fl {g : Ev → Sto → R (List D)} (h : DA X W es g) : DE X W (.List es pos) (eFl g) := by
  refine PE.imp (pe_lst h) fun σ H Q ⟨ι, ρ, S, hE, hS, h⟩ => ⟨ι, ρ, S, hE, hS, (Post.bind h).mono fun ds S1 ι1 H1 G1 s1 h1 vs rs => ?_⟩
  (try unfold ifp at h1); split at h1
  · rename_i hl
    exact ⟨by rw [← RepL.length _ _ rs]; exact hl, new_fl h1 s1 rs⟩
  · exact h1.elim
theorem de_loc {g : Ev → Sto → R (List D)} (h : DA X W es g) : DE X W (.List es pos) (eLoc g) := by
  refine PE.imp (pe_lst h) fun σ H Q ⟨ι, ρ, S, hE, hS, h⟩ => ⟨ι, ρ, S, hE, hS, (Post.bind h).mono fun ds S1 ι1 H1 G1 s1 h1 vs rs => ?_⟩
  (try unfold ifp at h1); split at h1
  · rename_i hl
    exact ⟨by rw [← RepL.length _ _ rs]; exact hl, new_loc h1 s1 rs⟩
  · exact h1.elim
noncomputable def dIx (a b : D) (S : Sto) : R D := match a, b with
  | .str z, .int i => ifp (z.length ≤ sizeLine) (match atI z.cps.toList i with
    | some c => .ok (.str ⟨#[c]⟩) S
    | none => .stuck) .stuck
  | a, .int i => match seqOf S a with
    | some xs => (match atI xs i with
      | some d => .ok d S
      | none => .stuck)
    | none => .stuck
  | _, _ => .stuck
theorem atI_rep {K : PySem.W.Frag} {ι : List Addr} {H : Hp} {ds : List D} {vs : List V} {i : Int} {d : D} (r : RepL K ι H ds vs) (e : atI ds i = some d) : ∃ v, atI vs i = some v ∧ RepV K ι H d v := by
  unfold atI at e ⊢
  rw [← RepL.length _ _ r]
  cases h : ixN ds.length i with
  | none => rw [h] at e; cases e
  | some j =>
    rw [h] at e
    exact RepL.get _ _ r j d e
theorem k_ix {K : PySem.W.Frag} : OpK K (rIx K) dIx := by
  intro W σ ι H S x y a b Q s rx ry h
  unfold dIx at h
  (try unfold ifp at h); split at h
  · rename_i z i
    (try unfold ifp at h); split at h
    · rename_i hz
      (try unfold ifp at h); split at h
      · rename_i c hc
        exact .inr (.inr ⟨z, i, c, str_at rx, int_at ry, hz, hc, h.here s _ str_rep⟩)
      · exact h.elim
    · exact h.elim
  · rename_i i _
    (try unfold ifp at h); split at h
    · rename_i xs e
      (try unfold ifp at h); split at h
      · rename_i d hd
        obtain ⟨p, vs, rfl, q, rl⟩ := seq_at s rx e
        obtain ⟨v, hv, rv⟩ := atI_rep rl hd
        rcases q with q | q
        · exact .inl ⟨p, vs, i, v, rfl, int_at ry, q, hv, h.here s _ rv⟩
        · exact .inr (.inl ⟨p, vs, i, v, rfl, int_at ry, q, hv, h.here s _ rv⟩)
      · exact h.elim
    · exact h.elim
  · exact h.elim
theorem de_ix {a b : Expr} {f g : Ev → Sto → R D} (ha : DE X W a f) (hb : DE X W b g) (hs : PlainIx b := by exact fun _ _ => rfl) : DE X W (.Subscript a b pos) (eOp dIx f g) :=
  PE.imp (pe_ix ix_seq ha hb hs) (op_seq k_ix)
def rdO (K : PySem.W.Frag) (W : WX) (f : Ev → Sto → R (Option Int)) : TO := fun σ H Q => ∃ ι ρ S, RepE K ι H σ ρ ∧ Sim K ι H S ∧ Post K W σ ι H (f ρ S) fun b _ _ H' => Q b H'
abbrev DO (X : Cx) (W : WX) (e : Option Expr) (f : Ev → Sto → R (Option Int)) : Prop := PO X e (rdO X.K W f)
theorem PO.imp {X : Cx} {e : Option Expr} {t u : TO} (h : PO X e t) (i : ∀ σ H Q, u σ H Q → t σ H Q) : PO X e u := ⟨fun pins s σ H Q I q => h.run pins s σ H Q I (i σ H Q q)⟩
def oNone : Ev → Sto → R (Option Int) := fun _ S => .ok none S
def iOf (d : D) (S : Sto) : R Int := match d with
  | .int i => .ok i S
  | _ => .stuck
def oSome (f : Ev → Sto → R D) : Ev → Sto → R (Option Int) := fun ρ S => (f ρ S).bind fun d S1 => (iOf d S1).bind fun i S2 => .ok (some i) S2
theorem do_none : DO X W none oNone := PO.imp po_none fun σ H Q ⟨ι, ρ, S, hE, hS, h⟩ => h.here hS
theorem do_some {f : Ev → Sto → R D} (h : DE X W e f) : DO X W (some e) (oSome f) := by
  refine PO.imp (po_some h) fun σ H Q ⟨ι, ρ, S, hE, hS, h⟩ => ⟨ι, ρ, S, hE, hS, (Post.bind h).mono fun d S1 ι1 H1 G1 s1 h1 v rv => ?_⟩
  cases d with
  | int i => exact ⟨i, int_at rv, h1.here s1⟩
  | _ => exact (show False from h1).elim
def cut {α : Type} (xs : List α) (lo hi : Option Int) : List α := (xs.drop (HT.sIx xs.length 0 lo)).take (HT.sIx xs.length xs.length hi - HT.sIx xs.length 0 lo)
noncomputable def dSl (mk : List D → Sto → R D) (a : D) (lo hi : Option Int) (S : Sto) : R D := match a with
  | .str z => ifp (z.length ≤ sizeLine) (.ok (.str (cutS z lo hi)) S) .stuck
  | .tup xs => .ok (.tup (cut xs lo hi)) S
  | a => match lstOf S a with
    | some xs => mk (cut xs lo hi) S
    | none => .stuck
def mkFl (ds : List D) (S : Sto) : R D := .ok (.fl ds) S
/-- a new list comes, frozen or into the store -/
def MkOk (mk : List D → Sto → R D) : Prop := ∀ (K : PySem.W.Frag) (W : WX) (σ : St) (ι : List Addr) (H : Hp) (S : Sto) (ds : List D) (vs : List V) (Q : VK), Post K W σ ι H (mk ds S) (fun d _ ι' H' => ∀ v, RepV K ι' H' d v → Q v H') → Sim K ι H S → RepL K ι H ds vs →
  ∀ p, H p = none → Q (.ref p) (upd H p (.lst vs))
theorem mk_fl : MkOk mkFl := fun _ _ _ _ _ _ _ _ _ h s r => new_fl h s r
noncomputable def eSl (mk : List D → Sto → R D) (f : Ev → Sto → R D) (l u : Ev → Sto → R (Option Int)) : Ev → Sto → R D := fun ρ S => (f ρ S).bind fun d S1 => (l ρ S1).bind fun lo S2 => (u ρ S2).bind fun hi S3 => dSl mk d lo hi S3
theorem cut_rep {K : PySem.W.Frag} {ι : List Addr} {H : Hp} {ds : List D} {vs : List V} (r : RepL K ι H ds vs) (lo hi : Option Int) : RepL K ι H (cut ds lo hi) (cutV vs lo hi) := by
  unfold cut cutV
  rw [← RepL.length _ _ r]
  exact RepL.take _ _ _ (RepL.drop _ _ _ r)
theorem cut_whole {α : Type} (xs : List α) (lo hi : Option Int) (h : HT.sIx xs.length 0 lo = 0 ∧ HT.sIx xs.length xs.length hi = xs.length) : cut xs lo hi = xs := by
  unfold cut
  rw [h.1, h.2]
  simp
theorem de_sl {mk : List D → Sto → R D} {lo hi : Option Expr} {p2 : Pos} {f : Ev → Sto → R D} {l u : Ev → Sto → R (Option Int)} (m : MkOk mk) (he : DE X W e f) (hl : DO X W lo l) (hu : DO X W hi u) : DE X W (.Subscript e (.Slice lo hi none p2) pos) (eSl mk f l u) := by
  refine PE.imp (pe_slice (SlR.or sl_str (SlR.or sl_tupA sl_list)) he hl hu) fun σ H Q ⟨ι, ρ, S, hE, hS, h⟩ => ⟨ι, ρ, S, hE, hS, (Post.bind h).mono fun d S1 ι1 H1 G1 s1 h1 v rv => ?_⟩
  refine ⟨ι1, ρ, S1, hE.grow G1, s1, (Post.bind h1).mono fun lo S2 ι2 H2 G2 s2 h2 => ?_⟩
  refine ⟨ι2, ρ, S2, (hE.grow G1).grow G2, s2, (Post.bind h2).mono fun hi S3 ι3 H3 G3 s3 h3 => ?_⟩
  have rv := RepV.grow G3 d v (RepV.grow G2 d v rv)
  unfold dSl at h3
  (try unfold ifp at h3); split at h3
  · (try unfold ifp at h3); split at h3
    · rename_i hz
      exact .inl ⟨_, str_at rv, hz, h3.here s3 _ str_rep⟩
    · exact h3.elim
  · obtain ⟨p, vs, rfl, q, rl⟩ := tup_at rv
    refine .inr (.inl ⟨p, vs, rfl, q, fun e => ?_, fun _ => new_tup h3 s3 (cut_rep rl _ _)⟩)
    rw [← RepL.length _ _ rl] at e
    rw [cut_whole _ _ _ e] at h3
    exact h3.here s3 _ rv
  · (try unfold ifp at h3); split at h3
    · rename_i xs e
      obtain ⟨p, vs, rfl, q, rl⟩ := lst_at s3 rv e
      exact .inr (.inr ⟨p, vs, rfl, SqL.of q, m _ _ _ _ _ _ _ _ _ h3 s3 (cut_rep rl _ _)⟩)
    · exact h3.elim
end
end DL
namespace DL
open PySem PySem.Spec L2
open PyProof.Rows hiding St
def keyPy : Key → PyData
  | .inl i => .int i
  | .inr x => .str x
mutual
def py : D → Option PyData
  | .non => some .none
  | .bl b => some (.bool b)
  | .int i => some (.int i)
  | .str x => some (.str x)
  | .tup ds => (pyL ds).map .tuple
  | .fl ds => (pyL ds).map .list
  | .kl _ => none
  | .fd kvs => (pyK kvs).map .dict
  | .ty _ => none
  | .fn _ => none
  | .exc _ _ => none
  | .loc _ => none
def pyL : List D → Option (List PyData)
  | [] => some []
  | d :: ds => (py d).bind fun p => (pyL ds).map fun ps => p :: ps
def pyK : List (Key × D) → Option (List (PyData × PyData))
  | [] => some []
  | (k, d) :: ds => (py d).bind fun p => (pyK ds).map fun ps => (keyPy k, p) :: ps
end
def pyS (S : Sto) : D → Option PyData
  | .loc n => (getQ S n).bind fun ds => (pyL ds).map .list
  | d => py d
mutual
theorem py_dp {K : PySem.W.Frag} {ι : List Addr} {H : Hp} : ∀ (d : D) (v : V) (p : PyData), RepV K ι H d v → py d = some p → p.hasDict = false → Dp K H v p
  | .non, v, p, r, e, _ => by rw [RepV] at r; rw [py] at e; cases e; subst r; exact .non
  | .bl b, v, p, r, e, _ => by rw [RepV] at r; rw [py] at e; cases e; subst r; exact .bl b
  | .int i, v, p, r, e, _ => by rw [RepV] at r; rw [py] at e; cases e; subst r; exact .int i
  | .str x, v, p, r, e, _ => by rw [RepV] at r; rw [py] at e; cases e; subst r; exact .str x
  | .tup ds, v, p, r, e, n => by
    rw [RepV] at r
    obtain ⟨a, vs, rfl, t, q⟩ := r
    rw [py] at e
    cases h : pyL ds with
    | none => rw [h] at e; cases e
    | some ps =>
      rw [h] at e; cases e
      exact .tup t.sq (pyL_dp ds vs ps q h (by simpa [PyData.hasDict] using n))
  | .fl ds, v, p, r, e, n => by
    rw [RepV] at r
    obtain ⟨a, vs, rfl, t, q⟩ := r
    rw [py] at e
    cases h : pyL ds with
    | none => rw [h] at e; cases e
    | some ps =>
      rw [h] at e; cases e
      exact .lst t.sq (pyL_dp ds vs ps q h (by simpa [PyData.hasDict] using n))
  | .kl _, v, p, r, e, _ => by rw [py] at e; cases e
  | .fd kvs, v, p, r, e, n => by
    rw [py] at e
    cases h : pyK kvs with
    | none => rw [h] at e; cases e
    | some ps => rw [h] at e; cases e; simp [PyData.hasDict] at n
  | .ty _, v, p, r, e, _ => by rw [py] at e; cases e
  | .fn _, v, p, r, e, _ => by rw [py] at e; cases e
  | .exc _ _, v, p, r, e, _ => by rw [py] at e; cases e
  | .loc _, v, p, r, e, _ => by rw [py] at e; cases e
theorem pyL_dp {K : PySem.W.Frag} {ι : List Addr} {H : Hp} : ∀ (ds : List D) (vs : List V) (ps : List PyData), RepL K ι H ds vs → pyL ds = some ps → PyData.hasDictAll ps = false → DpAll K H vs ps
  | [], vs, ps, r, e, _ => by rw [RepL] at r; rw [pyL] at e; cases e; subst r; exact .nil
  | d :: ds, vs, ps, r, e, n => by
    rw [RepL] at r
    obtain ⟨v, us, rfl, a, b⟩ := r
    rw [pyL] at e
    cases h : py d with
    | none => rw [h] at e; cases e
    | some p =>
      rw [h] at e
      cases h2 : pyL ds with
      | none => rw [h2] at e; cases e
      | some qs =>
        rw [h2] at e; cases e
        simp only [PyData.hasDictAll, Bool.or_eq_false_iff] at n
        exact .cons (py_dp d v p a h n.1) (pyL_dp ds us qs b h2 n.2)
end
theorem pyS_dp {K : PySem.W.Frag} {ι : List Addr} {H : Hp} {S : Sto} {d : D} {v : V} {p : PyData} (s : Sim K ι H S) (r : RepV K ι H d v) (e : pyS S d = some p) (n : p.hasDict = false) : Dp K H v p := by
  cases d with
  | loc m =>
    have e : (getQ S m).bind (fun ds => (pyL ds).map .list) = some p := e
    cases h : getQ S m with
    | none => rw [h] at e; cases e
    | some ds =>
      rw [h] at e
      have e : (pyL ds).map PyData.list = some p := e
      cases h2 : pyL ds with
      | none => rw [h2] at e; cases e
      | some ps =>
        rw [h2] at e; cases e
        rw [RepV] at r
        obtain ⟨a, ea, rfl⟩ := r
        have n : PyData.hasDictAll ps = false := by simpa [PyData.hasDict] using n
        unfold getQ at h
        split at h
        · rename_i q; cases h
          obtain ⟨vs, h1, h3⟩ := s.ob _ _ _ ea q
          exact .lst (SqL.of h1) (pyL_dp _ _ _ h3 h2 n)
        · rename_i q; cases h
          obtain ⟨o, vs, h1, h3⟩ := s.ob _ _ _ ea q
          exact .lst (.inl (.inr ⟨o, h1⟩)) (pyL_dp _ _ _ h3 h2 n)
        · cases h
  | _ => exact py_dp _ v p r e n
def dEqP (neg : Bool) (a b : D) (S : Sto) : R D := match pyS S a, pyS S b with
  | some p, some q => if SeqAt.shaped p = true ∧ SeqAt.shaped q = true then .ok (.bl (if neg then !PyData.eqv p q else PyData.eqv p q)) S else .stuck
  | _, _ => .stuck
def dEq (neg : Bool) (a b : D) (S : Sto) : R D := match a, b with
  | .str x, .str y => .ok (.bl (if neg then !decide (x = y) else decide (x = y))) S
  | a, b => dEqP neg a b S
theorem noDict_shaped {p : PyData} (h : SeqAt.shaped p = true) : p.hasDict = false := PyData.hasDict_of_canLay p (SeqAt.canLay_of_shaped h)
theorem or_eq {X : Cx} (hu : X.A.units + 64 < cLine) : OpR X (compareOp .Eq) (fun x y H Q => rEq x y H Q ∨ rEqD X.K x y H Q) := OpR.or op_eq (op_eqD hu)
theorem or_ne {X : Cx} (hu : X.A.units + 64 < cLine) : OpR X (compareOp .NotEq) (fun x y H Q => rNe x y H Q ∨ rNeD X.K x y H Q) := OpR.or op_ne (op_neD hu)
theorem dec_str (x y : Str) : decide ((V.str x) = V.str y) = decide (x = y) := by
  by_cases e : x = y
  · subst e; simp
  · rw [decide_eq_false e, decide_eq_false fun z => e (V.str.inj z)]
theorem k_eqD {K : PySem.W.Frag} : OpK K (fun x y H Q => rEq x y H Q ∨ rEqD K x y H Q) (dEq false) := by
  intro W σ ι H S x y a b Q s rx ry h
  unfold dEq at h
  split at h
  · rename_i u v
    rw [str_at rx, str_at ry]
    refine .inl ⟨rfl, ?_⟩
    rw [dec_str]
    exact h.here s _ bl_rep
  · unfold dEqP at h
    split at h
    · rename_i p q e1 e2
      split at h
      · rename_i hl
        exact .inr ⟨p, q, pyS_dp s rx e1 (noDict_shaped hl.1), pyS_dp s ry e2 (noDict_shaped hl.2), hl.1, hl.2, h.here s _ bl_rep⟩
      · exact h.elim
    · exact h.elim
theorem k_neD {K : PySem.W.Frag} : OpK K (fun x y H Q => rNe x y H Q ∨ rNeD K x y H Q) (dEq true) := by
  intro W σ ι H S x y a b Q s rx ry h
  unfold dEq at h
  split at h
  · rename_i u v
    rw [str_at rx, str_at ry]
    refine .inl ⟨rfl, ?_⟩
    rw [dec_str]
    exact h.here s _ bl_rep
  · unfold dEqP at h
    split at h
    · rename_i p q e1 e2
      split at h
      · rename_i hl
        exact .inr ⟨p, q, pyS_dp s rx e1 (noDict_shaped hl.1), pyS_dp s ry e2 (noDict_shaped hl.2), hl.1, hl.2, h.here s _ bl_rep⟩
      · exact h.elim
    · exact h.elim
def isN : D → Bool
  | .non => true
  | _ => false
def dIsN (neg : Bool) (a b : D) (S : Sto) : R D := match b with
  | .non => .ok (.bl (if neg then !isN a else isN a)) S
  | _ => .stuck
end DL
namespace DL
open PySem PySem.Spec L2
open PyProof.Rows hiding St
def R.toS {α : Type} (r : R α) (ρ : Ev) (k : α → Sto → SR) : SR := match r with
  | .ok a S => k a S
  | .er e S => .er e ρ S
  | .stuck => .stuck
@[simp] theorem R.toS_ok {α : Type} (a : α) (S : Sto) (ρ : Ev) (k : α → Sto → SR) : (R.ok a S).toS ρ k = k a S := rfl
@[simp] theorem R.toS_er {α : Type} (e : Ex) (S : Sto) (ρ : Ev) (k : α → Sto → SR) : (R.er e S : R α).toS ρ k = .er e ρ S := rfl
@[simp] theorem R.toS_stuck {α : Type} (ρ : Ev) (k : α → Sto → SR) : (R.stuck : R α).toS ρ k = .stuck := rfl
def SR.next (r : SR) (k : Ev → Sto → SR) : SR := match r with
  | .nx ρ S => k ρ S
  | .rt d S => .rt d S
  | .bk ρ S => .bk ρ S
  | .ct ρ S => .ct ρ S
  | .er e ρ S => .er e ρ S
  | .stuck => .stuck
@[simp] theorem SR.next_nx (ρ : Ev) (S : Sto) (k : Ev → Sto → SR) : (SR.nx ρ S).next k = k ρ S := rfl
@[simp] theorem SR.next_rt (d : D) (S : Sto) (k : Ev → Sto → SR) : (SR.rt d S).next k = .rt d S := rfl
@[simp] theorem SR.next_er (e : Ex) (ρ : Ev) (S : Sto) (k : Ev → Sto → SR) : (SR.er e ρ S).next k = .er e ρ S := rfl
@[simp] theorem SR.next_bk (ρ : Ev) (S : Sto) (k : Ev → Sto → SR) : (SR.bk ρ S).next k = .bk ρ S := rfl
@[simp] theorem SR.next_ct (ρ : Ev) (S : Sto) (k : Ev → Sto → SR) : (SR.ct ρ S).next k = .ct ρ S := rfl
@[simp] theorem SR.next_stuck (k : Ev → Sto → SR) : (SR.stuck).next k = .stuck := rfl
theorem PostS.bind {α : Type} {K : PySem.W.Frag} {W : WX} {E : Ends} {σ : St} {ρ : Ev} {ι : List Addr} {H : Hp} {r : R α} {k : α → Sto → SR} (h : PostS K W E ι H (r.toS ρ k)) (hE : RepE K ι H σ ρ) :
    Post K W σ ι H r fun a S1 ι1 H1 => PostS K W E ι1 H1 (k a S1) := by
  cases r with
  | stuck => exact h
  | er e S => exact fun ι' H' cls dd G s x => h ι' H' σ cls dd G s (hE.grow G) x
  | ok a S => exact fun ι1 H1 G1 s1 => PostS.grow h G1
def dCmpI (p : Int → Int → Int) (a b : D) (S : Sto) : R D := match a, b with
  | .int i, .int j => .ok (.int (p i j)) S
  | _, _ => .stuck
def dAddI : D → D → Sto → R D := dCmpI fun i j => i + j
def dSubI : D → D → Sto → R D := dCmpI fun i j => i - j
section
variable {X : Cx} {W : WX} {pos : Pos} {e : Expr} {st : Stmt} {rest : List Stmt}
def sNil : Ev → Sto → SR := fun ρ S => .nx ρ S
def sSeq (F G : Ev → Sto → SR) : Ev → Sto → SR := fun ρ S => (F ρ S).next G
theorem dss_nil : DSs X W [] sNil := PSs.imp pss_nil fun E σ H ⟨ι, ρ, S, hE, hS, h⟩ => h ι H σ (Grow.refl _ _) hS hE
theorem dss_cons {F G : Ev → Sto → SR} (h1 : DS X W st F) (h2 : DSs X W rest G) : DSs X W (st :: rest) (sSeq F G) := by
  refine PSs.imp (pss_cons h1 h2) fun E σ H ⟨ι, ρ, S, hE, hS, h⟩ => ⟨ι, ρ, S, hE, hS, ?_⟩
  unfold sSeq at h
  cases hF : F ρ S with
  | nx ρ1 S1 => rw [hF] at h; exact fun ι1 H1 σ1 G1 s1 e1 => ⟨ι1, ρ1, S1, e1, s1, PostS.grow h G1⟩
  | rt d S1 => rw [hF] at h; exact h
  | bk ρ1 S1 => rw [hF] at h; exact h
  | ct ρ1 S1 => rw [hF] at h; exact h
  | er e ρ1 S1 => rw [hF] at h; exact h
  | stuck => rw [hF] at h; exact h
theorem dss_one {F : Ev → Sto → SR} (h1 : DS X W st F) : DSs X W [st] F := pss_one h1
def sBrk : Ev → Sto → SR := fun ρ S => .bk ρ S
def sCnt : Ev → Sto → SR := fun ρ S => .ct ρ S
def sExp (f : Ev → Sto → R D) : Ev → Sto → SR := fun ρ S => (f ρ S).toS ρ fun _ S1 => .nx ρ S1
def sRet (f : Ev → Sto → R D) : Ev → Sto → SR := fun ρ S => (f ρ S).toS ρ fun d S1 => .rt d S1
theorem ds_expr {f : Ev → Sto → R D} (he : DE X W e f) (hs : swapsWith e none pos.line X.env = pure false := by rfl) : DS X W (.Expr e pos) (sExp f) := by
  refine PS.imp (ps_expr he hs) fun E σ H ⟨ι, ρ, S, hE, hS, h⟩ => ⟨ι, ρ, S, hE, hS, (PostS.bind h hE).mono fun d S1 ι1 H1 G1 s1 h1 v rv => ?_⟩
  exact h1 ι1 H1 σ (Grow.refl _ _) s1 (hE.grow G1)
theorem ds_ret {f : Ev → Sto → R D} (he : DE X W e f) : DS X W (.Return (some e) pos) (sRet f) := by
  refine PS.imp (ps_ret he) fun E σ H ⟨ι, ρ, S, hE, hS, h⟩ => ⟨ι, ρ, S, hE, hS, (PostS.bind h hE).mono fun d S1 ι1 H1 G1 s1 h1 v rv => ?_⟩
  exact h1 ι1 H1 v (Grow.refl _ _) s1 rv
def sRetN : Ev → Sto → SR := fun _ S => .rt .non S
def sIf (c : Ev → Sto → R Bool) (F G : Ev → Sto → SR) : Ev → Sto → SR := fun ρ S => (c ρ S).toS ρ fun b S1 => if b = true then F ρ S1 else G ρ S1
theorem ds_if {c : Expr} {a b : List Stmt} {t : Ev → Sto → R Bool} {F G : Ev → Sto → SR} (hc : DT X W c t) (ha : DSs X W a F) (hb : DSs X W b G) : DS X W (.If c a b pos) (sIf t F G) := by
  refine PS.imp (ps_if hc ha hb) fun E σ H ⟨ι, ρ, S, hE, hS, h⟩ => ⟨ι, ρ, S, hE, hS, (PostS.bind h hE).mono fun b S1 ι1 H1 G1 s1 h1 => ?_⟩
  cases b with
  | true => rw [if_pos rfl] at h1 ⊢; exact ⟨ι1, ρ, S1, hE.grow G1, s1, h1⟩
  | false => rw [if_neg (by decide)] at h1 ⊢; exact ⟨ι1, ρ, S1, hE.grow G1, s1, h1⟩
abbrev Tg := D → Ev → Sto → Option (Ev × Sto)
abbrev Tgs := List D → Ev → Sto → Option (Ev × Sto)
def rdG (K : PySem.W.Frag) (T : Tg) : TG := fun v σ H Q => ∃ ι ρ S d ρ' S', RepE K ι H σ ρ ∧ Sim K ι H S ∧ RepV K ι H d v ∧ T d ρ S = some (ρ', S') ∧ ∀ ι' H' σ', Grow ι H ι' H' → Sim K ι' H' S' → RepE K ι' H' σ' ρ' → Q σ' H'
abbrev DG (X : Cx) (e : Expr) (T : Tg) : Prop := PG X e (rdG X.K T)
theorem PG.imp {X : Cx} {e : Expr} {t u : TG} (h : PG X e t) (i : ∀ v σ H Q, u v σ H Q → t v σ H Q) : PG X e u := ⟨fun pins s σ H v w Q I r q => h.run pins s σ H v w Q I r (i v σ H Q q)⟩
def tN (i : Nat) : Tg := fun d ρ S => some (ρ.set i (some d), S)
theorem dg_name (i : Nat) {x : Str} (hN : X.N.Nodup) (hi : X.N[i]? = some x := by rfl) (hx : Loc X.env.scope x := by first | exact .inl rfl | exact .inr rfl) (hf : X.fn x = true ∨ X.env.scope.names.lookup x = some .local := by first | exact .inl rfl | exact .inr rfl | assumption) : DG X (.Name x pos) (tN i) :=
  PG.imp (pg_name hN hi hx hf) fun v σ H Q ⟨ι, ρ, S, d, ρ', S', hE, hS, r, e, h⟩ => by
    cases e
    exact h ι H _ (Grow.refl _ _) hS (hE.set r i)
def rdGs (K : PySem.W.Frag) (T : Tgs) : TGs := fun vs σ H Q => ∃ ι ρ S ds ρ' S', RepE K ι H σ ρ ∧ Sim K ι H S ∧ RepL K ι H ds vs ∧ T ds ρ S = some (ρ', S') ∧ ∀ ι' H' σ', Grow ι H ι' H' → Sim K ι' H' S' → RepE K ι' H' σ' ρ' → Q σ' H'
abbrev DGs (X : Cx) (e : List Expr) (T : Tgs) : Prop := PGs X e (rdGs X.K T)
theorem PGs.imp {X : Cx} {e : List Expr} {t u : TGs} (h : PGs X e t) (i : ∀ v σ H Q, u v σ H Q → t v σ H Q) : PGs X e u := ⟨fun pins s σ H v w Q I r q => h.run pins s σ H v w Q I r (i v σ H Q q)⟩
def tNil : Tgs := fun ds ρ S => match ds with
  | [] => some (ρ, S)
  | _ => none
def tCons (T : Tg) (U : Tgs) : Tgs := fun ds ρ S => match ds with
  | d :: r => (T d ρ S).bind fun q => U r q.1 q.2
  | [] => none
theorem dgs_nil : DGs X [] tNil := PGs.imp pgs_nil fun v σ H Q ⟨ι, ρ, S, ds, ρ', S', hE, hS, r, e, h⟩ => by
  cases ds with
  | nil => cases e; rw [RepL] at r; exact ⟨r, h ι H σ (Grow.refl _ _) hS hE⟩
  | cons d ds => cases e
theorem dgs_cons {es : List Expr} {T : Tg} {U : Tgs} (h1 : DG X e T) (h2 : DGs X es U) (hs : (assignEach (e :: es) X.env).map (·.2) = assign e X.env :: (assignEach es X.env).map (·.2) := by rfl) : DGs X (e :: es) (tCons T U) :=
  PGs.imp (pgs_cons h1 h2 hs) fun v σ H Q ⟨ι, ρ, S, ds, ρ', S', hE, hS, r, e, h⟩ => by
    cases ds with
    | nil => cases e
    | cons d ds =>
      rw [RepL] at r
      obtain ⟨v, vs, rfl, rv, rl⟩ := r
      have e : (T d ρ S).bind (fun q => U ds q.1 q.2) = some (ρ', S') := e
      cases hT : T d ρ S with
      | none => rw [hT] at e; cases e
      | some q =>
        obtain ⟨ρ1, S1⟩ := q
        rw [hT] at e
        refine ⟨v, vs, rfl, ι, ρ, S, d, ρ1, S1, hE, hS, rv, hT, fun ι1 H1 σ1 G1 s1 e1 => ?_⟩
        exact ⟨ι1, ρ1, S1, ds, ρ', S', e1, s1, RepL.grow G1 _ _ rl, e, fun ι2 H2 σ2 G2 => h ι2 H2 σ2 (G1.trans G2)⟩
def tTup (n : Nat) (U : Tgs) : Tg := fun d ρ S => match d with
  | .tup ds => if ds.length = n then U ds ρ S else none
  | _ => none
theorem dg_tup {es : List Expr} {k : Nat} {U : Tgs} {n : Nat} (hc : X.calm = true) (h : DGs X es U) (hn : (assignEach es X.env).length = n := by rfl) (hst : (assignEach es X.env).findIdx? (·.1) = none := by rfl) : DG X (.Tuple es k pos) (tTup n U) :=
  PG.imp (pg_tup hc h hn hst) fun v σ H Q ⟨ι, ρ, S, d, ρ', S', hE, hS, r, e, h⟩ => by
    cases d with
    | tup ds =>
      have e : (if ds.length = n then U ds ρ S else none) = some (ρ', S') := e
      by_cases hl : ds.length = n
      · rw [if_pos hl] at e
        obtain ⟨p, vs, rfl, q, rl⟩ := tup_at r
        exact ⟨p, vs, rfl, q, by rw [← RepL.length _ _ rl]; exact hl, ι, ρ, S, ds, ρ', S', hE, hS, rl, e, h⟩
      · rw [if_neg hl] at e; cases e
    | _ => cases e
/-- o[i] = v -/
def dSet (o i v : D) (S : Sto) : Option Sto := match o, i with
  | .loc n, .int k => (getL S n).bind fun ds => (ixN ds.length k).map fun j => S.set n (.lst (ds.set j v))
  | _, _ => none
def tSub (f g : Ev → Sto → R D) : Tg := fun v ρ S => match f ρ S with
  | .ok o S1 => (match g ρ S1 with
    | .ok i S2 => (dSet o i v S2).map fun S3 => (ρ, S3)
    | _ => none)
  | _ => none
theorem dSet_some {o i v : D} {S S' : Sto} (h : dSet o i v S = some S') : ∃ n k ds j, o = .loc n ∧ i = .int k ∧ getL S n = some ds ∧ ixN ds.length k = some j ∧ S' = S.set n (.lst (ds.set j v)) := by
  unfold dSet at h
  split at h
  · rename_i n k
    cases hL : getL S n with
    | none => simp [hL] at h
    | some ds =>
      cases hj : ixN ds.length k with
      | none => simp [hL, hj] at h
      | some j =>
        simp [hL, hj] at h
        exact ⟨n, k, ds, j, rfl, rfl, hL, hj, h.symm⟩
  · cases h
theorem dg_sub {o i : Expr} {f g : Ev → Sto → R D} (ho : DE X W o f) (hi : DE X W i g) (ha : ∀ v, assign (.Subscript o i pos) X.env v = (do
      let ov ← holding [v] (eval o X.env)
      let iv ← holding [v, ov] (eval i X.env)
      standAt pos
      holding [v, ov, iv] (setItem ov iv v)
      release [v, ov, iv] []) := by intro _; rfl) : DG X (.Subscript o i pos) (tSub f g) :=
  PG.imp (pg_sub ho hi set_list ha) fun v σ H Q ⟨ι, ρ, S, d, ρ', S', hE, hS, r, e, h⟩ => by
    unfold tSub at e
    cases hf : f ρ S with
    | ok o S1 =>
      simp only [hf] at e
      refine ⟨ι, ρ, S, hE, hS, ?_⟩
      rw [hf]
      intro ι1 H1 G1 s1 x rx
      cases hg : g ρ S1 with
      | ok i S2 =>
        simp only [hg] at e
        refine ⟨ι1, ρ, S1, hE.grow G1, s1, ?_⟩
        rw [hg]
        intro ι2 H2 G2 s2 y ry
        have rx := RepV.grow G2 _ _ rx
        have rv := RepV.grow G2 _ _ (RepV.grow G1 _ _ r)
        have e : (dSet o i d S2).map (fun S3 => (ρ, S3)) = some (ρ', S') := e
        cases hd : dSet o i d S2 with
        | none => rw [hd] at e; cases e
        | some S3 =>
          rw [hd] at e
          cases e
          obtain ⟨n, k, ds, j, rfl, rfl, hL, hj, rfl⟩ := dSet_some hd
          rw [RepV] at rx
          obtain ⟨a, ea, rfl⟩ := rx
          obtain ⟨vs, h1, h3⟩ := s2.ob _ _ _ ea (getL_some hL)
          refine ⟨a, vs, k, j, rfl, int_at ry, h1, by rw [← RepL.length _ _ h3]; exact hj, ?_⟩
          have G3 : Grow ι2 H2 ι2 (upd H2 a (.lst (vs.set j v))) := Grow.put (List.mem_of_getElem? ea)
          exact h ι2 _ σ ((G1.trans G2).trans G3) (s2.put ea ⟨_, upd_same, RepL.set (RepV.grow G3 _ _ rv) _ _ _ (RepL.grow G3 _ _ h3)⟩) (((hE.grow G1).grow G2).grow G3)
      | er e1 S2 => simp only [hg] at e; cases e
      | stuck => simp only [hg] at e; cases e
    | er e1 S1 => simp only [hf] at e; cases e
    | stuck => simp only [hf] at e; cases e
def sAsg (f : Ev → Sto → R D) (T : Tg) : Ev → Sto → SR := fun ρ S => (f ρ S).toS ρ fun d S1 => match T d ρ S1 with
  | some (ρ', S') => .nx ρ' S'
  | none => .stuck
theorem asg_read {K : PySem.W.Frag} {f : Ev → Sto → R D} {T : Tg} : ∀ E σ H, rdS K W (sAsg f T) E σ H → tAsg (rdE K W f) (rdG K T) E σ H := fun E σ H ⟨ι, ρ, S, hE, hS, h⟩ => by
  refine ⟨ι, ρ, S, hE, hS, (PostS.bind h hE).mono fun d S1 ι1 H1 G1 s1 h1 v rv => ?_⟩
  cases hT : T d ρ S1 with
  | none => simp only [hT] at h1; exact h1.elim
  | some q =>
    obtain ⟨ρ1, S2⟩ := q
    simp only [hT] at h1
    exact ⟨ι1, ρ, S1, d, ρ1, S2, hE.grow G1, s1, rv, hT, fun ι2 H2 σ2 G2 s2 e2 => h1 ι2 H2 σ2 G2 s2 e2⟩
theorem ds_asg {tg : Expr} {f : Ev → Sto → R D} {T : Tg} (he : DE X W e f) (hg : DG X tg T) (hs : swapsWithSole [tg] e pos.line X.env = pure false := by rfl) (hw : swappedStores [tg] e X.env = pure none := by rfl)
    (h1 : (assignEach [tg] X.env).map (·.2) = [assign tg X.env] := by rfl) : DS X W (.Assign [tg] e pos) (sAsg f T) := PS.imp (ps_asg he hg hs hw h1) asg_read
/-- name = e -/
def sSet (i : Nat) (f : Ev → Sto → R D) : Ev → Sto → SR := fun ρ S => (f ρ S).toS ρ fun d S1 => .nx (ρ.set i (some d)) S1
theorem set_read {K : PySem.W.Frag} {f : Ev → Sto → R D} {i : Nat} : ∀ E σ H, rdS K W (sSet i f) E σ H → tAsg (rdE K W f) (gName i) E σ H := fun E σ H ⟨ι, ρ, S, hE, hS, h⟩ => by
  refine ⟨ι, ρ, S, hE, hS, (PostS.bind h hE).mono fun d S1 ι1 H1 G1 s1 h1 v rv => ?_⟩
  exact h1 ι1 H1 _ (Grow.refl _ _) s1 ((hE.grow G1).set rv i)
theorem ds_set (i : Nat) {x : Str} {pos' : Pos} {f : Ev → Sto → R D} (hN : X.N.Nodup) (he : DE X W e f) (hi : X.N[i]? = some x := by rfl) (hx : Loc X.env.scope x := by first | exact .inl rfl | exact .inr rfl)
    (hs : swapsWith e (some (.Name x pos')) pos.line X.env = pure false := by rfl) (hf : X.fn x = true ∨ X.env.scope.names.lookup x = some .local := by first | exact .inl rfl | exact .inr rfl | assumption) :
    DS X W (.Assign [.Name x pos'] e pos) (sSet i f) := PS.imp (ps_set hN hi hx he hs hf) set_read
/-- name op= e -/
def sAug (i : Nat) (o : D → D → Sto → R D) (f : Ev → Sto → R D) : Ev → Sto → SR := fun ρ S => match ρ[i]? with
  | some (some x) => ((f ρ S).bind fun d S1 => o x d S1).toS ρ fun z S2 => .nx (ρ.set i (some z)) S2
  | _ => .stuck
/-- a, b = x, y and a, b, c = x, y, z with plain locals -/
def sPar2 (i j : Nat) (g : Ev → Sto → R (List D)) : Ev → Sto → SR := fun ρ S => (g ρ S).toS ρ fun ds S1 => match ds with
  | [a, b] => .nx ((ρ.set i (some a)).set j (some b)) S1
  | _ => .stuck
theorem ds_par2 (i j : Nat) {x y : Str} {a b : Expr} {g : Ev → Sto → R (List D)} {px py pt : Pos} {kt k2 pt2} (hc : X.calm = true) (hN : X.N.Nodup) (ha : DA X W [a, b] g) (hij : i ≠ j := by decide) (hi : X.N[i]? = some x := by rfl) (hj : X.N[j]? = some y := by rfl)
    (hx : X.env.scope.names.lookup x = some .local := by rfl) (hy : X.env.scope.names.lookup y = some .local := by rfl)
    (hw : swappedStores [.Tuple [.Name x px, .Name y py] kt pt] (.Tuple [a, b] k2 pt2) X.env = pure (some [x, y]) := by rfl)
    (hs : swapsWithSole [.Tuple [.Name x px, .Name y py] kt pt] (.Tuple [a, b] k2 pt2) pos.line X.env = pure false := by rfl) :
    DS X W (.Assign [.Tuple [.Name x px, .Name y py] kt pt] (.Tuple [a, b] k2 pt2) pos) (sPar2 i j g) := by
  refine PS.imp (ps_par hc hN hi hj hij hx hy ha hw hs) fun E σ H ⟨ι, ρ, S, hE, hS, h⟩ => ⟨ι, ρ, S, hE, hS, (PostS.bind h hE).mono fun ds S1 ι1 H1 G1 s1 h1 vs rs => ?_⟩
  split at h1
  · rw [RepL] at rs
    obtain ⟨v, r, rfl, rv, rs⟩ := rs
    rw [RepL] at rs
    obtain ⟨u, r, rfl, ru, rs⟩ := rs
    rw [RepL] at rs
    subst rs
    exact ⟨v, u, rfl, h1 ι1 H1 _ (Grow.refl _ _) s1 (((hE.grow G1).set rv i).set ru j)⟩
  · exact h1.elim
end
end DL
namespace DL
open PySem PySem.Spec L2
open PyProof.Rows hiding St
abbrev Src := List D × (Sto → Prop)
def ItOk (K : PySem.W.Frag) (J : It) (ι : List Addr) (H : Hp) (q : Src) : Prop := ∀ ι1 H1 S1, Grow ι H ι1 H1 → Sim K ι1 H1 S1 → q.2 S1 →
  (∀ i, q.1.length ≤ i → J.stop i H1) ∧ ∀ i d, q.1[i]? = some d → J.go i H1 ∧ ∀ x H2, J.yld i H1 x H2 → Grow ι1 H1 ι1 H2 ∧ Sim K ι1 H2 S1 ∧ RepV K ι1 H2 d x
def rdI (K : PySem.W.Frag) (W : WX) (f : Ev → Sto → R Src) : TI := fun σ H Rr => ∃ ι ρ S, RepE K ι H σ ρ ∧ Sim K ι H S ∧ Post K W σ ι H (f ρ S) fun q _ ι' H' => ∀ J, ItOk K J ι' H' q → Rr J H'
abbrev DI (X : Cx) (W : WX) (tg iter : Expr) (f : Ev → Sto → R Src) : Prop := PI X tg iter (rdI X.K W f)
theorem PI.imp {X : Cx} {tg e : Expr} {t u : TI} (h : PI X tg e t) (i : ∀ σ H Q, u σ H Q → t σ H Q) : PI X tg e u := ⟨fun pins s σ H Q I q => h.run pins s σ H Q I (i σ H Q q)⟩
theorem PI.or {X : Cx} {tg e : Expr} {t u : TI} (h : PI X tg e t) (h' : PI X tg e u) : PI X tg e (fun σ H Q => t σ H Q ∨ u σ H Q) := ⟨fun pins s σ H Q I q => by
  rcases q with q | q
  · exact h.run pins s σ H Q I q
  · exact h'.run pins s σ H Q I q⟩
def yes : Sto → Prop := fun _ => True
def srcOf (d : D) (S : Sto) : R Src := match d with
  | .tup ds => .ok (ds, yes) S
  | .fl ds => .ok (ds, yes) S
  | .kl ds => .ok (ds, yes) S
  | .loc n => (match getQ S n with
    | some ds => .ok (ds, fun S => getQ S n = some ds) S
    | none => .stuck)
  | _ => .stuck
def iSeq (f : Ev → Sto → R D) : Ev → Sto → R Src := fun ρ S => (f ρ S).bind srcOf
theorem itl_ok {K : PySem.W.Frag} {ι : List Addr} {H : Hp} {ds : List D} {a : Addr} {g : Sto → Prop} (h : ∀ ι1 H1 S1, Grow ι H ι1 H1 → Sim K ι1 H1 S1 → g S1 → ∃ vs, SqL K H1 a vs ∧ RepL K ι1 H1 ds vs) : ItOk K (Itl K a) ι H (ds, g) := fun ι1 H1 S1 G s gs => by
  obtain ⟨vs, q, r⟩ := h ι1 H1 S1 G s gs
  refine ⟨fun i hi => ⟨vs, q, by rw [← RepL.length _ _ r]; exact hi⟩, fun i d e => ?_⟩
  obtain ⟨v, hv, rv⟩ := RepL.get _ _ r i d e
  refine ⟨⟨vs, v, q, hv⟩, fun x H2 y => ?_⟩
  obtain ⟨rfl, y⟩ := y
  have := y vs q
  rw [hv] at this; cases this
  exact ⟨Grow.refl _ _, s, rv⟩
theorem itt_ok {K : PySem.W.Frag} {ι : List Addr} {H : Hp} {ds : List D} {a : Addr} {g : Sto → Prop} (h : ∀ ι1 H1 S1, Grow ι H ι1 H1 → Sim K ι1 H1 S1 → g S1 → ∃ vs, SqT K H1 a vs ∧ RepL K ι1 H1 ds vs) : ItOk K (Itt K a) ι H (ds, g) := fun ι1 H1 S1 G s gs => by
  obtain ⟨vs, q, r⟩ := h ι1 H1 S1 G s gs
  refine ⟨fun i hi => ⟨vs, q, by rw [← RepL.length _ _ r]; exact hi⟩, fun i d e => ?_⟩
  obtain ⟨v, hv, rv⟩ := RepL.get _ _ r i d e
  refine ⟨⟨vs, v, q, hv⟩, fun x H2 y => ?_⟩
  obtain ⟨rfl, y⟩ := y
  have := y vs q
  rw [hv] at this; cases this
  exact ⟨Grow.refl _ _, s, rv⟩
theorem loc_at {K : PySem.W.Frag} {ι : List Addr} {H : Hp} {S : Sto} {n : Nat} {a : Addr} {ds : List D} (s : Sim K ι H S) (ea : ι[n]? = some a) (e : getQ S n = some ds) : ∃ vs, SqL K H a vs ∧ RepL K ι H ds vs := by
  unfold getQ at e
  (try unfold ifp at e); split at e
  · rename_i q; cases e
    obtain ⟨vs, h1, h2⟩ := s.ob _ _ _ ea q
    exact ⟨vs, SqL.of h1, h2⟩
  · rename_i q; cases e
    obtain ⟨o, vs, h1, h2⟩ := s.ob _ _ _ ea q
    exact ⟨vs, .inl (.inr ⟨o, h1⟩), h2⟩
  · cases e
/-- what a list or tuple that is walked gives, whatever turns behind it -/
theorem src_stands {K : PySem.W.Frag} {ι : List Addr} {H : Hp} {S : Sto} {d : D} {q : Src} {S' : Sto} {v : V} (e : srcOf d S = .ok q S') (s : Sim K ι H S) (r : RepV K ι H d v) : S' = S ∧ ∃ a, v = .ref a ∧
    ((∀ ι1 H1 S1, Grow ι H ι1 H1 → Sim K ι1 H1 S1 → q.2 S1 → ∃ vs, SqT K H1 a vs ∧ RepL K ι1 H1 q.1 vs) ∨ (∀ ι1 H1 S1, Grow ι H ι1 H1 → Sim K ι1 H1 S1 → q.2 S1 → ∃ vs, SqL K H1 a vs ∧ RepL K ι1 H1 q.1 vs)) ∧ q.2 S := by
  cases d with
  | tup ds =>
    cases e
    rw [RepV] at r
    obtain ⟨a, vs, rfl, t, rl⟩ := r
    exact ⟨rfl, a, rfl, .inl fun ι1 H1 S1 G s1 _ => ⟨vs, (t.grow G).sq, RepL.grow G _ _ rl⟩, True.intro⟩
  | fl ds =>
    cases e
    rw [RepV] at r
    obtain ⟨a, vs, rfl, t, rl⟩ := r
    exact ⟨rfl, a, rfl, .inr fun ι1 H1 S1 G s1 _ => ⟨vs, (t.grow G).sq, RepL.grow G _ _ rl⟩, True.intro⟩
  | kl ds =>
    cases e
    rw [RepV] at r
    obtain ⟨a, vs, rfl, t, rl⟩ := r
    exact ⟨rfl, a, rfl, .inr fun ι1 H1 S1 G s1 _ => ⟨vs, (t.grow G).sq, RepL.grow G _ _ rl⟩, True.intro⟩
  | loc n =>
    have e : (match getQ S n with
      | some ds => R.ok (ds, fun S => getQ S n = some ds) S
      | none => .stuck) = .ok q S' := e
    cases hq : getQ S n with
    | none => rw [hq] at e; cases e
    | some ds =>
      rw [hq] at e
      cases e
      rw [RepV] at r
      obtain ⟨a, ea, rfl⟩ := r
      refine ⟨rfl, a, rfl, .inr fun ι1 H1 S1 G s1 g1 => ?_, hq⟩
      exact loc_at s1 (getElem?_pre G.pre ea) g1
  | _ => cases e
section
variable {X : Cx} {W : WX} {pos : Pos} {e tg : Expr}
theorem di_seq {f : Ev → Sto → R D} (h : DE X W e f) : DI X W tg e (iSeq f) := by
  refine PI.imp (PI.or (pi_tup h) (pi_list h)) fun σ H Rr ⟨ι, ρ, S, hE, hS, q⟩ => ?_
  unfold iSeq at q
  cases hf : f ρ S with
  | stuck => rw [hf] at q; exact q.elim
  | er x S1 =>
    rw [hf] at q
    refine .inl ⟨ι, ρ, S, hE, hS, ?_⟩
    rw [hf]; exact q
  | ok d S1 =>
    rw [hf] at q
    replace q : Post X.K W σ ι H (srcOf d S1) fun q _ ι' H' => ∀ J, ItOk X.K J ι' H' q → Rr J H' := q
    cases hs : srcOf d S1 with
    | stuck => rw [hs] at q; exact q.elim
    | er x S2 => exfalso; unfold srcOf at hs; split at hs <;> first | cases hs | (split at hs <;> cases hs)
    | ok c S2 =>
      rw [hs] at q
      have kind : (∃ ds, d = .tup ds) ∨ (∃ ds, d = .fl ds ∨ d = .kl ds) ∨ ∃ n, d = .loc n := by
        cases d with
        | tup ds => exact .inl ⟨ds, rfl⟩
        | fl ds => exact .inr (.inl ⟨ds, .inl rfl⟩)
        | kl ds => exact .inr (.inl ⟨ds, .inr rfl⟩)
        | loc n => exact .inr (.inr ⟨n, rfl⟩)
        | _ => cases hs
      rcases kind with ⟨ds, rfl⟩ | kind
      · refine .inl ⟨ι, ρ, S, hE, hS, ?_⟩
        rw [hf]
        intro ι1 H1 G1 s1 v rv
        obtain ⟨rfl, a, rfl, st, g0⟩ := src_stands hs s1 rv
        rw [RepV] at rv
        obtain ⟨b, vs, eb, t, rl⟩ := rv
        cases eb
        cases hs
        exact ⟨a, rfl, ⟨vs, t.sq⟩, q ι1 H1 G1 s1 _ (itt_ok fun ι2 H2 S2 G s2 _ => ⟨vs, (t.grow G).sq, RepL.grow G _ _ rl⟩)⟩
      · refine .inr ⟨ι, ρ, S, hE, hS, ?_⟩
        rw [hf]
        intro ι1 H1 G1 s1 v rv
        rcases kind with ⟨ds, rfl | rfl⟩ | ⟨n, rfl⟩
        · rw [RepV] at rv
          obtain ⟨b, vs, rfl, t, rl⟩ := rv
          cases hs
          exact ⟨b, rfl, ⟨vs, t.sq⟩, q ι1 H1 G1 s1 _ (itl_ok fun ι2 H2 S2 G s2 _ => ⟨vs, (t.grow G).sq, RepL.grow G _ _ rl⟩)⟩
        · rw [RepV] at rv
          obtain ⟨b, vs, rfl, t, rl⟩ := rv
          cases hs
          exact ⟨b, rfl, ⟨vs, t.sq⟩, q ι1 H1 G1 s1 _ (itl_ok fun ι2 H2 S2 G s2 _ => ⟨vs, (t.grow G).sq, RepL.grow G _ _ rl⟩)⟩
        · rw [RepV] at rv
          obtain ⟨b, eb, rfl⟩ := rv
          have hs' : (match getQ S1 n with
            | some ds => R.ok (ds, fun S => getQ S n = some ds) S1
            | none => .stuck) = .ok c S2 := hs
          cases hq : getQ S1 n with
          | none => rw [hq] at hs'; cases hs'
          | some ds =>
            rw [hq] at hs'
            cases hs'
            obtain ⟨vs, z, _⟩ := loc_at s1 eb hq
            exact ⟨b, rfl, ⟨vs, z⟩, q ι1 H1 G1 s1 _ (itl_ok fun ι2 H2 S2 G s2 g2 => loc_at s2 (getElem?_pre G.pre eb) g2)⟩
def rangeD (lo : Int) (n : Nat) : List D := (List.range n).map fun k => .int (lo + (k : Nat))
theorem rangeD_get {lo : Int} {n i : Nat} {d : D} (h : (rangeD lo n)[i]? = some d) : i < n ∧ d = .int (lo + (i : Nat)) := by
  unfold rangeD at h
  rw [List.getElem?_map] at h
  cases e : (List.range n)[i]? with
  | none => rw [e] at h; cases h
  | some k =>
    rw [e] at h; cases h
    have := List.getElem?_eq_some_iff.mp e
    obtain ⟨h1, h2⟩ := this
    simp at h1 h2
    subst h2
    exact ⟨h1, rfl⟩
theorem rangeD_len (lo : Int) (n : Nat) : (rangeD lo n).length = n := by simp [rangeD]
theorem itr_ok {K : PySem.W.Frag} {ι : List Addr} {H : Hp} {lo : Int} {n : Nat} {g : Sto → Prop} : ItOk K (Itr lo n) ι H (rangeD lo n, g) := fun ι1 H1 S1 G s gs => by
  refine ⟨fun i hi => by rw [rangeD_len] at hi; exact hi, fun i d e => ?_⟩
  obtain ⟨hi, rfl⟩ := rangeD_get e
  refine ⟨hi, fun x H2 y => ?_⟩
  obtain ⟨rfl, rfl⟩ := y
  exact ⟨Grow.refl _ _, s, int_rep⟩
noncomputable def iRange1 (g : Ev → Sto → R (List D)) : Ev → Sto → R Src := fun ρ S => (g ρ S).bind fun ds S1 => match ds with
  | [.int j] => ifp (-(2 ^ 62) ≤ j ∧ j < 2 ^ 62) (.ok (rangeD 0 j.toNat, yes) S1) .stuck
  | _ => .stuck
noncomputable def iRange2 (g : Ev → Sto → R (List D)) : Ev → Sto → R Src := fun ρ S => (g ρ S).bind fun ds S1 => match ds with
  | [.int i, .int j] => ifp (-(2 ^ 62) ≤ i ∧ i < 2 ^ 62 ∧ -(2 ^ 62) ≤ j ∧ j < 2 ^ 62) (.ok (rangeD i (j - i).toNat, yes) S1) .stuck
  | _ => .stuck
theorem RepL.one_inv {K : PySem.W.Frag} {ι : List Addr} {H : Hp} {d : D} {vs : List V} (h : RepL K ι H [d] vs) : ∃ v, vs = [v] ∧ RepV K ι H d v := by
  rw [RepL] at h
  obtain ⟨v, r, rfl, rv, rs⟩ := h
  rw [RepL] at rs
  subst rs
  exact ⟨v, rfl, rv⟩
theorem RepL.two_inv {K : PySem.W.Frag} {ι : List Addr} {H : Hp} {d e : D} {vs : List V} (h : RepL K ι H [d, e] vs) : ∃ v u, vs = [v, u] ∧ RepV K ι H d v ∧ RepV K ι H e u := by
  rw [RepL] at h
  obtain ⟨v, r, rfl, rv, rs⟩ := h
  obtain ⟨u, rfl, ru⟩ := RepL.one_inv rs
  exact ⟨v, u, rfl, rv, ru⟩
theorem di_range1 {a : Expr} {g : Ev → Sto → R (List D)} {p pos : Pos} (hg : Gl X "range") (hm : X.mg "range" = none) (ha : DA X W [a] g) (hs : starEach [a] X.env = [(false, eval a X.env)] := by rfl) : DI X W tg (.Call (.Name "range" p) [a] [] pos) (iRange1 g) := by
  refine PI.imp (pi_range1 hg hm ha hs) fun σ H Rr ⟨ι, ρ, S, hE, hS, q⟩ => ⟨ι, ρ, S, hE, hS, (Post.bind q).mono fun ds S1 ι1 H1 G1 s1 h1 vs rs => ?_⟩
  (try unfold ifp at h1); split at h1
  · obtain ⟨v, rfl, rv⟩ := RepL.one_inv rs
    (try unfold ifp at h1); split at h1
    · rename_i hj
      exact ⟨_, by rw [int_at rv], hj.1, hj.2, h1.here s1 _ itr_ok⟩
    · exact h1.elim
  · exact h1.elim
theorem di_range2 {a b : Expr} {g : Ev → Sto → R (List D)} {p pos : Pos} (hg : Gl X "range") (hm : X.mg "range" = none) (ha : DA X W [a, b] g) (hs : starEach [a, b] X.env = [(false, eval a X.env), (false, eval b X.env)] := by rfl) (hs2 : starEach [b] X.env = [(false, eval b X.env)] := by rfl) : DI X W tg (.Call (.Name "range" p) [a, b] [] pos) (iRange2 g) := by
  refine PI.imp (pi_range2 hg hm ha hs hs2) fun σ H Rr ⟨ι, ρ, S, hE, hS, q⟩ => ⟨ι, ρ, S, hE, hS, (Post.bind q).mono fun ds S1 ι1 H1 G1 s1 h1 vs rs => ?_⟩
  (try unfold ifp at h1); split at h1
  · obtain ⟨v, u, rfl, rv, ru⟩ := RepL.two_inv rs
    (try unfold ifp at h1); split at h1
    · rename_i hj
      exact ⟨_, _, by rw [int_at rv, int_at ru], hj, h1.here s1 _ itr_ok⟩
    · exact h1.elim
  · exact h1.elim
open Classical in
noncomputable def forD (g : Sto → Prop) (T : Tg) (B Z : Ev → Sto → SR) : List D → Ev → Sto → SR
  | [], ρ, S => if g S then Z ρ S else .stuck
  | d :: ds, ρ, S => if g S then (match T d ρ S with
    | none => .stuck
    | some (ρ1, S1) => match B ρ1 S1 with
      | .nx ρ2 S2 => forD g T B Z ds ρ2 S2
      | .ct ρ2 S2 => forD g T B Z ds ρ2 S2
      | .bk ρ2 S2 => .nx ρ2 S2
      | .rt d S2 => .rt d S2
      | .er e ρ2 S2 => .er e ρ2 S2
      | .stuck => .stuck) else .stuck
noncomputable def sFor (f : Ev → Sto → R Src) (T : Tg) (B Z : Ev → Sto → SR) : Ev → Sto → SR := fun ρ S => (f ρ S).toS ρ fun q S1 => forD q.2 T B Z q.1 ρ S1
theorem for_read {K : PySem.W.Frag} {f : Ev → Sto → R Src} {T : Tg} {B Z : Ev → Sto → SR} : ∀ E σ H, rdS K W (sFor f T B Z) E σ H → tForE (rdI K W f) (rdG K T) (rdS K W B) (rdS K W Z) E σ H := fun E σ H ⟨ι, ρ, S, hE, hS, h⟩ => by
  refine ⟨ι, ρ, S, hE, hS, (PostS.bind h hE).mono fun q S1 ι1 H1 G1 s1 h1 J hJ => ?_⟩
  obtain ⟨ds, g⟩ := q
  refine ⟨fun i m σ' H' => m = ds.length - i ∧ i ≤ ds.length ∧ ∃ ι' ρ' S', Grow ι1 H1 ι' H' ∧ RepE K ι' H' σ' ρ' ∧ Sim K ι' H' S' ∧ PostS K W E ι' H' (forD g T B Z (ds.drop i) ρ' S'), ⟨_, rfl, Nat.zero_le _, ι1, ρ, S1, Grow.refl _ _, hE.grow G1, s1, h1⟩, ?_⟩
  rintro i m σ' H' ⟨rfl, hi, ι', ρ', S', G', e', s', h'⟩
  by_cases hlt : i < ds.length
  · rw [List.drop_eq_getElem_cons hlt] at h'
    unfold forD at h'
    (try unfold ifp at h'); split at h'
    · rename_i hg
      obtain ⟨-, item⟩ := hJ ι' H' S' G' s' hg
      obtain ⟨go, yl⟩ := item i ds[i] (List.getElem?_eq_some_iff.mpr ⟨hlt, rfl⟩)
      refine .inr ⟨go, fun σ2 H2 => ∃ ι2 ρ2 S2, Grow ι1 H1 ι2 H2 ∧ RepE K ι2 H2 σ2 ρ2 ∧ Sim K ι2 H2 S2 ∧ PostS K W E ι2 H2 (forD g T B Z (ds.drop (i + 1)) ρ2 S2), fun σ2 H2 hh => ⟨ds.length - (i + 1), by omega, rfl, hlt, hh⟩, fun x H2 y => ?_⟩
      obtain ⟨G2, s2, rx⟩ := yl x H2 y
      cases hT : T ds[i] ρ' S' with
      | none => simp only [hT] at h'; exact h'.elim
      | some q =>
        obtain ⟨ρ1, S2⟩ := q
        simp only [hT] at h'
        refine ⟨ι', ρ', S', ds[i], ρ1, S2, e'.grow G2, s2, rx, hT, fun ι3 H3 σ3 G3 s3 e3 => ⟨ι3, ρ1, S2, e3, s3, ?_⟩⟩
        have G13 := (G'.trans G2).trans G3
        have h3 := PostS.grow h' (G2.trans G3)
        cases hB : B ρ1 S2 with
        | nx ρ2 S3 => simp only [hB] at h3; exact fun ι4 H4 σ4 G4 s4 e4 => ⟨ι4, ρ2, S3, G13.trans G4, e4, s4, PostS.grow h3 G4⟩
        | ct ρ2 S3 => simp only [hB] at h3; exact fun ι4 H4 σ4 G4 s4 e4 => ⟨ι4, ρ2, S3, G13.trans G4, e4, s4, PostS.grow h3 G4⟩
        | bk ρ2 S3 => simp only [hB] at h3; exact h3
        | rt d S3 => simp only [hB] at h3; exact h3
        | er x ρ2 S3 => simp only [hB] at h3; exact h3
        | stuck => simp only [hB] at h3; exact h3
    · exact h'.elim
  · have e : i = ds.length := by omega
    subst e
    rw [List.drop_length] at h'
    unfold forD at h'
    (try unfold ifp at h'); split at h'
    · rename_i hg
      obtain ⟨stop, -⟩ := hJ ι' H' S' G' s' hg
      exact .inl ⟨stop _ (Nat.le_refl _), ι', ρ', S', e', s', h'⟩
    · exact h'.elim
theorem ds_for {iter : Expr} {body orelse : List Stmt} {f : Ev → Sto → R Src} {T : Tg} {B Z : Ev → Sto → SR} (hp : PassesOwn (model X.prog X.w) X.A X.env X.xe) (hc : X.calm = true) (hi : DI X W tg iter f) (hg : DG X tg T) (hb : DSs X W body B) (ho : DSs X W orelse Z)
    (hs : ∀ x, foldedSetIterable iter X.env x = pure x := by intro _; rfl) : DS X W (.For tg iter body orelse pos) (sFor f T B Z) := PS.imp (ps_forE hp hc hi hg hb ho hs) for_read
def whileD (c : Ev → Sto → R Bool) (B : Ev → Sto → SR) : Nat → Ev → Sto → SR
  | 0, _, _ => .stuck
  | n + 1, ρ, S => (c ρ S).toS ρ fun b S1 => if b = true then (match B ρ S1 with
      | .nx ρ2 S2 => whileD c B n ρ2 S2
      | .ct ρ2 S2 => whileD c B n ρ2 S2
      | .bk ρ2 S2 => .nx ρ2 S2
      | .rt d S2 => .rt d S2
      | .er e ρ2 S2 => .er e ρ2 S2
      | .stuck => .stuck) else .nx ρ S1
theorem ds_while (n : Nat) {c : Expr} {body : List Stmt} {t : Ev → Sto → R Bool} {B : Ev → Sto → SR} (hp : PassesOwn (model X.prog X.w) X.A X.env X.xe) (hc : DT X W c t) (hb : DSs X W body B) : DS X W (.While c body [] pos) (whileD t B n) := by
  refine PS.imp (ps_while hp hc hb) fun E σ H ⟨ι, ρ, S, hE, hS, h⟩ => ?_
  refine ⟨fun m σ' H' => ∃ ι' ρ' S', RepE X.K ι' H' σ' ρ' ∧ Sim X.K ι' H' S' ∧ PostS X.K W E ι' H' (whileD t B m ρ' S'), ⟨n, ι, ρ, S, hE, hS, h⟩, ?_⟩
  rintro m σ' H' ⟨ι', ρ', S', e', s', h'⟩
  cases m with
  | zero => exact h'.elim
  | succ m =>
    refine ⟨ι', ρ', S', e', s', (PostS.bind h' e').mono fun b S1 ι1 H1 G1 s1 h1 => ?_⟩
    cases b with
    | false => rw [if_neg (by decide)] at h1 ⊢; exact h1 ι1 H1 σ' (Grow.refl _ _) s1 (e'.grow G1)
    | true =>
      rw [if_pos rfl] at h1 ⊢
      refine ⟨fun σ2 H2 => ∃ ι2 ρ2 S2, RepE X.K ι2 H2 σ2 ρ2 ∧ Sim X.K ι2 H2 S2 ∧ PostS X.K W E ι2 H2 (whileD t B m ρ2 S2), fun σ2 H2 hh => ⟨m, Nat.lt_succ_self _, hh⟩, ι1, ρ', S1, e'.grow G1, s1, ?_⟩
      cases hB : B ρ' S1 with
      | nx ρ2 S3 => simp only [hB] at h1; exact fun ι4 H4 σ4 G4 s4 e4 => ⟨ι4, ρ2, S3, e4, s4, PostS.grow h1 G4⟩
      | ct ρ2 S3 => simp only [hB] at h1; exact fun ι4 H4 σ4 G4 s4 e4 => ⟨ι4, ρ2, S3, e4, s4, PostS.grow h1 G4⟩
      | bk ρ2 S3 => simp only [hB] at h1; exact h1
      | rt d S3 => simp only [hB] at h1; exact h1
      | er x ρ2 S3 => simp only [hB] at h1; exact h1
      | stuck => simp only [hB] at h1; exact h1
end
end DL
namespace DL
open PySem PySem.Spec L2
open PyProof.Rows hiding St
mutual
def low (n : Nat) : D → Bool
  | .loc m => decide (m < n)
  | .tup ds => lowL n ds
  | .fl ds => lowL n ds
  | .kl ds => lowL n ds
  | .fd kvs => lowK n kvs
  | .exc _ fs => lowF n fs
  | .non => true
  | .bl _ => true
  | .int _ => true
  | .str _ => true
  | .ty _ => true
  | .fn _ => true
def lowL (n : Nat) : List D → Bool
  | [] => true
  | d :: ds => low n d && lowL n ds
def lowK (n : Nat) : List (Key × D) → Bool
  | [] => true
  | (_, d) :: ds => low n d && lowK n ds
def lowF (n : Nat) : List (Str × D) → Bool
  | [] => true
  | (_, d) :: ds => low n d && lowF n ds
end
def lowKT (n : Nat) : List (List Key × D) → Bool
  | [] => true
  | (_, d) :: ds => low n d && lowKT n ds
def lowO (n : Nat) : Ob → Bool
  | .lst ds => lowL n ds
  | .ins _ fs => lowF n fs
  | .dct kvs => lowK n kvs
  | .dtt kvs => lowKT n kvs
  | .scr ds => lowL n ds
  | .tpl ds => lowL n ds
section
variable {K : PySem.W.Frag} {ι : List Addr} {H : Hp}
theorem take_out {a : Addr} {n : Nat} (h : a ∉ ι) : a ∉ ι.take n := fun z => h (List.mem_of_mem_take z)
mutual
theorem RepV.low (n : Nat) : ∀ (d : D) (v : V), RepV K ι H d v → DL.low n d = true → RepV K (ι.take n) H d v
  | .non, _, h, _ => by rw [RepV] at h ⊢; exact h
  | .bl _, _, h, _ => by rw [RepV] at h ⊢; exact h
  | .int _, _, h, _ => by rw [RepV] at h ⊢; exact h
  | .str _, _, h, _ => by rw [RepV] at h ⊢; exact h
  | .ty _, _, h, _ => by rw [RepV] at h ⊢; exact h
  | .fn _, _, h, _ => by rw [RepV] at h ⊢; exact h
  | .loc m, _, h, l => by
    rw [RepV] at h ⊢
    obtain ⟨a, e, r⟩ := h
    have l : m < n := by simpa [DL.low] using l
    exact ⟨a, by rw [List.getElem?_take_of_lt l]; exact e, r⟩
  | .tup ds, _, h, l => by
    rw [RepV] at h ⊢
    obtain ⟨a, vs, e, t, r⟩ := h
    refine ⟨a, vs, e, ?_, RepL.low n ds vs r (by simpa [DL.low] using l)⟩
    rcases t with ⟨t1, t2⟩ | t
    · exact .inl ⟨take_out t1, t2⟩
    · exact .inr t
  | .fl ds, _, h, l => by
    rw [RepV] at h ⊢
    obtain ⟨a, vs, e, t, r⟩ := h
    exact ⟨a, vs, e, ⟨take_out t.1, t.2⟩, RepL.low n ds vs r (by simpa [DL.low] using l)⟩
  | .kl ds, _, h, l => by
    rw [RepV] at h ⊢
    obtain ⟨a, vs, e, t, r⟩ := h
    refine ⟨a, vs, e, ?_, RepL.low n ds vs r (by simpa [DL.low] using l)⟩
    rcases t with ⟨t1, t2⟩ | t
    · exact .inl ⟨take_out t1, t2⟩
    · exact .inr t
  | .fd kvs, _, h, l => by
    rw [RepV] at h ⊢
    obtain ⟨a, vs, e, m, t, r⟩ := h
    exact ⟨a, vs, e, take_out m, t, RepK.low n kvs vs r (by simpa [DL.low] using l)⟩
  | .exc c fs, _, h, l => by
    rw [RepV] at h ⊢
    obtain ⟨a, cls, dd, e, m, t, rc, r⟩ := h
    refine ⟨a, cls, dd, e, take_out m, t, rc, ?_⟩
    rcases r with r | ⟨d, vs, e1, e2, e3, e4⟩
    · exact .inl r
    · exact .inr ⟨d, vs, e1, take_out e2, e3, RepF.low n fs vs e4 (by simpa [DL.low] using l)⟩
theorem RepL.low (n : Nat) : ∀ (ds : List D) (vs : List V), RepL K ι H ds vs → DL.lowL n ds = true → RepL K (ι.take n) H ds vs
  | [], _, h, _ => by rw [RepL] at h ⊢; exact h
  | d :: ds, _, h, l => by
    rw [RepL] at h ⊢
    obtain ⟨v, r, e, a, b⟩ := h
    simp only [DL.lowL, Bool.and_eq_true] at l
    exact ⟨v, r, e, RepV.low n d v a l.1, RepL.low n ds r b l.2⟩
theorem RepK.low (n : Nat) : ∀ (ds : List (Key × D)) (vs : List (Key × V)), RepK K ι H ds vs → DL.lowK n ds = true → RepK K (ι.take n) H ds vs
  | [], _, h, _ => by rw [RepK] at h ⊢; exact h
  | (k, d) :: ds, _, h, l => by
    rw [RepK] at h ⊢
    obtain ⟨v, r, e, a, b⟩ := h
    simp only [DL.lowK, Bool.and_eq_true] at l
    exact ⟨v, r, e, RepV.low n d v a l.1, RepK.low n ds r b l.2⟩
theorem RepF.low (n : Nat) : ∀ (ds : List (Str × D)) (vs : List (Str × V)), RepF K ι H ds vs → DL.lowF n ds = true → RepF K (ι.take n) H ds vs
  | [], _, h, _ => by rw [RepF] at h ⊢; exact h
  | (k, d) :: ds, _, h, l => by
    rw [RepF] at h ⊢
    obtain ⟨v, r, e, a, b⟩ := h
    simp only [DL.lowF, Bool.and_eq_true] at l
    exact ⟨v, r, e, RepV.low n d v a l.1, RepF.low n ds r b l.2⟩
end
theorem RepKT.low (n : Nat) : ∀ (ds : List (List Key × D)) (vs : List (List Key × V)), RepKT K ι H ds vs → DL.lowKT n ds = true → RepKT K (ι.take n) H ds vs
  | [], _, h, _ => by rw [RepKT] at h ⊢; exact h
  | (k, d) :: ds, _, h, l => by
    rw [RepKT] at h ⊢
    obtain ⟨v, r, e, a, b⟩ := h
    simp only [DL.lowKT, Bool.and_eq_true] at l
    exact ⟨v, r, e, RepV.low n d v a l.1, RepKT.low n ds r b l.2⟩
theorem RepO.low {a : Addr} {o : Ob} (n : Nat) (h : RepO K ι H a o) (l : DL.lowO n o = true) : RepO K (ι.take n) H a o := by
  cases o with
  | lst ds => obtain ⟨vs, q, r⟩ := h; exact ⟨vs, q, RepL.low n ds vs r l⟩
  | ins C fs => obtain ⟨C', dx, vs, nc, q, r⟩ := h; exact ⟨C', dx, vs, nc, q, RepF.low n fs vs r l⟩
  | dct ks => obtain ⟨vs, q, r⟩ := h; exact ⟨vs, q, RepK.low n ks vs r l⟩
  | dtt ks => obtain ⟨vs, q, r⟩ := h; exact ⟨vs, q, RepKT.low n ks vs r l⟩
  | scr ds => obtain ⟨o, vs, q, r⟩ := h; exact ⟨o, vs, q, RepL.low n ds vs r l⟩
  | tpl ds => obtain ⟨o, vs, q, c1, c2, r⟩ := h; exact ⟨o, vs, q, c1, c2, RepL.low n ds vs r l⟩
mutual
theorem RepV.isLow : ∀ (d : D) (v : V), RepV K ι H d v → DL.low ι.length d = true
  | .non, _, _ => rfl
  | .bl _, _, _ => rfl
  | .int _, _, _ => rfl
  | .str _, _, _ => rfl
  | .ty _, _, _ => rfl
  | .fn _, _, _ => rfl
  | .loc m, _, h => by
    rw [RepV] at h
    obtain ⟨a, e, _⟩ := h
    simpa [DL.low] using (List.getElem?_eq_some_iff.mp e).1
  | .tup ds, _, h => by
    rw [RepV] at h
    obtain ⟨a, vs, e, t, r⟩ := h
    simpa [DL.low] using RepL.isLow ds vs r
  | .fl ds, _, h => by
    rw [RepV] at h
    obtain ⟨a, vs, e, t, r⟩ := h
    simpa [DL.low] using RepL.isLow ds vs r
  | .kl ds, _, h => by
    rw [RepV] at h
    obtain ⟨a, vs, e, t, r⟩ := h
    simpa [DL.low] using RepL.isLow ds vs r
  | .fd ds, _, h => by
    rw [RepV] at h
    obtain ⟨a, vs, e, m, t, r⟩ := h
    simpa [DL.low] using RepK.isLow ds vs r
  | .exc c ds, _, h => by
    rw [RepV] at h
    obtain ⟨a, cls, dd, e, m, t, rc, r⟩ := h
    rcases r with ⟨_, rfl⟩ | ⟨d, vs, e1, e2, e3, e4⟩
    · rfl
    · simpa [DL.low] using RepF.isLow ds vs e4
theorem RepL.isLow : ∀ (ds : List D) (vs : List V), RepL K ι H ds vs → DL.lowL ι.length ds = true
  | [], _, _ => rfl
  | d :: ds, _, h => by
    rw [RepL] at h
    obtain ⟨v, r, e, a, b⟩ := h
    simp only [DL.lowL, Bool.and_eq_true]
    exact ⟨RepV.isLow d v a, RepL.isLow ds r b⟩
theorem RepK.isLow : ∀ (ds : List (Key × D)) (vs : List (Key × V)), RepK K ι H ds vs → DL.lowK ι.length ds = true
  | [], _, _ => rfl
  | (k, d) :: ds, _, h => by
    rw [RepK] at h
    obtain ⟨v, r, e, a, b⟩ := h
    simp only [DL.lowK, Bool.and_eq_true]
    exact ⟨RepV.isLow d v a, RepK.isLow ds r b⟩
theorem RepF.isLow : ∀ (ds : List (Str × D)) (vs : List (Str × V)), RepF K ι H ds vs → DL.lowF ι.length ds = true
  | [], _, _ => rfl
  | (k, d) :: ds, _, h => by
    rw [RepF] at h
    obtain ⟨v, r, e, a, b⟩ := h
    simp only [DL.lowF, Bool.and_eq_true]
    exact ⟨RepV.isLow d v a, RepF.isLow ds r b⟩
end
theorem RepKT.isLow : ∀ (ds : List (List Key × D)) (vs : List (List Key × V)), RepKT K ι H ds vs → DL.lowKT ι.length ds = true
  | [], _, _ => rfl
  | (k, d) :: ds, _, h => by
    rw [RepKT] at h
    obtain ⟨v, r, e, a, b⟩ := h
    simp only [DL.lowKT, Bool.and_eq_true]
    exact ⟨RepV.isLow d v a, RepKT.isLow ds r b⟩
theorem RepO.isLow {a : Addr} {o : Ob} (h : RepO K ι H a o) : DL.lowO ι.length o = true := by
  cases o with
  | lst ds => obtain ⟨vs, q, r⟩ := h; exact RepL.isLow ds vs r
  | ins C fs => obtain ⟨C', dx, vs, nc, q, r⟩ := h; exact RepF.isLow fs vs r
  | dct ks => obtain ⟨vs, q, r⟩ := h; exact RepK.isLow ks vs r
  | dtt ks => obtain ⟨vs, q, r⟩ := h; exact RepKT.isLow ks vs r
  | scr ds => obtain ⟨o, vs, q, r⟩ := h; exact RepL.isLow ds vs r
  | tpl ds => obtain ⟨o, vs, q, c1, c2, r⟩ := h; exact RepL.isLow ds vs r
end
/-- the elder places hold what they held, or nothing that points to a younger one -/
def Trunc (S S' : Sto) : Prop := S.length ≤ S'.length ∧ ∀ k o, k < S.length → S'[k]? = some o → S[k]? = some o ∨ lowO S.length o = true
theorem Trunc.same (S l : Sto) : Trunc S (S ++ l) := ⟨by simp, fun k o h e => .inl (by rw [List.getElem?_append_left h] at e; exact e)⟩
theorem Sim.trunc {K : PySem.W.Frag} {ι ι' : List Addr} {H H' : Hp} {S S' : Sto} (s : Sim K ι H S) (s' : Sim K ι' H' S') (G : Grow ι H ι' H') (t : Trunc S S') : Sim K ι H' (S'.take S.length) ∧ Grow ι H ι H' := by
  have hp : ι'.take ι.length = ι := by
    obtain ⟨r, e⟩ := G.pre
    rw [← e, List.take_left]
  refine ⟨⟨s.nd, by rw [s.len, List.length_take]; have := t.1; omega, fun n a o e1 e2 => ?_⟩, List.prefix_rfl, G.keep, fun _ z n => absurd z n⟩
  have hn : n < S.length := by rw [← s.len]; exact (List.getElem?_eq_some_iff.mp e1).1
  rw [List.getElem?_take_of_lt hn] at e2
  have e1' := getElem?_pre G.pre e1
  have r' := s'.ob n a o e1' e2
  have l : lowO S.length o = true := by
    rcases t.2 n o hn e2 with h | h
    · have := (s.ob n a o e1 h).isLow
      rw [s.len] at this; exact this
    · exact h
  have := r'.low S.length l
  rw [← s.len, hp] at this
  exact this
theorem RepV.trunc {K : PySem.W.Frag} {ι ι' : List Addr} {H H' : Hp} {S : Sto} {d : D} {v : V} (s : Sim K ι H S) (G : Grow ι H ι' H') (r : RepV K ι' H' d v) (l : DL.low S.length d = true) : RepV K ι H' d v := by
  have hp : ι'.take S.length = ι := by
    obtain ⟨r, e⟩ := G.pre
    rw [← s.len, ← e, List.take_left]
  have := RepV.low S.length d v r l
  rw [hp] at this; exact this
theorem RepL.trunc {K : PySem.W.Frag} {ι ι' : List Addr} {H H' : Hp} {S : Sto} {ds : List D} {vs : List V} (s : Sim K ι H S) (G : Grow ι H ι' H') (r : RepL K ι' H' ds vs) (l : lowL S.length ds = true) : RepL K ι H' ds vs := by
  have hp : ι'.take S.length = ι := by
    obtain ⟨r, e⟩ := G.pre
    rw [← s.len, ← e, List.take_left]
  have := RepL.low S.length ds vs r l
  rw [hp] at this; exact this
theorem RepF.trunc {K : PySem.W.Frag} {ι ι' : List Addr} {H H' : Hp} {S : Sto} {ds : List (Str × D)} {vs : List (Str × V)} (s : Sim K ι H S) (G : Grow ι H ι' H') (r : RepF K ι' H' ds vs) (l : lowF S.length ds = true) : RepF K ι H' ds vs := by
  have hp : ι'.take S.length = ι := by
    obtain ⟨r, e⟩ := G.pre
    rw [← s.len, ← e, List.take_left]
  have := RepF.low S.length ds vs r l
  rw [hp] at this; exact this
abbrev W0 : WX := fun _ _ _ _ => False
open Classical in
noncomputable def compD (g : Sto → Prop) (T : Tg) (c : Ev → Sto → R Bool) (f : Ev → Sto → R D) (n : Nat) (ρ : Ev) : List D → Sto → Option Sto
  | [], S => if g S then some S else none
  | d :: ds, S => if g S then (match T d ρ S with
    | none => none
    | some (ρ1, S1) => match c ρ1 S1 with
      | .ok b S2 => if b = true then (match f ρ1 S2 with
          | .ok y S3 => (match getL S3 n with
            | some acc => ifp (acc.length < sizeLine) (compD g T c f n ρ ds (S3.set n (.lst (acc ++ [y])))) none
            | none => none)
          | _ => none) else compD g T c f n ρ ds S2
      | _ => none) else none
def cYes : Ev → Sto → R Bool := fun _ S => .ok true S
/-- how the list stays: in the store, or frozen -/
def finLoc (S : Sto) (S' : Sto) : R D := .ok (.loc S.length) S'
open Classical in
noncomputable def finFl (S : Sto) (S' : Sto) : R D := match getL S' S.length with
  | some acc => if Trunc S S' ∧ S'.length = S.length + 1 ∧ lowL S.length acc = true then .ok (.fl acc) (S'.take S.length) else .stuck
  | none => .stuck
def FinOk (fin : Sto → Sto → R D) : Prop := ∀ (K : PySem.W.Frag) (W : WX) (σ : St) (ι ι' : List Addr) (H H0 H' : Hp) (S S' : Sto) (Da : Addr) (Q : VK), Sim K ι H S → H Da = none → Grow ι H ι H0 → (∀ b, b ≠ Da → H0 b = H b) → Sim K ι' H' S' → Grow (ι ++ [Da]) H0 ι' H' →
  Post K W σ ι H (fin S S') (fun d _ ι' H' => ∀ v, RepV K ι' H' d v → Q v H') → Q (.ref Da) H'
theorem fin_grow {ι ι' : List Addr} {H H0 H' : Hp} {Da : Addr} (n : H Da = none) (hb : ∀ b, b ≠ Da → H0 b = H b) (G : Grow (ι ++ [Da]) H0 ι' H') : Grow ι H ι' H' where
  pre := (List.prefix_append _ _).trans G.pre
  keep := fun a o e na => by
    have hne : a ≠ Da := ne_of_none e n
    refine G.keep a o (by rw [hb a hne]; exact e) fun z => ?_
    rcases List.mem_append.mp z with z | z
    · exact na z
    · exact hne (List.mem_singleton.mp z)
  fresh := fun a z na => by
    by_cases hne : a = Da
    · rw [hne]; exact n
    · have := G.fresh a z fun y => by
        rcases List.mem_append.mp y with y | y
        · exact na y
        · exact hne (List.mem_singleton.mp y)
      rw [hb a hne] at this; exact this
theorem fin_loc : FinOk finLoc := fun K W σ ι ι' H H0 H' S S' Da Q s n G0 hb s' G h => by
  refine h ι' H' (fin_grow n hb G) s' _ ?_
  rw [RepV]
  exact ⟨Da, getElem?_pre G.pre (by rw [← s.len]; simp), rfl⟩
theorem fin_fl : FinOk finFl := fun K W σ ι ι' H H0 H' S S' Da Q s n G0 hb s' G h => by
  unfold finFl at h
  (try unfold ifp at h); split at h
  · rename_i acc ha
    (try unfold ifp at h); split at h
    · rename_i hh
      obtain ⟨t, hl, hlow⟩ := hh
      have G1 := fin_grow n hb G
      obtain ⟨s2, G2⟩ := s.trunc s' G1 t
      have ea : ι'[S.length]? = some Da := getElem?_pre G.pre (by rw [← s.len]; simp)
      obtain ⟨vs, h1, h2⟩ := s'.ob _ _ _ ea (getL_some ha)
      refine h ι H' G2 s2 _ ?_
      rw [RepV]
      refine ⟨Da, vs, rfl, ⟨fun z => ?_, h1⟩, RepL.trunc s G1 h2 hlow⟩
      obtain ⟨u, e⟩ := s.there z
      rw [n] at e; cases e
    · exact h.elim
  · exact h.elim
/-- the target of a comprehension: its own slots, its store, by the very slots -/
structure CT (K : PySem.W.Frag) (vs : List Nat) (g : TG) (T : Tg) : Prop where
  wipeE : ∀ (ι : List Addr) (H : Hp) (σ : St) (ρ : Ev), RepE K ι H σ ρ → RepE K ι H (wipe σ vs) (ρ.mapIdx fun i d => if i ∈ vs then none else d)
  run : ∀ (ι : List Addr) (H : Hp) (S S' : Sto) (σ : St) (ρ ρ' : Ev) (d : D) (v : V) (Q : St → Hp → Prop), RepE K ι H (wipe σ vs) ρ → Sim K ι H S → RepV K ι H d v → T d ρ S = some (ρ', S') → S' = S ∧
    ((∀ σ', wipe σ' vs = wipe σ vs → RepE K ι H σ' ρ' → Q σ' H) → g v (wipe σ vs) H Q)
def wipeD (ρ : Ev) (vs : List Nat) : Ev := ρ.mapIdx fun i d => if i ∈ vs then none else d
noncomputable def eLc (fin : Sto → Sto → R D) (src : Ev → Sto → R Src) (T : Tg) (vs : List Nat) (c : Ev → Sto → R Bool) (f : Ev → Sto → R D) : Ev → Sto → R D := fun ρ S => (src ρ S).bind fun q S1 => match compD q.2 T c f S1.length (wipeD ρ vs) q.1 (S1 ++ [.lst []]) with
  | some S2 => fin S1 S2
  | none => .stuck
section
variable {X : Cx} {W : WX} {pos : Pos}
theorem lc_read {fin : Sto → Sto → R D} {K : PySem.W.Frag} {src : Ev → Sto → R Src} {g : TG} {T : Tg} {vs : List Nat} {c : Ev → Sto → R Bool} {f : Ev → Sto → R D} (hfin : FinOk fin) (ct : CT K vs g T) :
    ∀ σ H Q, rdE K W (eLc fin src T vs c f) σ H Q → tLc (rdI K W src) g (rdT K W0 c) (rdE K W0 f) vs σ H Q := fun σ H Q ⟨ι, ρ, S, hE, hS, h⟩ => by
  refine ⟨ι, ρ, S, hE, hS, (Post.bind h).mono fun q S1 ι1 H1 G1 s1 h1 J hJ Da hDa => ?_⟩
  obtain ⟨ds, gd⟩ := q
  cases hc : compD gd T c f S1.length (wipeD ρ vs) ds (S1 ++ [.lst []]) with
  | none => simp only [hc] at h1; exact h1.elim
  | some S2 =>
    simp only [hc] at h1
    have G0 : Grow ι1 H1 (ι1 ++ [Da]) (upd H1 Da (.lst [])) := Grow.push hDa
    have hE1 := ct.wipeE _ _ _ _ (hE.grow G1)
    refine ⟨fun i m H' => m = ds.length - i ∧ i ≤ ds.length ∧ ∃ ι' S', Grow (ι1 ++ [Da]) (upd H1 Da (.lst [])) ι' H' ∧ Sim K ι' H' S' ∧ compD gd T c f S1.length (wipeD ρ vs) (ds.drop i) S' = some S2,
      ⟨_, rfl, Nat.zero_le _, ι1 ++ [Da], (S1 ++ [Ob.lst []] : Sto), Grow.refl _ _, s1.push (b := Ob.lst []) hDa ⟨[], upd_same, RepL.nil⟩, hc⟩, ?_⟩
    rintro i m H' ⟨rfl, hi, ι', S', G', s', h'⟩
    have Gt : Grow ι1 H1 ι' H' := G0.trans G'
    have hE' : RepE K ι' H' (wipe σ vs) (wipeD ρ vs) := hE1.grow Gt
    have eD : ι'[S1.length]? = some Da := getElem?_pre G'.pre (by rw [← s1.len]; simp)
    by_cases hlt : i < ds.length
    · rw [List.drop_eq_getElem_cons hlt] at h'
      unfold compD at h'
      (try unfold ifp at h'); split at h'
      · rename_i hg
        obtain ⟨-, item⟩ := hJ ι' H' S' Gt s' hg
        obtain ⟨go, yl⟩ := item i ds[i] (List.getElem?_eq_some_iff.mpr ⟨hlt, rfl⟩)
        refine .inr ⟨go, fun H2 => ∃ ι2 S2', Grow (ι1 ++ [Da]) (upd H1 Da (.lst [])) ι2 H2 ∧ Sim K ι2 H2 S2' ∧ compD gd T c f S1.length (wipeD ρ vs) (ds.drop (i + 1)) S2' = some S2, fun H2 hh => ⟨ds.length - (i + 1), by omega, rfl, hlt, hh⟩, fun x H2 y => ?_⟩
        obtain ⟨G2, s2, rx⟩ := yl x H2 y
        cases hT : T ds[i] (wipeD ρ vs) S' with
        | none => simp only [hT] at h'; cases h'
        | some q =>
          obtain ⟨ρ1, S3⟩ := q
          simp only [hT] at h'
          obtain ⟨e3, run⟩ := ct.run ι' H2 S' S3 σ _ ρ1 ds[i] x (fun σ2 H2 => wipe σ2 vs = wipe σ vs ∧ rdT K W0 c σ2 H2 fun b H3 =>
            if b = true then rdE K W0 f σ2 H3 fun y H4 => ∃ acc, H4 Da = some (.lst acc) ∧ acc.length < sizeLine ∧ ∃ ι2 S2', Grow (ι1 ++ [Da]) (upd H1 Da (.lst [])) ι2 (upd H4 Da (.lst (acc ++ [y]))) ∧ Sim K ι2 (upd H4 Da (.lst (acc ++ [y]))) S2' ∧ compD gd T c f S1.length (wipeD ρ vs) (ds.drop (i + 1)) S2' = some S2
            else ∃ ι2 S2', Grow (ι1 ++ [Da]) (upd H1 Da (.lst [])) ι2 H3 ∧ Sim K ι2 H3 S2' ∧ compD gd T c f S1.length (wipeD ρ vs) (ds.drop (i + 1)) S2' = some S2) (hE'.grow G2) s2 rx hT
          subst e3
          refine run fun σ2 hw e2 => ⟨hw, ι', ρ1, S3, e2, s2, ?_⟩
          cases hcc : c ρ1 S3 with
          | stuck => simp only [hcc] at h'; cases h'
          | er x S4 => simp only [hcc] at h'; cases h'
          | ok b S4 =>
            simp only [hcc] at h'
            intro ι3 H3 G3 s3
            cases b with
            | false =>
              rw [if_neg (by decide)] at h' ⊢
              exact ⟨ι3, S4, (G'.trans G2).trans G3, s3, h'⟩
            | true =>
              rw [if_pos rfl] at h' ⊢
              refine ⟨ι3, ρ1, S4, e2.grow G3, s3, ?_⟩
              cases hf : f ρ1 S4 with
              | stuck => simp only [hf] at h'; cases h'
              | er x S5 => simp only [hf] at h'; cases h'
              | ok z S5 =>
                simp only [hf] at h'
                intro ι4 H4 G4 s4 v rv
                cases hL : getL S5 S1.length with
                | none => simp only [hL] at h'; cases h'
                | some acc =>
                  simp only [hL] at h'
                  (try unfold ifp at h'); split at h'
                  · rename_i hz
                    have e4 : ι4[S1.length]? = some Da := getElem?_pre G4.pre (getElem?_pre G3.pre eD)
                    obtain ⟨us, h5, h6⟩ := s4.ob _ _ _ e4 (getL_some hL)
                    have G5 : Grow ι4 H4 ι4 (upd H4 Da (.lst (us ++ [v]))) := Grow.put (List.mem_of_getElem? e4)
                    refine ⟨us, h5, by rw [← RepL.length _ _ h6]; exact hz, ι4, _, (((G'.trans G2).trans G3).trans G4).trans G5, s4.put (b := .lst (acc ++ [z])) e4 ⟨_, upd_same, ?_⟩, h'⟩
                    exact RepL.app _ _ (RepL.grow G5 _ _ h6) _ _ (RepL.one (RepV.grow G5 _ _ rv))
                  · cases h'
      · cases h'
    · have e : i = ds.length := by omega
      subst e
      rw [List.drop_length] at h'
      unfold compD at h'
      (try unfold ifp at h'); split at h'
      · rename_i hg
        cases h'
        obtain ⟨stop, -⟩ := hJ ι' H' S2 Gt s' hg
        exact .inl ⟨stop _ (Nat.le_refl _), hfin K W σ ι1 ι' H1 _ H' S1 S2 Da Q s1 hDa (Grow.upd hDa) (fun b hb => upd_ne hb) s' G' h1⟩
      · cases h'
theorem getElem?_wipe {ρ : Ev} {vs : List Nat} {i : Nat} {d : D} (h : (wipeD ρ vs)[i]? = some (some d)) : i ∉ vs ∧ ρ[i]? = some (some d) := by
  unfold wipeD at h
  rw [List.getElem?_mapIdx] at h
  cases e : ρ[i]? with
  | none => rw [e] at h; cases h
  | some x =>
    rw [e] at h
    simp only [Option.map_some, Option.some.injEq] at h
    by_cases hi : i ∈ vs
    · rw [if_pos hi] at h; cases h
    · rw [if_neg hi] at h; exact ⟨hi, by rw [h]⟩
theorem wipe_get (σ : St) : ∀ (vs : List Nat) (i : Nat), i ∉ vs → (wipe σ vs)[i]? = σ[i]?
  | [], _, _ => rfl
  | v :: vs, i, h => by
    unfold wipe
    rw [List.getElem?_set_ne (fun e => h (by rw [← e]; exact List.mem_cons_self))]
    exact wipe_get σ vs i fun z => h (List.mem_cons_of_mem _ z)
theorem wipe_rep {K : PySem.W.Frag} (vs : List Nat) : ∀ (ι : List Addr) (H : Hp) (σ : St) (ρ : Ev), RepE K ι H σ ρ → RepE K ι H (wipe σ vs) (wipeD ρ vs) := fun ι H σ ρ h => by
  refine ⟨by rw [wipe_length]; simp [wipeD, h.1], fun i d e => ?_⟩
  obtain ⟨hi, e⟩ := getElem?_wipe e
  obtain ⟨v, e', r⟩ := h.2 i d e
  exact ⟨v, by rw [wipe_get σ vs i hi]; exact e', r⟩
theorem ct_name {K : PySem.W.Frag} (i : Nat) : CT K [i] (gName i) (tN i) where
  wipeE := wipe_rep [i]
  run := fun ι H S S' σ ρ ρ' d v Q hE s r e => by
    cases e
    refine ⟨rfl, fun h => ?_⟩
    refine h ((wipe σ [i]).set i (some v)) ?_ (hE.set r i)
    simp [wipe]
theorem de_lc {fin : Sto → Sto → R D} {elt tg iter : Expr} {ifs : List Expr} {scope : Scope} {own : List (Str × Nat)} {src : Ev → Sto → R Src} {g : TG} {T : Tg} {c : Ev → Sto → R Bool} {f : Ev → Sto → R D} (hfin : FinOk fin) (ct : CT X.K (own.map (·.2)) g T) (hc : X.calm = true) (hN : X.N.Nodup) (hi : DI X W tg iter src) (ok : BlkOk X.N X.env.scope scope own)
    (hg : ∀ (s : Shared) (H : Hp) (C : Addr) (cl : List (Str × Addr)) (fp : List Addr), PG (X.blk s H scope (compEnvC scope cl C X.env) fp) tg g) (ht : ∀ (s : Shared) (H : Hp) (C : Addr) (cl : List (Str × Addr)) (fp : List Addr), PTs (X.blk s H scope (compEnvC scope cl C X.env) fp) ifs (rdT X.K W0 c))
    (he : ∀ (s : Shared) (H : Hp) (C : Addr) (cl : List (Str × Addr)) (fp : List Addr), DE (X.blk s H scope (compEnvC scope cl C X.env) fp) W0 elt f) (hs : ∀ x, foldedSetIterable iter X.env x = pure x := by intro _; rfl) :
    DE X W (.ListComp elt [⟨tg, iter, ifs, 0⟩] scope pos) (eLc fin src T (own.map (·.2)) c f) := PE.imp (pe_lc hc hN hi ok hg ht he hs) (lc_read hfin ct)
/-- name = [..] -/
theorem ds_setLc (i : Nat) {y : Str} {py spos : Pos} {fin : Sto → Sto → R D} {elt tg iter : Expr} {ifs : List Expr} {scope : Scope} {own : List (Str × Nat)} {src : Ev → Sto → R Src} {g : TG} {T : Tg} {c : Ev → Sto → R Bool} {f : Ev → Sto → R D} (hfin : FinOk fin) (ct : CT X.K (own.map (·.2)) g T) (hc : X.calm = true) (hN : X.N.Nodup) (hi : DI X W tg iter src) (ok : BlkOk X.N X.env.scope scope own)
    (hg : ∀ (s : Shared) (H : Hp) (C : Addr) (cl : List (Str × Addr)) (fp : List Addr), PG (X.blk s H scope (compEnvC scope cl C X.env) fp) tg g) (ht : ∀ (s : Shared) (H : Hp) (C : Addr) (cl : List (Str × Addr)) (fp : List Addr), PTs (X.blk s H scope (compEnvC scope cl C X.env) fp) ifs (rdT X.K W0 c))
    (he : ∀ (s : Shared) (H : Hp) (C : Addr) (cl : List (Str × Addr)) (fp : List Addr), DE (X.blk s H scope (compEnvC scope cl C X.env) fp) W0 elt f) (hy : X.N[i]? = some y := by rfl) (hyl : X.env.scope.names.lookup y = some .local := by rfl)
    (hsw : swapsWith (.ListComp elt [⟨tg, iter, ifs, 0⟩] scope pos) (some (.Name y py)) spos.line X.env = pure true := by exact sw_true rfl rfl rfl (by decide +kernel)) (hs : ∀ x, foldedSetIterable iter X.env x = pure x := by intro _; rfl) :
    DS X W (.Assign [.Name y py] (.ListComp elt [⟨tg, iter, ifs, 0⟩] scope pos) spos) (sSet i (eLc fin src T (own.map (·.2)) c f)) :=
  PS.imp (ps_setLc hc hN hy hyl hsw hi ok hg ht he hs) fun E σ H q => by
    obtain ⟨ι, ρ, S, hE, hS, h⟩ := q
    refine lc_read (W := W) hfin ct σ H _ ⟨ι, ρ, S, hE, hS, (PostS.bind h hE).mono fun d S1 ι1 H1 G1 s1 h1 v rv => ?_⟩
    exact h1 ι1 H1 _ (Grow.refl _ _) s1 ((hE.grow G1).set rv i)
theorem dts_nil : PTs X [] (rdT X.K W0 cYes) := ⟨fun pins s σ H Q I ⟨ι, ρ, S, hE, hS, h⟩ => pts_nil.run pins s σ H Q I (h.here hS)⟩
theorem dts_one {c : Expr} {t : Ev → Sto → R Bool} (h : DT X W0 c t) : PTs X [c] (rdT X.K W0 t) := pts_one h
end
end DL
namespace DL
open PySem PySem.Spec L2
open PyProof.Rows hiding St
abbrev Fn := List D → Sto → R D
def PostX (K : PySem.W.Frag) (E : XK) (ι : List Addr) (H : Hp) (r : R D) (Q : VK) : Prop := match r with
  | .ok d S' => ∀ ι' H' v, Grow ι H ι' H' → Sim K ι' H' S' → RepV K ι' H' d v → Q v H'
  | .er e S' => ∀ ι' H' cls dd, Grow ι H ι' H' → Sim K ι' H' S' → RepX K ι' H' e cls dd → E cls dd H'
  | .stuck => False
def spD (K : PySem.W.Frag) (F : Fn) : Sp := fun vs H Q E => ∃ ι S ds, RepL K ι H ds vs ∧ Sim K ι H S ∧ PostX K E ι H (F ds S) Q
/-- the def at f does what F says, called by position -/
def FnD (gd : Bool) (P : Program) (w : World) (K : PySem.W.Frag) (mg : Str → Option Value) (base : Heap) (k : Nat) (f : Addr) (F : Fn) : Prop :=
  ∀ (A : Around) (outer : List Env) (s : Shared) (H : Hp) (us : List Value) (vs : List V) (Q : VK) (E : XK), Room k A → (gd = true → A.guards = some []) → Env0 P w K mg base A outer s H → Vals vs us → spD K F vs H Q E →
    codeAny (model P w) A (.call (.ref f) ⟨us, []⟩) (CR (L2.CX P w) outer P w H s Q E) s
theorem FnD.mono {gd : Bool} {P : Program} {w : World} {K : PySem.W.Frag} {mg : Str → Option Value} {base : Heap} {j k : Nat} {f : Addr} {F : Fn} (h : FnD gd P w K mg base j f F) (hj : j ≤ k) : FnD gd P w K mg base k f F :=
  fun A outer s H us vs Q E hr => h A outer s H us vs Q E (hr.mono hj)
theorem FnD.up {P : Program} {w : World} {K : PySem.W.Frag} {mg : Str → Option Value} {base : Heap} {k : Nat} {f : Addr} {F : Fn} (h : FnD false P w K mg base k f F) (gd : Bool) : FnD gd P w K mg base k f F :=
  fun A outer s H us vs Q E hr _ => h A outer s H us vs Q E hr fun z => nomatch z
open Classical in
noncomputable def close (S : Sto) (d : D) (S' : Sto) : R D :=
  if S'.length = S.length then .ok d S' else if Trunc S S' ∧ low S.length d = true then .ok d (S'.take S.length) else match d with
    | .loc m => (match getL S' m with
      | some ds => if Trunc S S' ∧ lowL S.length ds = true then .ok (.fl ds) (S'.take S.length) else .stuck
      | none => .stuck)
    | _ => .stuck
open Classical in
noncomputable def closeE (S : Sto) (e : Ex) (S' : Sto) : R D := if S'.length = S.length then .er e S' else if Trunc S S' ∧ lowF S.length e.fs = true then .er e (S'.take S.length) else .stuck
/-- nothing is dropped -/
def closeK (_ : Sto) (d : D) (S' : Sto) : R D := .ok d S'
def ClOk (cl : Sto → D → Sto → R D) : Prop := ∀ (K : PySem.W.Frag) (E : XK) (ι ι' : List Addr) (H H' : Hp) (S S' : Sto) (d : D) (v : V) (Q : VK), Sim K ι H S → Sim K ι' H' S' → Grow ι H ι' H' → RepV K ι' H' d v → PostX K E ι H (cl S d S') Q → Q v H'
theorem cl_keep : ClOk closeK := fun K E ι ι' H H' S S' d v Q s s' G r h => h ι' H' v G s' r
theorem cl_drop : ClOk close := fun K E ι ι' H H' S S' d v Q s s' G r h => by
  unfold close at h
  split at h
  · exact h ι' H' v G s' r
  · rename_i hl
    split at h
    · rename_i hh
      obtain ⟨s2, G2⟩ := s.trunc s' G hh.1
      exact h ι H' v G2 s2 (RepV.trunc s G r hh.2)
    · rename_i hlow
      split at h
      · rename_i m
        split at h
        · rename_i ds hd
          split at h
          · rename_i hh
            obtain ⟨s2, G2⟩ := s.trunc s' G hh.1
            refine h ι H' v G2 s2 ?_
            rw [RepV] at r
            obtain ⟨a, ea, rfl⟩ := r
            obtain ⟨vs, h1, h2⟩ := s'.ob _ _ _ ea (getL_some hd)
            have hm : ¬ m < S.length := fun z => hlow ⟨hh.1, by simpa [low] using z⟩
            rw [RepV]
            refine ⟨a, vs, rfl, ⟨fun z => ?_, h1⟩, RepL.trunc s G h2 hh.2⟩
            obtain ⟨n, hn, en⟩ := List.mem_iff_getElem.mp z
            have e1 : ι'[n]? = some a := getElem?_pre G.pre (List.getElem?_eq_some_iff.mpr ⟨hn, en⟩)
            obtain ⟨q1, q2⟩ := List.getElem?_eq_some_iff.mp e1
            obtain ⟨q3, q4⟩ := List.getElem?_eq_some_iff.mp ea
            have : n = m := (List.getElem_inj s'.nd).mp (q2.trans q4.symm)
            rw [← s.len] at hm
            omega
          · exact h.elim
        · exact h.elim
      · exact h.elim
theorem cl_err {K : PySem.W.Frag} {E : XK} {ι ι' : List Addr} {H H' : Hp} {S S' : Sto} {e : Ex} {cls : Value} {dd : Option Addr} {Q : VK} (s : Sim K ι H S) (s' : Sim K ι' H' S') (G : Grow ι H ι' H') (r : RepX K ι' H' e cls dd) (h : PostX K E ι H (closeE S e S') Q) : E cls dd H' := by
  unfold closeE at h
  split at h
  · exact h ι' H' cls dd G s' r
  · split at h
    · rename_i hh
      obtain ⟨s2, G2⟩ := s.trunc s' G hh.1
      refine h ι H' cls dd G2 s2 ⟨r.1, ?_⟩
      rcases r.2 with r2 | ⟨a, vs, e1, e2, e3, e4⟩
      · exact .inl r2
      · refine .inr ⟨a, vs, e1, fun z => e2 ?_, e3, RepF.trunc s G e4 hh.2⟩
        obtain ⟨t, rfl⟩ := G.pre
        exact List.mem_append_left _ z
    · exact h.elim
def startD (n : Nat) (ds : List D) : Ev := ds.map some ++ List.replicate (n - ds.length) none
noncomputable def fnC (cl : Sto → D → Sto → R D) (n : Nat) (m : Nat) (B : Ev → Sto → SR) : Fn := fun ds S => if ds.length = m then (match B (startD n ds) S with
  | .nx _ S' => cl S .non S'
  | .rt d S' => cl S d S'
  | .er e _ S' => closeE S e S'
  | _ => .stuck) else .stuck
theorem start_rep {K : PySem.W.Frag} {ι : List Addr} {H : Hp} {ds : List D} {vs : List V} (N : List Str) (r : RepL K ι H ds vs) : RepE K ι H (start N vs) (startD N.length ds) := by
  have hl := RepL.length _ _ r
  refine ⟨by simp [L2.start, startD, hl], fun i d e => ?_⟩
  unfold startD at e
  by_cases hi : i < ds.length
  · rw [List.getElem?_append_left (by simpa using hi), List.getElem?_map] at e
    cases q : ds[i]? with
    | none => rw [q] at e; cases e
    | some x =>
      rw [q] at e; cases e
      obtain ⟨v, hv, rv⟩ := RepL.get _ _ r i d q
      refine ⟨v, ?_, rv⟩
      unfold L2.start
      rw [List.getElem?_append_left (by simp [← hl]; exact hi), List.getElem?_map, hv]
      rfl
  · rw [List.getElem?_append_right (by simpa using hi), List.getElem?_replicate] at e
    split at e <;> cases e
/-- how the body's reading gives the def's -/
theorem body_read {K : PySem.W.Frag} {cl : Sto → D → Sto → R D} (hcl : ClOk cl) {N : List Str} {m : Nat} {B : Ev → Sto → SR} {vs : List V} {H : Hp} {Q : VK} {E : XK} (h : spD K (fnC cl N.length m B) vs H Q E) :
    vs.length = m ∧ rdS K (fun cls d _ H' => E cls d H') B { nx := fun _ H' => Q .non H', rt := Q } (start N vs) H := by
  obtain ⟨ι, S, ds, rl, s, h⟩ := h
  unfold fnC at h
  split at h
  · rename_i hm
    refine ⟨by rw [← RepL.length _ _ rl]; exact hm, ι, startD N.length ds, S, start_rep N rl, s, ?_⟩
    cases hB : B (startD N.length ds) S with
    | nx ρ S' => simp only [hB] at h; exact fun ι' H' σ' G s' e => hcl K E ι ι' H H' S S' .non .non Q s s' G non_rep h
    | rt d S' => simp only [hB] at h; exact fun ι' H' v G s' r => hcl K E ι ι' H H' S S' d v Q s s' G r h
    | er e ρ S' => simp only [hB] at h; exact fun ι' H' σ' cls dd G s' _ r => cl_err s s' G r h
    | bk ρ S' => simp only [hB] at h; exact h.elim
    | ct ρ S' => simp only [hB] at h; exact h.elim
    | stuck => simp only [hB] at h; exact h.elim
  · exact h.elim
section
variable {gd : Bool} {P : Program} {w : World} {K : PySem.W.Frag} {mg : Str → Option Value} {base : Heap} {k : Nat} {f : Addr} {fd : FuncData} {N ps : List Str}
/-- a def by its body -/
theorem fnD_of {x qual : Str} {st : Stmt} {cl : Sto → D → Sto → R D} {B : Ev → Sto → SR} (F : Fun K x qual st f fd) (sc : FnScope N ps (defScope st)) (hb : Binds K fd ps []) (hcl : ClOk cl)
    (hbody : ∀ (cdv : Value) (A : Around) (outer : List Env) (s : Shared) (H : Hp) (E : XK), Room k (A.deeper (envOfC qual (defScope st) s.heap.objs.size f cdv)) → (gd = true → A.guards = some []) →
      Takes (cxOf (L2.CX P w) P w K mg base N qual (defScope st) f cdv A outer s H E) (fun cls d _ H' => E cls d H') →
      PassesOwn (model P w) (A.deeper (envOfC qual (defScope st) s.heap.objs.size f cdv)) (envOfC qual (defScope st) s.heap.objs.size f cdv) (cxOf (L2.CX P w) P w K mg base N qual (defScope st) f cdv A outer s H E).xe →
      DSs (cxOf (L2.CX P w) P w K mg base N qual (defScope st) f cdv A outer s H E) (fun cls d _ H' => E cls d H') (defBody st) B) : FnD gd P w K mg base (k + 1) f (fnC cl N.length ps.length B) := by
  intro A outer s H us vs Q E hr hgd e0 rv hsp
  obtain ⟨oc, od, kV, doc, pm, an, cdv, ct, osl, efd, lk, hcd⟩ := F.ex
  obtain ⟨hl, rd⟩ := body_read (N := N) hcl hsp
  have hlu : us.length = ps.length := by rw [← rv.length]; exact hl
  have kept : ∀ b o, base.get? b = some o → s.heap.get? b = some o := fun b o e => (e0.bs b o e).1
  have KX : K.In s.heap := e0.mod.kin.keeps kept
  have bd := hb s us KX (by rw [List.append_nil]; exact hlu)
  rw [List.append_nil, efd] at bd
  rw [efd] at lk
  have hkind : ∀ y ∈ ps.zip us, (defScope st).names.lookup y.1 = some .local ∨ ((defScope st).names.lookup y.1 = some .cell ∧
      ((cellsFrom (s.heap.objs.size + 1) (defScope st).names []).lookup y.1).isSome = true) := by
    rintro ⟨n, v⟩ hy
    exact (sc.par n (List.of_mem_zip hy).1).imp id fun q => ⟨q, PySem.W.cellsFrom_some _ _ _ (.inl q)⟩
  refine codeAny_call_function hr.depth (KX _ _ lk) rfl sc.co sc.gen rfl
    (PySem.W.codeRec_of KX hcd) (bd _ _ _ _ (wpAny_newFunctionEnv_cells sc.kind hkind fun env he s1 ic => ?_))
  subst he
  refine ⟨(e0.mod.nolimit.keeps kept).keeps ic.toInCall.keep, codeAny_func ?_⟩
  have I := inv_start (CX := L2.CX P w) (P := P) (w := w) (E := E) sc hr.hd e0 hl rv ic
  have body := hbody cdv A outer s H E (hr.deeper _) hgd (takes_of rfl rfl rfl rfl) (passes_of rfl)
  refine wpAny_mono (body.run [] s1 (start N vs) H _ I rd) (fun fl s' hs => ?_) fun e s' hs => hs
  cases fl with
  | ret u =>
    obtain ⟨v, σ', H', J, r', q⟩ := hs
    exact ⟨v, H', J.os, J.bare, J.base, J.hok, r', q⟩
  | next =>
    obtain ⟨σ', H', J, q⟩ := hs
    exact ⟨V.non, H', J.os, J.bare, J.base, J.hok, rfl, q⟩
  | brk => obtain ⟨_, _, _, q⟩ := hs; exact False.elim q
  | cont => obtain ⟨_, _, _, q⟩ := hs; exact False.elim q
end
def eCall (F : Fn) (g : Ev → Sto → R (List D)) : Ev → Sto → R D := fun ρ S => (g ρ S).bind fun ds S1 => F ds S1
theorem PostX.of {K : PySem.W.Frag} {W : WX} {σ : St} {ι : List Addr} {H : Hp} {r : R D} {Q : VK} (h : Post K W σ ι H r fun d _ ι' H' => ∀ v, RepV K ι' H' d v → Q v H') : PostX K (WE W σ) ι H r Q := by
  cases r with
  | ok d S => exact fun ι' H' v G s r => h ι' H' G s v r
  | er e S => exact h
  | stuck => exact h
section
variable {X : Cx} {W : WX} {gd : Bool} {k : Nat} {f : Addr} {F : Fn} {x : Str} {p pos : Pos} {e : Expr} {es : List Expr} {g : Ev → Sto → R (List D)}
theorem run_fnD {pins : List (Addr × Obj)} {σ : St} {H : Hp} {s : Shared} {Q : VK} {us : List Value} {vs : List V} (hF : FnD gd X.prog X.w X.K X.mg X.base k f F) (hr : Room k X.A) (hG : gd = true → X.A.guards = some []) (tk : Takes X W)
    (I : Inv X pins σ H s) (r : Vals vs us) (h : spD X.K F vs H Q (WE W σ)) : wpAny (model X.prog X.w) X.A (call (.ref f) us) (EP X pins σ Q) X.xe s := by
  refine wpAny_call (codeAny_mono (hF X.A X.stack s H us vs Q (WE W σ) hr hG I.env0 r h) fun res s' hq => ?_)
  cases res with
  | error er => exact passAt tk σ pins H s er s' I hq
  | ok fl =>
    cases fl with
    | ret u => exact I.after hq
    | next => exact False.elim hq
    | brk => exact False.elim hq
    | cont => exact False.elim hq
theorem de_callD (hF : FnD gd X.prog X.w X.K X.mg X.base k f F) (hr : Room k X.A) (hG : gd = true → X.A.guards = some []) (tk : Takes X W) (hm : X.mg x = some (.ref f)) (hk : PySem.W.keepIn X.K (.ref f) = true) (ha : DA X W (e :: es) g) (hg : Gl X x := by rfl) (hdb : (x == ("__debug__" : Str)) = false := by decide)
    (he : starEach (e :: es) X.env = (false, eval e X.env) :: starEach es X.env := by rfl) (hpl : (backTo pos (starEach es X.env)).any (·.1) = false := by rfl) : DE X W (.Call (.Name x p) (e :: es) [] pos) (eCall F g) := by
  refine ⟨fun pins s σ H Q I ⟨ι, ρ, S, hE, hS, h⟩ => ?_⟩
  refine wpAny_Call_Name_kw (ld_glob I hg hm ?_ hdb)
  have rd : rdA X.K W g σ H fun vs H1 => spD X.K F vs H1 Q (WE W σ) := ⟨ι, ρ, S, hE, hS, (Post.bind h).mono fun ds S1 ι1 H1 G1 s1 h1 vs rs => ⟨ι1, S1, ds, rs, s1, PostX.of h1⟩⟩
  exact PySem.W.callWith_K (h₀ := X.base) I.ok.mod.kin hk (thn (ha.run pos pins s σ H _ I rd) fun us s1 ⟨vs, H1, I1, r1, q1⟩ => ⟨I1.kIn, run_fnD hF hr hG tk I1 r1 q1⟩) he hpl
theorem de_callD0 (hF : FnD gd X.prog X.w X.K X.mg X.base k f F) (hr : Room k X.A) (hG : gd = true → X.A.guards = some []) (tk : Takes X W) (hm : X.mg x = some (.ref f)) (hk : PySem.W.keepIn X.K (.ref f) = true) (hg : Gl X x := by rfl) (hdb : (x == ("__debug__" : Str)) = false := by decide) :
    DE X W (.Call (.Name x p) [] [] pos) (eCall F aNil) := by
  refine ⟨fun pins s σ H Q I ⟨ι, ρ, S, hE, hS, h⟩ => ?_⟩
  refine wpAny_Call_Name_kw (ld_glob I hg hm ?_ hdb)
  exact PySem.W.callWith_K0 I.kIn hk (run_fnD (us := []) (vs := []) hF hr hG tk I .nil ⟨ι, S, [], RepL.nil, hS, PostX.of h⟩)
end
end DL
namespace DL
open PySem PySem.Spec L2
open PyProof.Rows hiding St
def CallK (K : PySem.W.Frag) (r : List V → Hp → VK → Prop) (b : Fn) : Prop := ∀ (W : WX) (σ : St) (ι : List Addr) (H : Hp) (S : Sto) (vs : List V) (ds : List D) (Q : VK), Sim K ι H S → RepL K ι H ds vs →
  Post K W σ ι H (b ds S) (fun d _ ι' H' => ∀ v, RepV K ι' H' d v → Q v H') → r vs H Q
theorem CallR.or {X : Cx} {f : Value} {r r' : List V → Hp → VK → Prop} (h : CallR X f r) (h' : CallR X f r') : CallR X f (fun vs H Q => r vs H Q ∨ r' vs H Q) := by
  intro pins s σ H vs us Q I rv q
  rcases q with q | q
  · exact h pins s σ H vs us Q I rv q
  · exact h' pins s σ H vs us Q I rv q
section
variable {X : Cx} {W : WX} {x : Str} {p pos : Pos} {e : Expr} {es : List Expr} {g : Ev → Sto → R (List D)} {id T : String} {r : List V → Hp → VK → Prop} {b : Fn}
theorem cb_read {K : PySem.W.Frag} (k : CallK K r b) : ∀ σ H Q, rdE K W (eCall b g) σ H Q → tCB r (rdA K W g) σ H Q := fun σ H Q ⟨ι, ρ, S, hE, hS, h⟩ =>
  ⟨ι, ρ, S, hE, hS, (Post.bind h).mono fun ds S1 ι1 H1 G1 s1 h1 vs rs => k W σ ι1 H1 S1 vs ds Q s1 rs h1⟩
theorem de_callB (hc : CallR X (.builtin id) r) (k : CallK X.K r b) (hm : X.mg x = none) (hv : bootBuiltins x = some (.builtin id)) (ha : DA X W (e :: es) g) (hg : Gl X x := by rfl) (hn : x ≠ "__name__" := by decide) (hdb : (x == ("__debug__" : Str)) = false := by decide)
    (he : starEach (e :: es) X.env = (false, eval e X.env) :: starEach es X.env := by rfl) (hpl : (backTo pos (starEach es X.env)).any (·.1) = false := by rfl) : DE X W (.Call (.Name x p) (e :: es) [] pos) (eCall b g) :=
  PE.imp (pe_callB hc hg hm hv ha hn hdb he hpl) (cb_read k)
theorem de_callTy (hc : CallR X (.type T) r) (k : CallK X.K r b) (hm : X.mg x = none) (hv : bootBuiltins x = some (.type T)) (ha : DA X W (e :: es) g) (hg : Gl X x := by rfl) (hn : x ≠ "__name__" := by decide) (hdb : (x == ("__debug__" : Str)) = false := by decide)
    (he : starEach (e :: es) X.env = (false, eval e X.env) :: starEach es X.env := by rfl) (hpl : (backTo pos (starEach es X.env)).any (·.1) = false := by rfl) : DE X W (.Call (.Name x p) (e :: es) [] pos) (eCall b g) :=
  PE.imp (pe_callTy hc hg hm hv ha hn hdb he hpl) (cb_read k)
end
section
variable {X : Cx} {K : PySem.W.Frag}
noncomputable def bLen : Fn := fun ds S => match ds with
  | [.str z] => ifp (z.length ≤ sizeLine) (.ok (.int z.length) S) .stuck
  | [d] => (match seqOf S d with
    | some xs => .ok (.int xs.length) S
    | none => .stuck)
  | _ => .stuck
theorem c_len : CallR X (.builtin "len") (fun xs H Q => (∃ z, xs = [.str z] ∧ z.length ≤ sizeLine ∧ Q (.int z.length) H) ∨ ∃ p ys, xs = [.ref p] ∧ (SqL X.K H p ys ∨ SqT X.K H p ys) ∧ Q (.int ys.length) H) := CallR.or call_len_str call_len_seq
theorem k_len : CallK K (fun xs H Q => (∃ z, xs = [.str z] ∧ z.length ≤ sizeLine ∧ Q (.int z.length) H) ∨ ∃ p ys, xs = [.ref p] ∧ (SqL K H p ys ∨ SqT K H p ys) ∧ Q (.int ys.length) H) bLen := by
  intro W σ ι H S vs ds Q s rl h
  unfold bLen at h
  (try unfold ifp at h); split at h
  · obtain ⟨v, rfl, rv⟩ := RepL.one_inv rl
    (try unfold ifp at h); split at h
    · rename_i hz
      exact .inl ⟨_, by rw [str_at rv], hz, h.here s _ int_rep⟩
    · exact h.elim
  · obtain ⟨v, rfl, rv⟩ := RepL.one_inv rl
    (try unfold ifp at h); split at h
    · rename_i xs hx
      obtain ⟨p, vs, rfl, q, rq⟩ := seq_at s rv hx
      refine .inr ⟨p, vs, rfl, q, ?_⟩
      rw [← RepL.length _ _ rq]
      exact h.here s _ int_rep
    · exact h.elim
  · exact h.elim
def bAbs : Fn := fun ds S => match ds with
  | [.int i] => .ok (.int (if i < 0 then -i else i)) S
  | _ => .stuck
theorem k_abs : CallK K (fun xs H Q => ∃ i, xs = [.int i] ∧ Q (.int (if i < 0 then -i else i)) H) bAbs := by
  intro W σ ι H S vs ds Q s rl h
  unfold bAbs at h
  (try unfold ifp at h); split at h
  · obtain ⟨v, rfl, rv⟩ := RepL.one_inv rl
    exact ⟨_, by rw [int_at rv], h.here s _ int_rep⟩
  · exact h.elim
def intsOf : List D → Option (List Int)
  | [] => some []
  | .int i :: ds => (intsOf ds).map fun is => i :: is
  | _ => none
theorem intsOf_rep {ι : List Addr} {H : Hp} : ∀ (ds : List D) (vs : List V) (is : List Int), RepL K ι H ds vs → intsOf ds = some is → vs = is.map V.int
  | [], vs, is, r, e => by rw [RepL] at r; cases e; subst r; rfl
  | d :: ds, vs, is, r, e => by
    rw [RepL] at r
    obtain ⟨v, us, rfl, a, b⟩ := r
    cases d with
    | int i =>
      have e : (intsOf ds).map (fun is => i :: is) = some is := e
      cases h : intsOf ds with
      | none => rw [h] at e; cases e
      | some js =>
        rw [h] at e; cases e
        rw [int_at a, intsOf_rep ds us js b h]; rfl
    | _ => cases e
theorem intsOf_map (is : List Int) : intsOf (is.map D.int) = some is := by
  induction is with
  | nil => rfl
  | cons i is ih => simp [intsOf, ih]
def maxL : List Int → Int
  | [] => 0
  | i :: is => is.foldl max i
def minL : List Int → Int
  | [] => 0
  | i :: is => is.foldl min i
def bMax : Fn := fun ds S => match ds with
  | [.int i, .int j] => .ok (.int (max i j)) S
  | [d] => (match (lstOf S d).bind intsOf with
    | some is => if is = [] then .stuck else .ok (.int (maxL is)) S
    | none => .stuck)
  | _ => .stuck
def bMin : Fn := fun ds S => match ds with
  | [.int i, .int j] => .ok (.int (min i j)) S
  | [d] => (match (lstOf S d).bind intsOf with
    | some is => if is = [] then .stuck else .ok (.int (minL is)) S
    | none => .stuck)
  | _ => .stuck
theorem foldl_max_ge (l : List Int) : ∀ i : Int, i ≤ l.foldl max i ∧ ∀ x ∈ l, x ≤ l.foldl max i := by
  induction l with
  | nil => intro i; simp
  | cons a l ih =>
    intro i
    obtain ⟨h1, h2⟩ := ih (max i a)
    refine ⟨by simp only [List.foldl_cons]; omega, fun x hx => ?_⟩
    simp only [List.foldl_cons]
    rcases List.mem_cons.mp hx with rfl | hx
    · omega
    · exact h2 x hx
theorem foldl_max_mem (l : List Int) : ∀ i : Int, l.foldl max i = i ∨ l.foldl max i ∈ l := by
  induction l with
  | nil => intro i; simp
  | cons a l ih =>
    intro i
    simp only [List.foldl_cons]
    rcases ih (max i a) with h | h
    · rw [h]
      by_cases hia : i ≤ a
      · exact .inr (by rw [Int.max_eq_right hia]; exact List.mem_cons_self)
      · exact .inl (by omega)
    · exact .inr (List.mem_cons_of_mem _ h)
theorem maxL_spec {is : List Int} (h : is ≠ []) : maxL is ∈ is ∧ ∀ x ∈ is, x ≤ maxL is := by
  cases is with
  | nil => exact absurd rfl h
  | cons i l =>
    obtain ⟨h1, h2⟩ := foldl_max_ge l i
    refine ⟨?_, fun x hx => ?_⟩
    · rcases foldl_max_mem l i with e | e
      · show l.foldl max i ∈ i :: l
        rw [e]; exact List.mem_cons_self
      · exact List.mem_cons_of_mem _ e
    · rcases List.mem_cons.mp hx with rfl | hx
      · exact h1
      · exact h2 x hx
theorem lst_ints {ι : List Addr} {H : Hp} {S : Sto} {d : D} {v : V} {is : List Int} (s : Sim K ι H S) (r : RepV K ι H d v) (e : (lstOf S d).bind intsOf = some is) : ∃ p, v = .ref p ∧ SqL K H p (is.map V.int) := by
  cases h : lstOf S d with
  | none => rw [h] at e; cases e
  | some ds =>
    rw [h] at e
    obtain ⟨p, vs, rfl, q, rl⟩ := lst_at s r h
    rw [intsOf_rep _ _ _ rl e] at q
    exact ⟨p, rfl, SqL.of q⟩
theorem c_max (hc : X.calm = true) : CallR X (.builtin "max") (fun xs H Q => (∃ i j, xs = [.int i, .int j] ∧ Q (.int (if j > i then j else i)) H) ∨ rMax X.K xs H Q) := CallR.or (call_max2 hc) (cr_max hc)
theorem k_max : CallK K (fun xs H Q => (∃ i j, xs = [.int i, .int j] ∧ Q (.int (if j > i then j else i)) H) ∨ rMax K xs H Q) bMax := by
  intro W σ ι H S vs ds Q s rl h
  unfold bMax at h
  (try unfold ifp at h); split at h
  · rename_i i j
    obtain ⟨v, u, rfl, rv, ru⟩ := RepL.two_inv rl
    refine .inl ⟨i, j, by rw [int_at rv, int_at ru], ?_⟩
    have : (if j > i then j else i) = max i j := by split <;> omega
    rw [this]
    exact h.here s _ int_rep
  · obtain ⟨v, rfl, rv⟩ := RepL.one_inv rl
    (try unfold ifp at h); split at h
    · rename_i is hi
      (try unfold ifp at h); split at h
      · exact h.elim
      · rename_i hne
        obtain ⟨p, rfl, q⟩ := lst_ints s rv hi
        obtain ⟨m1, m2⟩ := maxL_spec hne
        refine .inr ⟨p, is, rfl, q, List.length_pos_iff.mpr hne, fun m hm hle => ?_⟩
        have : m = maxL is := by have := hle _ m1; have := m2 _ hm; omega
        rw [this]
        exact h.here s _ int_rep
    · exact h.elim
  · exact h.elim
def bTuple : Fn := fun ds S => match ds with
  | [d] => (match seqOf S d with
    | some xs => .ok (.tup xs) S
    | none => .stuck)
  | _ => .stuck
theorem k_tuple : CallK K (fun xs H Q => ∃ p ys, xs = [.ref p] ∧ ((SqL K H p ys ∧ ∀ l, H l = none → Q (.ref l) (upd H l (.tup ys))) ∨ (SqT K H p ys ∧ Q (.ref p) H))) bTuple := by
  intro W σ ι H S vs ds Q s rl h
  match ds, rl, h with
  | [], rl, h => exact (show False from h).elim
  | _ :: _ :: _, rl, h => exact (show False from h).elim
  | [d], rl, h =>
    obtain ⟨v, rfl, rv⟩ := RepL.one_inv rl
    replace h : Post K W σ ι H (match seqOf S d with
      | some xs => .ok (.tup xs) S
      | none => .stuck) (fun d _ ι' H' => ∀ v, RepV K ι' H' d v → Q v H') := h
    cases d with
    | tup ys =>
      have rv' := rv
      obtain ⟨p, vs, rfl, q, rq⟩ := tup_at rv
      exact ⟨p, vs, rfl, .inr ⟨q, Post.here (a := D.tup ys) h s _ rv'⟩⟩
    | fl ys =>
      rw [RepV] at rv
      obtain ⟨a, us, rfl, t, rl'⟩ := rv
      exact ⟨a, us, rfl, .inl ⟨t.sq, new_tup h s rl'⟩⟩
    | kl ys =>
      rw [RepV] at rv
      obtain ⟨a, us, rfl, t, rl'⟩ := rv
      exact ⟨a, us, rfl, .inl ⟨t.sq, new_tup h s rl'⟩⟩
    | loc n =>
      rw [RepV] at rv
      obtain ⟨a, ea, rfl⟩ := rv
      cases hq : getQ S n with
      | none =>
        have e : seqOf S (.loc n) = none := hq
        rw [e] at h; exact h.elim
      | some ys =>
        have e : seqOf S (.loc n) = some ys := hq
        rw [e] at h
        obtain ⟨us, z, rl'⟩ := loc_at s ea hq
        exact ⟨a, us, rfl, .inl ⟨z, new_tup h s rl'⟩⟩
    | _ => exact (show False from h).elim
def bInt : Fn := fun ds S => match ds with
  | [.int i] => .ok (.int i) S
  | [.bl b] => .ok (.int (if b then 1 else 0)) S
  | _ => .stuck
theorem k_int : CallK K (fun xs H Q => (∃ i, xs = [.int i] ∧ Q (.int i) H) ∨ ∃ k, xs = [.bl k] ∧ Q (.int (if k then 1 else 0)) H) bInt := by
  intro W σ ι H S vs ds Q s rl h
  unfold bInt at h
  (try unfold ifp at h); split at h
  · obtain ⟨v, rfl, rv⟩ := RepL.one_inv rl
    exact .inl ⟨_, by rw [int_at rv], h.here s _ int_rep⟩
  · obtain ⟨v, rfl, rv⟩ := RepL.one_inv rl
    rw [RepV] at rv
    exact .inr ⟨_, by rw [rv], h.here s _ int_rep⟩
  · exact h.elim
def tyOf (S : Sto) : D → Option String
  | .non => some "NoneType"
  | .bl _ => some "bool"
  | .int _ => some "int"
  | .str _ => some "str"
  | .tup _ => some "tuple"
  | .fl _ => some "list"
  | .fd _ => some "dict"
  | .kl _ => none
  | .loc n => (match S[n]? with
    | some (.lst _) => some "list"
    | some (.dct _) => some "dict"
    | _ => none)
  | .ty _ => none
  | .fn _ => none
  | .exc _ _ => none
theorem ty_at {ι : List Addr} {H : Hp} {S : Sto} {d : D} {v : V} {t : String} (s : Sim K ι H S) (r : RepV K ι H d v) (e : tyOf S d = some t) : TyX K H v (.type t) := by
  cases d with
  | non => rw [RepV] at r; cases e; subst r; exact .base .non
  | bl b => rw [RepV] at r; cases e; subst r; exact .base (.bl b)
  | int b => rw [RepV] at r; cases e; subst r; exact .base (.int b)
  | str b => rw [RepV] at r; cases e; subst r; exact .base (.str b)
  | tup ds =>
    cases e
    rw [RepV] at r
    obtain ⟨a, vs, rfl, tt, rl⟩ := r
    rcases tt with tt | tt | ⟨o, its, n, h1, h2, _⟩
    · exact .base (.tup tt.2)
    · exact (no_rd tt).elim
    · exact .kTuple h1 h2
  | fl ds =>
    cases e
    rw [RepV] at r
    obtain ⟨a, vs, rfl, tt, rl⟩ := r
    exact .base (.lst tt.2)
  | fd ds =>
    cases e
    rw [RepV] at r
    obtain ⟨a, vs, rfl, tt, h1, rl⟩ := r
    exact .base (.dK h1)
  | loc n =>
    rw [RepV] at r
    obtain ⟨a, ea, rfl⟩ := r
    have e : (match S[n]? with
      | some (.lst _) => some "list"
      | some (.dct _) => some "dict"
      | _ => none) = some t := e
    (try unfold ifp at e); split at e
    · rename_i q
      cases e
      obtain ⟨vs, h1, _⟩ := s.ob _ _ _ ea q
      exact .base (.lst h1)
    · rename_i q
      cases e
      obtain ⟨vs, h1, _⟩ := s.ob _ _ _ ea q
      exact .base (.dK h1)
    · cases e
  | ty b => cases e
  | kl b => cases e
  | fn b => cases e
  | exc c b => cases e
def bIsi : Fn := fun ds S => match ds with
  | [d, .ty c] => (match tyOf S d with
    | some t => (match kitB t c with
      | some b => .ok (.bl b) S
      | none => .stuck)
    | none => .stuck)
  | _ => .stuck
theorem k_isi : CallK K (rIsi K) bIsi := by
  intro W σ ι H S vs ds Q s rl h
  unfold bIsi at h
  (try unfold ifp at h); split at h
  · obtain ⟨v, u, rfl, rv, ru⟩ := RepL.two_inv rl
    rw [RepV] at ru
    (try unfold ifp at h); split at h
    · rename_i t ht
      (try unfold ifp at h); split at h
      · rename_i b hb
        refine ⟨v, u, .type t, .type _, b, rfl, ?_, ty_at s rv ht, kit_ty hb, h.here s _ bl_rep⟩
        subst ru
        exact .ty _
      · exact h.elim
    · exact h.elim
  · exact h.elim
end
section
variable {X : Cx} {W : WX} {pos : Pos} {a b c : Expr}
def eNeg (f : Ev → Sto → R D) : Ev → Sto → R D := fun ρ S => (f ρ S).bind fun d S1 => (iOf d S1).bind fun i S2 => .ok (.int (-i)) S2
theorem de_neg {f : Ev → Sto → R D} (ha : DE X W a f) : DE X W (.UnaryOp .USub a pos) (eNeg f) := by
  refine PE.imp (pe_un un_neg ha) fun σ H Q ⟨ι, ρ, S, hE, hS, h⟩ => ⟨ι, ρ, S, hE, hS, (Post.bind h).mono fun d S1 ι1 H1 G1 s1 h1 v rv => ?_⟩
  cases d with
  | int i => exact ⟨i, int_at rv, Post.here (a := D.int (-i)) h1 s1 _ int_rep⟩
  | _ => exact (show False from h1).elim
def eChain (o o' : D → D → Sto → R D) (f g h : Ev → Sto → R D) : Ev → Sto → R D := fun ρ S => (f ρ S).bind fun x S1 => (g ρ S1).bind fun y S2 => (o x y S2).bind fun z S3 => (bOf z S3).bind fun k S4 => if k = true then (h ρ S4).bind fun w S5 => o' y w S5 else .ok (.bl false) S4
theorem chain_read {r r' : R2} {o o' : D → D → Sto → R D} {f g h : Ev → Sto → R D} (k : OpK X.K r o) (k' : OpK X.K r' o') : ∀ σ H Q, rdE X.K W (eChain o o' f g h) σ H Q → tChain r r' (rdE X.K W f) (rdE X.K W g) (rdE X.K W h) σ H Q := fun σ H Q ⟨ι, ρ, S, hE, hS, q⟩ => by
  refine ⟨ι, ρ, S, hE, hS, (Post.bind q).mono fun x S1 ι1 H1 G1 s1 h1 vx rx => ?_⟩
  refine ⟨ι1, ρ, S1, hE.grow G1, s1, (Post.bind h1).mono fun y S2 ι2 H2 G2 s2 h2 vy ry => ?_⟩
  refine k W σ ι2 H2 S2 vx vy x y _ s2 (RepV.grow G2 _ _ rx) ry ((Post.bind h2).mono fun z S3 ι3 H3 G3 s3 h3 vz rz => ?_)
  obtain ⟨b, e, h4⟩ := bOf_bind h3 s3 rz
  refine ⟨b, e, ?_⟩
  have hE3 := ((hE.grow G1).grow G2).grow G3
  cases b with
  | false => rw [if_neg (by decide)] at h4 ⊢; exact h4.here s3 _ bl_rep
  | true =>
    rw [if_pos rfl] at h4 ⊢
    refine ⟨ι3, ρ, S3, hE3, s3, (Post.bind h4).mono fun w S4 ι4 H4 G4 s4 h5 vw rw' => ?_⟩
    exact k' W σ ι4 H4 S4 vy vw y w Q s4 (RepV.grow G4 _ _ (RepV.grow G3 _ _ ry)) rw' h5
theorem dt_chain {op op' : CmpOp} {r r' : R2} {o o' : D → D → Sto → R D} {f g h : Ev → Sto → R D} (ho : OpR X (compareOp op) r) (k : OpK X.K r o) (ho' : OpR X (compareOp op') r') (k' : OpK X.K r' o') (ha : DE X W a f) (hb : DE X W b g) (hc : DE X W c h)
    (hm : lastMarks [op, op'] [b, c] = false := by with_unfolding_all rfl) : DT X W (.Compare a [op, op'] [b, c] pos) (eT (eChain o o' f g h)) := dt_of_test (pt_chain ho ho' ha hb hc hm) (chain_read k k')
end
end DL
namespace DL
open PySem PySem.Spec L2
open PyProof.Rows hiding St
abbrev Mt := D → List D → Sto → R D
def MtK (K : PySem.W.Frag) (r : V → List V → Hp → VK → Prop) (m : Mt) : Prop := ∀ (W : WX) (σ : St) (ι : List Addr) (H : Hp) (S : Sto) (x : V) (vs : List V) (a : D) (ds : List D) (Q : VK), Sim K ι H S → RepV K ι H a x → RepL K ι H ds vs →
  Post K W σ ι H (m a ds S) (fun d _ ι' H' => ∀ v, RepV K ι' H' d v → Q v H') → r x vs H Q
def isLst (S : Sto) (d : D) : Bool := (lstOf S d).isSome
def eMt (c : Sto → D → Bool) (m : Mt) (f : Ev → Sto → R D) (g : Ev → Sto → R (List D)) : Ev → Sto → R D := fun ρ S => (f ρ S).bind fun a S1 => if c S1 a = true then (g ρ S1).bind fun ds S2 => m a ds S2 else .stuck
def isStr (_ : Sto) (d : D) : Bool := match d with
  | .str _ => true
  | _ => false
def ChkOk (T : String) (c : Sto → D → Bool) : Prop := ∀ (K : PySem.W.Frag) (ι : List Addr) (H : Hp) (S : Sto) (d : D) (x : V), Sim K ι H S → RepV K ι H d x → c S d = true → tyV K T x H
theorem chk_lst : ChkOk "list" isLst := fun K ι H S d x s r h => by
  unfold isLst at h
  cases e : lstOf S d with
  | none => rw [e] at h; cases h
  | some ds =>
    obtain ⟨p, vs, rfl, q, _⟩ := lst_at s r e
    exact .inl ⟨rfl, vs, SqL.of q⟩
theorem chk_str : ChkOk "str" isStr := fun K ι H S d x s r h => by
  cases d with
  | str z => rw [str_at r]; rfl
  | _ => cases h
section
variable {X : Cx} {W : WX} {o e : Expr} {es : List Expr} {apos cpos : Pos} {T id : String} {name : Str} {r : V → List V → Hp → VK → Prop} {c : Sto → D → Bool} {m : Mt} {f : Ev → Sto → R D} {g : Ev → Sto → R (List D)}
theorem de_bm (pa : PlainAttrs T) (slot : Slot T name id) (hty : typeOf (.builtin id) = pure (.type "method_descriptor")) (hm : MtR X id r) (k : MtK X.K r m) (hc : ChkOk T c) (ho : DE X W o f) (ha : DA X W (e :: es) g)
    (hbase : attributeBase o name X.env (eval o X.env) = eval o X.env := by rfl)
    (hfew : ((backTo cpos (starEach (e :: es) X.env)).all (fun x => !x.1) && (backToKw cpos (keywordEach [] X.env)).all (fun x => x.1.isSome)
      && decide ((e :: es).length + ([] : List Keyword).length + (if ([] : List Keyword).isEmpty then 0 else 1) < 30)) = true := by rfl)
    (hline : (apos.endLine == cpos.line) = true := by rfl) (hs : starEach (e :: es) X.env = (false, eval e X.env) :: starEach es X.env := by rfl)
    (hplain : (backTo cpos (starEach es X.env)).any (·.1) = false := by rfl) : DE X W (.Call (.Attribute o name apos) (e :: es) [] cpos) (eMt c m f g) := by
  refine PE.imp (pe_bm pa slot hty hm ho ha hbase hfew hline hs hplain) fun σ H Q ⟨ι, ρ, S, hE, hS, h⟩ => ⟨ι, ρ, S, hE, hS, (Post.bind h).mono fun a S1 ι1 H1 G1 s1 h1 x rx => ?_⟩
  (try unfold ifp at h1); split at h1
  · rename_i hh
    refine ⟨hc _ _ _ _ _ _ s1 rx hh, ι1, ρ, S1, hE.grow G1, s1, (Post.bind h1).mono fun ds S2 ι2 H2 G2 s2 h2 vs rs => ?_⟩
    exact k W σ ι2 H2 S2 x vs a ds Q s2 (RepV.grow G2 _ _ rx) rs h2
  · exact h1.elim
theorem de_bm0 (pa : PlainAttrs T) (slot : Slot T name id) (hty : typeOf (.builtin id) = pure (.type "method_descriptor")) (hm : MtR X id r) (k : MtK X.K r m) (hc : ChkOk T c) (ho : DE X W o f)
    (hbase : attributeBase o name X.env (eval o X.env) = eval o X.env := by rfl) (hline : (apos.endLine == cpos.line) = true := by rfl) : DE X W (.Call (.Attribute o name apos) [] [] cpos) (eMt c m f aNil) := by
  refine PE.imp (pe_bm0 pa slot hty hm ho hbase hline) fun σ H Q ⟨ι, ρ, S, hE, hS, h⟩ => ⟨ι, ρ, S, hE, hS, (Post.bind h).mono fun a S1 ι1 H1 G1 s1 h1 x rx => ?_⟩
  (try unfold ifp at h1); split at h1
  · rename_i hh
    refine ⟨hc _ _ _ _ _ _ s1 rx hh, ?_⟩
    exact k W σ ι1 H1 S1 x [] a [] Q s1 rx RepL.nil h1
  · exact h1.elim
end
section
variable {X : Cx} {K : PySem.W.Frag}
noncomputable def mAppend : Mt := fun o ds S => match o, ds with
  | .loc n, [y] => (match getL S n with
    | some xs => ifp (xs.length < sizeLine) (.ok .non (S.set n (.lst (xs ++ [y])))) .stuck
    | none => .stuck)
  | _, _ => .stuck
/-- a list of the store is changed -/
theorem loc_put {W : WX} {σ : St} {ι : List Addr} {H : Hp} {S : Sto} {n : Nat} {a : Addr} {xs : List D} {ys : List D} {us : List V} {d : D} {Q : VK} {v : V} (h : Post K W σ ι H (.ok d (S.set n (.lst ys))) fun d _ ι' H' => ∀ v, RepV K ι' H' d v → Q v H') (s : Sim K ι H S) (ea : ι[n]? = some a)
    (rl : RepL K ι H ys us) (rv : RepV K ι H d v) : Q v (upd H a (.lst us)) :=
  have G := Grow.put (H := H) (o := .lst us) (List.mem_of_getElem? ea)
  h ι _ G (s.put (b := .lst ys) ea ⟨us, upd_same, RepL.grow G _ _ rl⟩) v (RepV.grow G _ _ rv)
theorem k_append : MtK K rAppend mAppend := by
  intro W σ ι H S x vs a ds Q s rx rl h
  unfold mAppend at h
  (try unfold ifp at h); split at h
  · (try unfold ifp at h); split at h
    · rename_i xs hL
      (try unfold ifp at h); split at h
      · rename_i hz
        obtain ⟨y, rfl, ry⟩ := RepL.one_inv rl
        rw [RepV] at rx
        obtain ⟨p, ea, rfl⟩ := rx
        obtain ⟨us, h1, h2⟩ := s.ob _ _ _ ea (getL_some hL)
        exact ⟨p, us, y, rfl, rfl, h1, by rw [← RepL.length _ _ h2]; exact hz, loc_put (xs := xs) h s ea (RepL.app _ _ h2 _ _ (RepL.one ry)) non_rep⟩
      · exact h.elim
    · exact h.elim
  · exact h.elim
def mPop : Mt := fun o ds S => match o, ds with
  | .loc n, [] => (match getL S n with
    | some xs => (match xs[xs.length - 1]? with
      | some y => .ok y (S.set n (.lst xs.dropLast))
      | none => .stuck)
    | none => .stuck)
  | _, _ => .stuck
theorem RepL.dropLast {ι : List Addr} {H : Hp} {ds : List D} {vs : List V} (h : RepL K ι H ds vs) : RepL K ι H ds.dropLast vs.dropLast := by
  rw [List.dropLast_eq_take, List.dropLast_eq_take, ← RepL.length _ _ h]
  exact RepL.take _ _ _ h
theorem k_pop : MtK K rPop mPop := by
  intro W σ ι H S x vs a ds Q s rx rl h
  unfold mPop at h
  (try unfold ifp at h); split at h
  · (try unfold ifp at h); split at h
    · rename_i xs hL
      (try unfold ifp at h); split at h
      · rename_i y hy
        have := rl
        rw [RepL] at this
        subst this
        rw [RepV] at rx
        obtain ⟨p, ea, rfl⟩ := rx
        obtain ⟨us, h1, h2⟩ := s.ob _ _ _ ea (getL_some hL)
        obtain ⟨v, hv, rv⟩ := RepL.get _ _ h2 _ _ hy
        rw [RepL.length _ _ h2] at hv
        exact ⟨p, us, v, rfl, rfl, h1, hv, loc_put (xs := xs) h s ea h2.dropLast rv⟩
      · exact h.elim
    · exact h.elim
  · exact h.elim
noncomputable def mPopAt : Mt := fun o ds S => match o, ds with
  | .loc n, [.int i] => (match getL S n with
    | some xs => ifp (-(2 ^ 63) ≤ i ∧ i < 2 ^ 63) (match seqIndex? i xs.length with
        | some k => (match xs[k]? with
          | some y => .ok y (S.set n (.lst (xs.eraseIdx k)))
          | none => .stuck)
        | none => .stuck) .stuck
    | none => .stuck)
  | _, _ => .stuck
theorem RepL.erase {ι : List Addr} {H : Hp} : ∀ (ds : List D) (vs : List V) (k : Nat), RepL K ι H ds vs → RepL K ι H (ds.eraseIdx k) (vs.eraseIdx k)
  | [], _, k, h => by rw [RepL] at h; subst h; simp [RepL]
  | d :: ds, _, 0, h => by
    rw [RepL] at h
    obtain ⟨v, r, rfl, a, b⟩ := h
    exact b
  | d :: ds, _, k + 1, h => by
    rw [RepL] at h
    obtain ⟨v, r, rfl, a, b⟩ := h
    exact RepL.cons a (RepL.erase ds r k b)
theorem k_popAt : MtK K rPopAt mPopAt := by
  intro W σ ι H S x vs a ds Q s rx rl h
  unfold mPopAt at h
  (try unfold ifp at h); split at h
  · rename_i n i
    (try unfold ifp at h); split at h
    · rename_i xs hL
      (try unfold ifp at h); split at h
      · rename_i hi
        (try unfold ifp at h); split at h
        · rename_i k hk
          (try unfold ifp at h); split at h
          · rename_i y hy
            obtain ⟨u, rfl, ru⟩ := RepL.one_inv rl
            rw [RepV] at rx
            obtain ⟨p, ea, rfl⟩ := rx
            obtain ⟨us, h1, h2⟩ := s.ob _ _ _ ea (getL_some hL)
            obtain ⟨v, hv, rv⟩ := RepL.get _ _ h2 _ _ hy
            refine ⟨p, us, i, k, v, rfl, by rw [int_at ru], h1, hi.1, hi.2, by rw [← RepL.length _ _ h2]; exact hk, hv, loc_put (xs := xs) h s ea (RepL.erase _ _ _ h2) rv⟩
          · exact h.elim
        · exact h.elim
      · exact h.elim
    · exact h.elim
  · exact h.elim
end
section
variable {X : Cx} {pins : List (Addr × Obj)} {σ : St} {ι : List Addr} {H : Hp} {s : Shared}
theorem no_sys (I : Inv X pins σ H s) (hb : ∃ o, X.base.get? sysModules = some o) {a : Addr} {u : HO} (e : H a = some u) : sysModules ≠ a := by
  rintro rfl
  obtain ⟨o, h⟩ := hb
  have := (I.bs _ _ h).2
  rw [this] at e; cases e
theorem pairs_reads {P : Program} {w : World} {h : Heap} : ∀ (kvs : List (Key × V)) (vs : List (Key × Value)) (es : List DictEntry), KV kvs vs → Pairs (mixKind P w) es vs → ∃ ks, ks = es.map (·.key) ∧ ReadsAll h ks (kvs.map fun q => keyPy q.1) [] ∧ Vals (kvs.map (·.2)) (es.map (·.val))
  | [], _, _, .nil, .nil => ⟨_, rfl, .nil, .nil⟩
  | (k, x) :: kvs, _, _, .cons r rs, .cons (e := e) h1 h2 h3 => by
    obtain ⟨ks, rfl, h4, h5⟩ := pairs_reads (h := h) kvs _ _ rs h3
    obtain ⟨r1, r2⟩ := r
    refine ⟨_, rfl, ?_, .cons (show L2.RelV x e.val by rw [h2]; exact r2) h5⟩
    rw [← r1] at h1
    rcases keyIs_shape h1 with ⟨i, t, e1, e2⟩ | ⟨z, t, e1, e2⟩
    · cases e1
      show ReadsAll h (e.key :: _) (PyData.int i :: _) ([] ++ [])
      rw [e2]
      exact .cons (Reads.int i t) h4
    · cases e1
      show ReadsAll h (e.key :: _) (PyData.str z :: _) ([] ++ [])
      rw [e2]
      exact .cons (Reads.str z t) h4
theorem repK_fst {K : PySem.W.Frag} : ∀ (kvs : List (Key × D)) (ks : List (Key × V)), RepK K ι H kvs ks → ks.map (fun q => keyPy q.1) = kvs.map (fun q => keyPy q.1) ∧ RepL K ι H (kvs.map (·.2)) (ks.map (·.2))
  | [], _, h => by rw [RepK] at h; subst h; exact ⟨rfl, RepL.nil⟩
  | (k, d) :: kvs, _, h => by
    rw [RepK] at h
    obtain ⟨v, r, rfl, a, b⟩ := h
    obtain ⟨h1, h2⟩ := repK_fst kvs r b
    exact ⟨by simp [h1], RepL.cons a h2⟩
theorem pyK_split : ∀ (kvs : List (Key × D)) (ps : List (PyData × PyData)), pyK kvs = some ps → ps.map (·.1) = kvs.map (fun q => keyPy q.1) ∧ pyL (kvs.map (·.2)) = some (ps.map (·.2))
  | [], ps, h => by rw [pyK] at h; cases h; exact ⟨rfl, rfl⟩
  | (k, d) :: kvs, ps, h => by
    rw [pyK] at h
    cases h1 : py d with
    | none => rw [h1] at h; cases h
    | some p =>
      rw [h1] at h
      cases h2 : pyK kvs with
      | none => rw [h2] at h; cases h
      | some qs =>
        rw [h2] at h; cases h
        obtain ⟨a, b⟩ := pyK_split kvs qs h2
        refine ⟨by simp [a], ?_⟩
        show pyL (d :: kvs.map (·.2)) = _
        rw [pyL, h1, b]; rfl
mutual
theorem py_reads (I : Inv X pins σ H s) (hb : ∃ o, X.base.get? sysModules = some o) : ∀ (d : D) (v : V) (u : Value) (p : PyData), RepV X.K ι H d v → RelV v u → py d = some p → ∃ as, Reads s.heap u p as ∧ sysModules ∉ as
  | .non, v, u, p, r, q, e => by rw [RepV] at r; rw [py] at e; cases e; subst r; cases q; exact ⟨_, .none, by simp⟩
  | .bl b, v, u, p, r, q, e => by rw [RepV] at r; rw [py] at e; cases e; subst r; cases q; exact ⟨_, .bool b, by simp⟩
  | .int i, v, u, p, r, q, e => by rw [RepV] at r; rw [py] at e; cases e; subst r; obtain ⟨t, rfl⟩ := q; exact ⟨_, .int i t, by simp⟩
  | .str x, v, u, p, r, q, e => by rw [RepV] at r; rw [py] at e; cases e; subst r; obtain ⟨t, rfl⟩ := q; exact ⟨_, .str x t, by simp⟩
  | .tup ds, v, u, p, r, q, e => by
    rw [RepV] at r
    obtain ⟨a, vs, rfl, t, rl⟩ := r
    cases q
    rw [py] at e
    cases h : pyL ds with
    | none => rw [h] at e; cases e
    | some ps =>
      rw [h] at e; cases e
      obtain ⟨its, rv, ⟨o, ho, hc, n, hd⟩, _⟩ := I.tuple t.sq
      obtain ⟨as, h1, h2⟩ := pyL_reads I hb ds vs its ps rl rv h
      exact ⟨as, .tuple ho hc hd h1, h2⟩
  | .fl ds, v, u, p, r, q, e => by
    rw [RepV] at r
    obtain ⟨a, vs, rfl, t, rl⟩ := r
    cases q
    rw [py] at e
    cases h : pyL ds with
    | none => rw [h] at e; cases e
    | some ps =>
      rw [h] at e; cases e
      obtain ⟨its, rv, ⟨o, n, ho, hc, _, hd⟩, _⟩ := I.list t.sq
      obtain ⟨as, h1, h2⟩ := pyL_reads I hb ds vs its ps rl rv h
      exact ⟨a :: as, .list ho hc hd h1, by simp [h2, no_sys I hb t.2]⟩
  | .fd kvs, v, u, p, r, q, e => by
    rw [RepV] at r
    obtain ⟨a, ks, rfl, na, ha, rk⟩ := r
    cases q
    rw [py] at e
    cases h : pyK kvs with
    | none => rw [h] at e; cases e
    | some ps =>
      rw [h] at e; cases e
      obtain ⟨_, _, vs, kv, o, es, ep, ho, hx, hd, _, hp, _⟩ := I.hok a _ ha
      obtain ⟨e1, rl⟩ := repK_fst kvs ks rk
      obtain ⟨e2, e3⟩ := pyK_split kvs ps h
      obtain ⟨_, rfl, h4, h5⟩ := pairs_reads (h := s.heap) ks vs es.toList kv hp
      obtain ⟨as, h6, h7⟩ := pyLK_reads I hb kvs _ _ (ps.map (·.2)) rl h5 e3
      refine ⟨a :: [] ++ as, .dict ho hx.1 hd (by rw [e2, ← e1]; exact h4) h6, ?_⟩
      simp [h7, no_sys I hb ha]
  | .ty _, v, u, p, r, q, e => by rw [py] at e; cases e
  | .kl _, v, u, p, r, q, e => by rw [py] at e; cases e
  | .fn _, v, u, p, r, q, e => by rw [py] at e; cases e
  | .exc _ _, v, u, p, r, q, e => by rw [py] at e; cases e
  | .loc _, v, u, p, r, q, e => by rw [py] at e; cases e
theorem pyL_reads (I : Inv X pins σ H s) (hb : ∃ o, X.base.get? sysModules = some o) : ∀ (ds : List D) (vs : List V) (us : List Value) (ps : List PyData), RepL X.K ι H ds vs → Vals vs us → pyL ds = some ps → ∃ as, ReadsAll s.heap us ps as ∧ sysModules ∉ as
  | [], vs, us, ps, r, q, e => by rw [RepL] at r; rw [pyL] at e; cases e; subst r; cases q; exact ⟨_, .nil, by simp⟩
  | d :: ds, vs, us, ps, r, q, e => by
    rw [RepL] at r
    obtain ⟨v, ws, rfl, a, b⟩ := r
    rw [pyL] at e
    cases h : py d with
    | none => rw [h] at e; cases e
    | some p =>
      rw [h] at e
      cases h2 : pyL ds with
      | none => rw [h2] at e; cases e
      | some qs =>
        rw [h2] at e; cases e
        cases q with
        | cons q1 q2 =>
          obtain ⟨as, r1, n1⟩ := py_reads I hb d v _ p a q1 h
          obtain ⟨bs, r2, n2⟩ := pyL_reads I hb ds ws _ qs b q2 h2
          exact ⟨as ++ bs, .cons r1 r2, by simp [n1, n2]⟩
theorem pyLK_reads (I : Inv X pins σ H s) (hb : ∃ o, X.base.get? sysModules = some o) : ∀ (ds : List (Key × D)) (vs : List V) (us : List Value) (ps : List PyData), RepL X.K ι H (ds.map (·.2)) vs → Vals vs us → pyL (ds.map (·.2)) = some ps → ∃ as, ReadsAll s.heap us ps as ∧ sysModules ∉ as
  | [], vs, us, ps, r, q, e => by
    have r : RepL X.K ι H [] vs := r
    have e : pyL [] = some ps := e
    rw [RepL] at r; rw [pyL] at e; cases e; subst r; cases q; exact ⟨_, .nil, by simp⟩
  | (k, d) :: ds, vs, us, ps, r, q, e => by
    have r : RepL X.K ι H (d :: ds.map (·.2)) vs := r
    have e : pyL (d :: ds.map (·.2)) = some ps := e
    rw [RepL] at r
    obtain ⟨v, ws, rfl, a, b⟩ := r
    rw [pyL] at e
    cases h : py d with
    | none => rw [h] at e; cases e
    | some p =>
      rw [h] at e
      cases h2 : pyL (ds.map (·.2)) with
      | none => rw [h2] at e; cases e
      | some qs =>
        rw [h2] at e; cases e
        cases q with
        | cons q1 q2 =>
          obtain ⟨as, r1, n1⟩ := py_reads I hb d v _ p a q1 h
          obtain ⟨bs, r2, n2⟩ := pyLK_reads I hb ds ws _ qs b q2 h2
          exact ⟨as ++ bs, .cons r1 r2, by simp [n1, n2]⟩
end
theorem pyS_reads {S : Sto} (I : Inv X pins σ H s) (hb : ∃ o, X.base.get? sysModules = some o) (sm : Sim X.K ι H S) {d : D} {v : V} {u : Value} {p : PyData} (r : RepV X.K ι H d v) (q : RelV v u) (e : pyS S d = some p) : ∃ as, Reads s.heap u p as ∧ sysModules ∉ as := by
  cases d with
  | loc m =>
    have e : (getQ S m).bind (fun ds => (pyL ds).map .list) = some p := e
    cases h : getQ S m with
    | none => rw [h] at e; cases e
    | some ds =>
      rw [h] at e
      have e : (pyL ds).map PyData.list = some p := e
      cases h2 : pyL ds with
      | none => rw [h2] at e; cases e
      | some ps =>
        rw [h2] at e; cases e
        rw [RepV] at r
        obtain ⟨a, ea, rfl⟩ := r
        cases q
        obtain ⟨vs, h3, h4⟩ := loc_at sm ea h
        obtain ⟨w, hw⟩ := sm.there (List.mem_of_getElem? ea)
        obtain ⟨its, rv, ⟨o, n, ho, hc, _, hd⟩, _⟩ := I.list h3
        obtain ⟨as, h5, h6⟩ := pyL_reads I hb ds vs its ps h4 rv h2
        exact ⟨a :: as, .list ho hc hd h5, by simp [h6, no_sys I hb hw]⟩
  | _ => exact py_reads I hb _ v u p r q e
end
def showOk (p : PyData) : Prop := p.showable = true ∧ p.shown.length ≤ sizeLine ∧ p.depth ≤ 60
open Classical in
noncomputable def bRepr : Fn := fun ds S => match ds with
  | [d] => (match pyS S d with
    | some p => if showOk p then .ok (.str p.shown) S else .stuck
    | none => .stuck)
  | _ => .stuck
def rRepr (K : PySem.W.Frag) : List V → Hp → VK → Prop := fun xs H Q => ∃ ι S d x p, xs = [x] ∧ Sim K ι H S ∧ RepV K ι H d x ∧ pyS S d = some p ∧ showOk p ∧ Q (.str p.shown) H
theorem c_repr {X : Cx} {k : Nat} (hr : Room k X.A) (hg : X.A.guards = some []) (hb : ∃ o, X.base.get? sysModules = some o) : CallR X (.builtin "repr") (rRepr X.K) := by
  intro pins s σ H xs us Q I rv h
  obtain ⟨ι, S, d, x, p, rfl, sm, r, e, ⟨h1, h2, h3⟩, q⟩ := h
  cases rv with
  | cons r1 r2 =>
    cases r2
    rename_i u
    obtain ⟨as, rd, na⟩ := pyS_reads I hb sm r r1 e
    show wpAny _ _ (call (.builtin "repr") [u]) _ _ _
    have hu := hr.units
    have fin : ∀ (h' : Heap) (t : Tok) (tk : Nat), (∀ b o, s.heap.get? b = some o → h'.get? b = some o) → EP X pins σ Q (.str p.shown t) { s with heap := h', toks := tk } := fun h' t tk hk => ⟨.str p.shown, H, I.kept hk, ⟨_, rfl⟩, q⟩
    cases rd with
    | none => exact P.repr_of_none (fin _ _ _ fun _ _ e => e)
    | bool b => exact P.repr_of_bool (fin _ _ _ fun _ _ e => e)
    | int i t => exact P.repr_of_int (by simpa [PyData.showable] using h1) (fin _ _ _ fun _ _ e => e)
    | str z t => exact P.repr_of_str (fin _ _ _ fun _ _ e => e) h2
    | list a1 a2 a3 a4 => exact repr_of_reads' (.list a1 a2 a3 a4) h1 (fun _ => na) hg (by omega) (fun _ _ e => e) (fun h' t tk hk => fin h' t tk hk) h2
    | tuple a1 a2 a3 a4 => exact repr_of_reads' (.tuple a1 a2 a3 a4) h1 (fun _ => na) hg (by omega) (fun _ _ e => e) (fun h' t tk hk => fin h' t tk hk) h2
    | dict a1 a2 a3 a4 a5 => exact repr_of_reads' (.dict a1 a2 a3 a4 a5) h1 (fun _ => na) hg (by omega) (fun _ _ e => e) (fun h' t tk hk => fin h' t tk hk) h2
theorem k_repr {K : PySem.W.Frag} : CallK K (rRepr K) bRepr := by
  intro W σ ι H S vs ds Q s rl h
  unfold bRepr at h
  (try unfold ifp at h); split at h
  · obtain ⟨v, rfl, rv⟩ := RepL.one_inv rl
    (try unfold ifp at h); split at h
    · rename_i p hp
      (try unfold ifp at h); split at h
      · rename_i hs
        exact ⟨ι, S, _, v, p, rfl, s, rv, hp, hs, h.here s _ str_rep⟩
      · exact h.elim
    · exact h.elim
  · exact h.elim
/-- the name of a built-in class as a value -/
theorem de_bty {X : Cx} {W : WX} {x : Str} {T : String} {pos : Pos} (hm : X.mg x = none) (hv : bootBuiltins x = some (.type T)) (hg : Gl X x := by rfl) (hn : x ≠ "__name__" := by decide) (hd : (x == ("__debug__" : Str)) = false := by decide) : DE X W (.Name x pos) (eC (.ty T)) :=
  de_c (pe_bltn (v := .ty T) hg hm hv rfl hn hd) fun _ _ => by rw [RepV]
end DL
namespace DL
open PySem PySem.Spec L2
open PyProof.Rows hiding St
/-- what a law's function must give -/
def LawOk (F : Fn) : Prop := ∀ ns : List Int, ns.length ≤ 63 → (∀ z ∈ ns, Builtin.Int.intBits z ≤ 1048576) → ∃ S', F [.kl (ns.map D.int)] [] = .ok (.bl true) S'
theorem repL_ints {K : PySem.W.Frag} {ι : List Addr} {H : Hp} (ns : List Int) : RepL K ι H (ns.map D.int) (ns.map V.int) := by
  induction ns with
  | nil => exact RepL.nil
  | cons n ns ih => exact RepL.cons int_rep ih
theorem law_run {P : Program} {w : World} {K : PySem.W.Frag} {mg mb : Str → Option Value} {k : Nat} {fa a : Addr} {F : Fn} {s₁ : Shared} {vs : List Value} {ns : List Int}
    (KX : K.In s₁.heap) (hns : s₁.heap.Ns mainGlobals mg) (hb : s₁.heap.Ns builtinsNs mb) (hbb : ∀ x : Str, x ≠ "__name__" → mb x = bootBuiltins x) (hlim : s₁.heap.NoLimit) (hsy : s₁.heap.NoSeer) (hg : s₁.gens = #[])
    (ha : s₁.heap.get? a = some { cls := .type "list", data := .seq vs.toArray }) (hi : IntsAre vs ns) (hl : ns.length ≤ 63) (hbit : ∀ z ∈ ns, Builtin.Int.intBits z ≤ 1048576) (hr : Room k callerA)
    (hF : ∀ base : Heap, K.In base → base.Ns mainGlobals mg → (∃ o, base.get? sysModules = some o) → FnD true P w K mg base k fa F) (hlaw : LawOk F) :
    codeAny (model P w) callerA (.call (.ref fa) ⟨[.ref a], []⟩) (fun r s' => r = .ok (.ret (.bool true)) ∧ OldK s₁.heap s'.heap ∧ s'.os = s₁.os ∧ AllBare s'.gens) s₁ := by
  have rvs := vals_ints hi
  have hz : ns.length ≤ sizeLine := Nat.le_trans hl (by decide)
  have hlv := hi.length
  have go : ∀ H : Hp, (∀ b u, H b = some u → b = a ∧ K.lookup a = none ∧ ∃ o, u = .frz o (.lst (ns.map V.int))) → KlAt K [] H a (ns.map V.int) → HOk P w H s₁.heap →
      codeAny (model P w) callerA (.call (.ref fa) ⟨[.ref a], []⟩) (fun r s' => r = .ok (.ret (.bool true)) ∧ OldK s₁.heap s'.heap ∧ s'.os = s₁.os ∧ AllBare s'.gens) s₁ := by
    intro H only kl hok
    have free : ∀ {b : Addr} {o : Obj}, s₁.heap.get? b = some o → (b = a → K.lookup a ≠ none ∨ ∃ es ep, o.data = .dict es ep) → H b = none := by
      intro b o e1 e2
      cases q : H b with
      | none => rfl
      | some u =>
        obtain ⟨rfl, n1, _⟩ := only b u q
        rcases e2 rfl with z | ⟨es, ep, z⟩
        · exact absurd n1 z
        · rw [ha] at e1; cases e1; cases z
    have nsb : ∀ {b : Addr} {m : Str → Option Value}, s₁.heap.Ns b m → (hidT s₁.heap H).Ns b m := by
      rintro b m ⟨o, es, ep, e1, e2, r⟩
      exact ⟨o, es, ep, hidT_get e1 (free e1 fun _ => .inr ⟨es, ep, e2⟩), e2, r⟩
    have kin : K.In (hidT s₁.heap H) := fun b o e => hidT_get (KX b o e) (free (KX b o e) fun z => .inl (by rw [← z, e]; simp))
    have hsys : ∃ o, (hidT s₁.heap H).get? sysModules = some o := by
      obtain ⟨mm, ⟨o, es, ep, e1, e2, r⟩, _⟩ := hsy.mods
      exact ⟨o, hidT_get e1 (free e1 fun _ => .inr ⟨es, ep, e2⟩)⟩
    have md : Mod K mg (hidT s₁.heap H) := ⟨kin, nsb hns, ⟨mb, nsb hb, hbb⟩, let ⟨mc, h1, h2⟩ := hlim; ⟨mc, nsb h1, h2⟩⟩
    have e0 : Env0 P w K mg (hidT s₁.heap H) callerA [] s₁ H :=
      { frames := rfl, mod := md, bs := fun b o e => of_hidT e, bsz := Nat.le_of_eq (hidT_size _ _), funs := trivial
        frf := fun b z => absurd (show b ∈ ([] : List Addr) from z) (by simp), hok := hok, bare := .of_eq hg }
    obtain ⟨S', hS⟩ := hlaw ns hl hbit
    have sp : spD K F [V.ref a] H (fun v _ => v = .bl true) fun _ _ _ => False := by
      refine ⟨[], [], [.kl (ns.map D.int)], RepL.one (by rw [RepV]; exact ⟨a, _, rfl, kl, repL_ints ns⟩), ⟨List.nodup_nil, rfl, fun n a o e => by simp at e⟩, ?_⟩
      rw [hS]
      intro ι' H' v _ _ r
      rw [RepV] at r; exact r
    refine codeAny_mono (hF _ kin (nsb hns) hsys callerA [] s₁ H [.ref a] [.ref a] _ _ hr (fun _ => rfl) e0 (.cons rfl .nil) sp) fun r s' h => ?_
    cases r with
    | error e =>
      obtain ⟨_, _, _, _, _, _, _, _, _, _, _, _, z⟩ := h
      exact z.elim
    | ok fl =>
      cases fl with
      | next => exact False.elim h
      | brk => exact False.elim h
      | cont => exact False.elim h
      | ret u =>
        obtain ⟨v, H', os, bare, un, hok', r', q⟩ := h
        have q : v = .bl true := q
        subst q
        cases (show u = Value.bool true from r')
        refine ⟨rfl, OldK.of_keep fun b o e => ?_, os, bare⟩
        cases hb' : H b with
        | none => exact un.keep b o e hb' (fun z => absurd (show b ∈ ([] : List Addr) from z) (by simp)) (by simp)
        | some u =>
          obtain ⟨rfl, _, ob, rfl⟩ := only b u hb'
          have z1 := (hok b _ hb').1
          have z2 := (hok' b _ (un.frzs b ob _ hb')).1
          rw [e] at z1; cases z1
          exact z2
  cases hk : K.lookup a with
  | some o =>
    have e := KX a o hk
    rw [ha] at e; cases e
    refine go (fun _ => none) (fun b u z => by cases z) (.inr (.inr ⟨_, vs.toArray, _, hk, rfl, rfl, rfl, by rw [List.size_toArray, hlv]; exact hz, by simpa using rvs⟩)) fun b u z => by cases z
  | none =>
    refine go (upd (fun _ => none) a (.frz { cls := .type "list", data := .seq vs.toArray } (.lst (ns.map V.int)))) (fun b u z => ?_) (.inl ⟨by simp, _, upd_same⟩) fun b u z => ?_
    · by_cases hb' : b = a
      · subst hb'
        rw [upd_same] at z; cases z
        exact ⟨rfl, hk, _, rfl⟩
      · rw [upd_ne hb'] at z; cases z
    · by_cases hb' : b = a
      · subst hb'
        rw [upd_same] at z; cases z
        exact ⟨ha, by rw [List.length_map]; exact hz, vs, _, rvs, ha⟩
      · rw [upd_ne hb'] at z; cases z
theorem law_walk {l : PySem.W.OpenLaw} {k : Nat} {q : Program} {loose : List Str} {XP : (Str → Option Value) → Heap → Prop} {YP : World → Heap → Prop} {d : DefRec} {K : Params → PySem.W.Frag}
    (hn : l.most = some 63) (hdf : d.params.defaults = []) (hr : Room k callerA) (hi : importsNone q = true)
    (hY : ∀ (w : World) (h : Heap), YP w h → (K w.params).In h)
    (hF : ∀ (w : World) (mg : Str → Option Value) (fa : Addr) (h : Heap), (K w.params).In h → h.Ns mainGlobals mg → mg d.name = some (.ref fa) →
      ∃ F : Fn, LawOk F ∧ ∀ base : Heap, (K w.params).In base → base.Ns mainGlobals mg → (∃ o, base.get? sysModules = some o) → FnD true l.prog w (K w.params) mg base k fa F) :
    PySem.W.WalkO q loose XP YP l.row.toRowW d [] (fun f vs => PySem.call f vs) := by
  refine Att.attach_callB hn hdf fun w s₀ s₁ mg mb fa o pm cd doc a vs ns G Y ho hd hcd hmg hobj hints hlen hbits hg => ?_
  obtain ⟨F, hl, hF'⟩ := hF w mg fa _ (hY w _ Y) G.T.g hmg
  exact law_run (hY w _ Y) G.T.g G.T.b G.T.builtins G.T.nolimit (G.T.seer hi) hg hobj hints hlen hbits hr hF' hl
end DL
namespace DL
open PySem PySem.Spec L2
open PyProof.Rows hiding St
section
variable {K : PySem.W.Frag}
theorem k_lt : OpK K (rI0 fun i j => .bl (decide (i < j))) dLt := k_cmp
theorem k_le : OpK K (rI0 fun i j => .bl (decide (i ≤ j))) dLe := k_cmp
theorem k_gt : OpK K (rI0 fun i j => .bl (decide (j < i))) dGt := k_cmp
theorem k_ge : OpK K (rI0 fun i j => .bl (decide (j ≤ i))) dGe := k_cmp
end
def sPar3 (i j l : Nat) (g : Ev → Sto → R (List D)) : Ev → Sto → SR := fun ρ S => (g ρ S).toS ρ fun ds S1 => match ds with
  | [a, b, c] => .nx (((ρ.set i (some a)).set j (some b)).set l (some c)) S1
  | _ => .stuck
section
variable {X : Cx} {W : WX}
theorem RepL.three_inv {K : PySem.W.Frag} {ι : List Addr} {H : Hp} {d e f : D} {vs : List V} (h : RepL K ι H [d, e, f] vs) : ∃ v u w, vs = [v, u, w] ∧ RepV K ι H d v ∧ RepV K ι H e u ∧ RepV K ι H f w := by
  rw [RepL] at h
  obtain ⟨v, r, rfl, rv, rs⟩ := h
  obtain ⟨u, w, rfl, ru, rw'⟩ := RepL.two_inv rs
  exact ⟨v, u, w, rfl, rv, ru, rw'⟩
theorem ds_par3 (i j l : Nat) {x y z : Str} {a b c : Expr} {g : Ev → Sto → R (List D)} {px py pz pt pos : Pos} {kt k2 pt2} (hc : X.calm = true) (hN : X.N.Nodup) (ha : DA X W [a, b, c] g) (hij : i ≠ j := by decide) (hil : i ≠ l := by decide) (hjl : j ≠ l := by decide)
    (hi : X.N[i]? = some x := by rfl) (hj : X.N[j]? = some y := by rfl) (hl : X.N[l]? = some z := by rfl)
    (hx : X.env.scope.names.lookup x = some .local := by rfl) (hy : X.env.scope.names.lookup y = some .local := by rfl) (hz : X.env.scope.names.lookup z = some .local := by rfl)
    (hw : swappedStores [.Tuple [.Name x px, .Name y py, .Name z pz] kt pt] (.Tuple [a, b, c] k2 pt2) X.env = pure (some [x, y, z]) := by rfl)
    (hs : swapsWithSole [.Tuple [.Name x px, .Name y py, .Name z pz] kt pt] (.Tuple [a, b, c] k2 pt2) pos.line X.env = pure false := by rfl) :
    DS X W (.Assign [.Tuple [.Name x px, .Name y py, .Name z pz] kt pt] (.Tuple [a, b, c] k2 pt2) pos) (sPar3 i j l g) := by
  refine PS.imp (ps_par3 hc hN hi hj hl hij hil hjl hx hy hz ha hw hs) fun E σ H ⟨ι, ρ, S, hE, hS, h⟩ => ⟨ι, ρ, S, hE, hS, (PostS.bind h hE).mono fun ds S1 ι1 H1 G1 s1 h1 vs rs => ?_⟩
  split at h1
  · obtain ⟨u, v, w, rfl, ru, rv, rw'⟩ := RepL.three_inv rs
    exact ⟨u, v, w, rfl, h1 ι1 H1 _ (Grow.refl _ _) s1 ((((hE.grow G1).set ru i).set rv j).set rw' l)⟩
  · exact h1.elim
end
end DL
namespace DL
open PySem PySem.Spec L2
open PyProof.Rows hiding St
theorem dAdd_int (i j : Int) (S : Sto) : dAdd (.int i) (.int j) S = .ok (.int (i + j)) S := rfl
theorem dLt_int (i j : Int) (S : Sto) : dLt (.int i) (.int j) S = .ok (.bl (decide (i < j))) S := rfl
theorem dLe_int (i j : Int) (S : Sto) : dLe (.int i) (.int j) S = .ok (.bl (decide (i ≤ j))) S := rfl
theorem dGt_int (i j : Int) (S : Sto) : dGt (.int i) (.int j) S = .ok (.bl (decide (j < i))) S := rfl
theorem dGe_int (i j : Int) (S : Sto) : dGe (.int i) (.int j) S = .ok (.bl (decide (j ≤ i))) S := rfl
theorem dAddI_int (i j : Int) (S : Sto) : dAddI (.int i) (.int j) S = .ok (.int (i + j)) S := rfl
theorem dSubI_int (i j : Int) (S : Sto) : dSubI (.int i) (.int j) S = .ok (.int (i - j)) S := rfl
theorem dSub_int (i j : Int) (S : Sto) : dSub (.int i) (.int j) S = .ok (.int (i - j)) S := rfl
theorem dMod_int (i j : Int) (S : Sto) : dMod (.int i) (.int j) S = if 0 < j then .ok (.int (i % j)) S else .stuck := rfl
theorem dFdiv_int (i j : Int) (S : Sto) : dFdiv (.int i) (.int j) S = ifp (0 < j ∧ j.natAbs.log2 < 9000) (.ok (.int (i / j)) S) .stuck := rfl
theorem dPow_ok {i j : Int} (h : 0 ≤ j ∧ j ≤ 1000000 ∧ i.natAbs < 2 ^ 64) (S : Sto) : dPow (.int i) (.int j) S = .ok (.int (i ^ j.toNat)) S := ifp_pos h
theorem dIsN_non (n : Bool) (a : D) (S : Sto) : dIsN n a .non S = .ok (.bl (if n then !isN a else isN a)) S := rfl
theorem ll0 : (0 ≤ sizeLine) = True := eq_true (by decide)
theorem ll1 : (1 ≤ sizeLine) = True := eq_true (by decide)
theorem ll2 : (2 ≤ sizeLine) = True := eq_true (by decide)
theorem ll3 : (3 ≤ sizeLine) = True := eq_true (by decide)
theorem ll4 : (4 ≤ sizeLine) = True := eq_true (by decide)
theorem ll5 : (5 ≤ sizeLine) = True := eq_true (by decide)
theorem ll6 : (6 ≤ sizeLine) = True := eq_true (by decide)
theorem ll7 : (7 ≤ sizeLine) = True := eq_true (by decide)
theorem ll8 : (8 ≤ sizeLine) = True := eq_true (by decide)
theorem ll9 : (9 ≤ sizeLine) = True := eq_true (by decide)
theorem ll10 : (10 ≤ sizeLine) = True := eq_true (by decide)
theorem ll11 : (11 ≤ sizeLine) = True := eq_true (by decide)
theorem ll12 : (12 ≤ sizeLine) = True := eq_true (by decide)
theorem ll13 : (13 ≤ sizeLine) = True := eq_true (by decide)
theorem ll14 : (14 ≤ sizeLine) = True := eq_true (by decide)
theorem ll15 : (15 ≤ sizeLine) = True := eq_true (by decide)
theorem ll16 : (16 ≤ sizeLine) = True := eq_true (by decide)
theorem ll17 : (17 ≤ sizeLine) = True := eq_true (by decide)
theorem ll18 : (18 ≤ sizeLine) = True := eq_true (by decide)
theorem ll19 : (19 ≤ sizeLine) = True := eq_true (by decide)
theorem ll20 : (20 ≤ sizeLine) = True := eq_true (by decide)
theorem ll21 : (21 ≤ sizeLine) = True := eq_true (by decide)
theorem ll22 : (22 ≤ sizeLine) = True := eq_true (by decide)
theorem ll23 : (23 ≤ sizeLine) = True := eq_true (by decide)
theorem ll24 : (24 ≤ sizeLine) = True := eq_true (by decide)
theorem ll25 : (25 ≤ sizeLine) = True := eq_true (by decide)
theorem ll26 : (26 ≤ sizeLine) = True := eq_true (by decide)
theorem ll27 : (27 ≤ sizeLine) = True := eq_true (by decide)
theorem ll28 : (28 ≤ sizeLine) = True := eq_true (by decide)
theorem ll29 : (29 ≤ sizeLine) = True := eq_true (by decide)
theorem ll30 : (30 ≤ sizeLine) = True := eq_true (by decide)
theorem ll31 : (31 ≤ sizeLine) = True := eq_true (by decide)
theorem ll32 : (32 ≤ sizeLine) = True := eq_true (by decide)
theorem ll33 : (33 ≤ sizeLine) = True := eq_true (by decide)
theorem ll34 : (34 ≤ sizeLine) = True := eq_true (by decide)
theorem ll35 : (35 ≤ sizeLine) = True := eq_true (by decide)
theorem ll36 : (36 ≤ sizeLine) = True := eq_true (by decide)
theorem ll37 : (37 ≤ sizeLine) = True := eq_true (by decide)
theorem ll38 : (38 ≤ sizeLine) = True := eq_true (by decide)
theorem ll39 : (39 ≤ sizeLine) = True := eq_true (by decide)
theorem ll40 : (40 ≤ sizeLine) = True := eq_true (by decide)
theorem pyL_ints (l : List Int) : pyL (l.map D.int) = some (l.map PyData.int) := by
  induction l with
  | nil => rfl
  | cons i l ih => simp [pyL, py, ih]
theorem canLayAll_ints (l : List Int) : PyData.canLayAll0 (l.map PyData.int) = true := by
  induction l with
  | nil => rfl
  | cons i l ih => simp [PyData.canLayAll0, PyData.canLay0, ih]
theorem depthAll_ints (l : List Int) : PyData.depthAll (l.map PyData.int) = 0 := by
  induction l with
  | nil => rfl
  | cons i l ih => simp [PyData.depthAll, PyData.depth, ih]
theorem shaped_ints (l : List Int) : SeqAt.shaped (.list (l.map PyData.int)) = true := by
  simp [SeqAt.shaped, PyData.canLay0, canLayAll_ints, PyData.depth, depthAll_ints]
theorem shaped_int (i : Int) : SeqAt.shaped (.int i) = true := by
  simp [SeqAt.shaped, PyData.canLay0, PyData.depth]
theorem shaped_nilL : SeqAt.shaped (.list []) = true := by decide
theorem dEq_int (n : Bool) (i j : Int) (S : Sto) : dEq n (.int i) (.int j) S = .ok (.bl (if n then !(i == j) else i == j)) S := by
  simp [dEq, dEqP, pyS, py, shaped_int, PyData.eqv]
theorem dEqP_py {n : Bool} {a b : D} {S : Sto} {p q : PyData} (h1 : pyS S a = some p) (h2 : pyS S b = some q) (s1 : SeqAt.shaped p = true) (s2 : SeqAt.shaped q = true) : dEqP n a b S = .ok (.bl (if n then !PyData.eqv p q else PyData.eqv p q)) S := by
  unfold dEqP
  rw [h1, h2]
  show (if SeqAt.shaped p = true ∧ SeqAt.shaped q = true then _ else _) = _
  rw [if_pos ⟨s1, s2⟩]
theorem dEq_str (n : Bool) (x y : Str) (S : Sto) : dEq n (.str x) (.str y) S = .ok (.bl (if n then !decide (x = y) else decide (x = y))) S := rfl
theorem pyS_loc {S : Sto} {n : Nat} {l : List Int} (h : getQ S n = some (l.map D.int)) : pyS S (.loc n) = some (.list (l.map PyData.int)) := by
  show (getQ S n).bind (fun ds => (pyL ds).map PyData.list) = _
  rw [h]
  show (pyL (l.map D.int)).map PyData.list = _
  rw [pyL_ints]; rfl
/-- a list of ints of the store against [] -/
theorem dNe_loc_nil {S : Sto} {n : Nat} {l : List Int} (h : getQ S n = some (l.map D.int)) : dEq true (.loc n) (.fl []) S = .ok (.bl (!l.isEmpty)) S := by
  show dEqP true (.loc n) (.fl []) S = _
  rw [dEqP_py (pyS_loc h) (q := .list []) rfl (shaped_ints l) shaped_nilL]
  cases l <;> simp [PyData.eqv, PyData.eqvAll]
theorem rangeD_nat (n : Nat) : rangeD 0 n = (List.range n).map fun k => D.int (k : Nat) := by
  unfold rangeD
  congr 1
  funext k
  simp
theorem forD_nil {g : Sto → Prop} {T : Tg} {B Z : Ev → Sto → SR} {ρ : Ev} {S : Sto} (h : g S) : forD g T B Z [] ρ S = Z ρ S := by
  unfold forD; rw [if_pos h]
theorem forD_cons {g : Sto → Prop} {T : Tg} {B Z : Ev → Sto → SR} {d : D} {ds : List D} {ρ ρ1 ρ2 : Ev} {S S1 S2 : Sto} (h : g S) (hT : T d ρ S = some (ρ1, S1)) (hB : B ρ1 S1 = .nx ρ2 S2) : forD g T B Z (d :: ds) ρ S = forD g T B Z ds ρ2 S2 := by
  rw [forD, if_pos h, hT]; simp only [hB]
theorem whileD_end {c : Ev → Sto → R Bool} {B : Ev → Sto → SR} {n : Nat} {ρ : Ev} {S S1 : Sto} (hc : c ρ S = .ok false S1) : whileD c B (n + 1) ρ S = .nx ρ S1 := by
  rw [whileD, hc]; rfl
theorem whileD_next {c : Ev → Sto → R Bool} {B : Ev → Sto → SR} {n : Nat} {ρ ρ2 : Ev} {S S1 S2 : Sto} (hc : c ρ S = .ok true S1) (hB : B ρ S1 = .nx ρ2 S2) : whileD c B (n + 1) ρ S = whileD c B n ρ2 S2 := by
  rw [whileD, hc]; simp only [R.toS_ok, if_true, hB]
theorem whileD_ret {c : Ev → Sto → R Bool} {B : Ev → Sto → SR} {n : Nat} {ρ : Ev} {S S1 S2 : Sto} {d : D} (hc : c ρ S = .ok true S1) (hB : B ρ S1 = .rt d S2) : whileD c B (n + 1) ρ S = .rt d S2 := by
  rw [whileD, hc]; simp only [R.toS_ok, if_true, hB]
/-- a loop that goes through: P before each turn -/
theorem forD_all {T : Tg} {B Z : Ev → Sto → SR} (P : Nat → Ev → Sto → Prop) : ∀ (ds : List D) (i : Nat) (ρ : Ev) (S : Sto), P i ρ S →
    (∀ (j : Nat) (d : D) (ρ : Ev) (S : Sto), ds[j]? = some d → P (i + j) ρ S → ∃ ρ1 S1 ρ2 S2, T d ρ S = some (ρ1, S1) ∧ (B ρ1 S1 = .nx ρ2 S2 ∨ B ρ1 S1 = .ct ρ2 S2) ∧ P (i + j + 1) ρ2 S2) →
    ∃ ρ' S', P (i + ds.length) ρ' S' ∧ forD yes T B Z ds ρ S = Z ρ' S'
  | [], i, ρ, S, h, _ => ⟨ρ, S, h, forD_nil trivial⟩
  | d :: ds, i, ρ, S, h, step => by
    obtain ⟨ρ1, S1, ρ2, S2, hT, hB, h2⟩ := step 0 d ρ S rfl h
    obtain ⟨ρ', S', h3, e⟩ := forD_all P ds (i + 1) ρ2 S2 h2 fun j d' ρ S hj hp => by
      have e1 : i + (j + 1) = i + 1 + j := by omega
      have := step (j + 1) d' ρ S (by simpa using hj) (by rw [e1]; exact hp)
      rw [e1] at this
      exact this
    refine ⟨ρ', S', ?_, ?_⟩
    · have : i + (d :: ds).length = i + 1 + ds.length := by simp; omega
      rw [this]; exact h3
    · rw [forD, if_pos (show yes S from trivial), hT]
      rcases hB with hB | hB <;> (simp only [hB]; exact e)
mutual
def rok : D → Bool
  | .non => true
  | .bl _ => true
  | .int i => decide (i.natAbs.log2 < 1920)
  | .str x => x.cps.toList.all fun c => decide (c < 16 ^ 8)
  | .tup ds => rokL ds
  | .fl ds => rokL ds
  | .fd kvs => rokK kvs
  | .kl _ => false
  | .ty _ => false
  | .fn _ => false
  | .exc _ _ => false
  | .loc _ => false
def rokL : List D → Bool
  | [] => true
  | d :: ds => rok d && rokL ds
def rokK : List (Key × D) → Bool
  | [] => true
  | (k, d) :: ds => (match k with
    | .inl i => decide (i.natAbs.log2 < 1920)
    | .inr x => x.cps.toList.all fun c => decide (c < 16 ^ 8)) && rok d && rokK ds
end
mutual
def bulkD : D → Nat
  | .str x => x.cps.size
  | .tup ds => bulkL ds
  | .fl ds => bulkL ds
  | .fd kvs => bulkK kvs
  | .non => 0
  | .bl _ => 0
  | .int _ => 0
  | .kl _ => 0
  | .ty _ => 0
  | .fn _ => 0
  | .exc _ _ => 0
  | .loc _ => 0
def bulkL : List D → Nat
  | [] => 0
  | d :: ds => bulkD d + 1 + bulkL ds
def bulkK : List (Key × D) → Nat
  | [] => 0
  | (k, d) :: ds => (match k with
    | .inl _ => 0
    | .inr x => x.cps.size) + bulkD d + 2 + bulkK ds
end
mutual
def depD : D → Nat
  | .tup ds => depL ds + 1
  | .fl ds => depL ds + 1
  | .fd kvs => depK kvs + 1
  | .str _ => 0
  | .non => 0
  | .bl _ => 0
  | .int _ => 0
  | .kl _ => 0
  | .ty _ => 0
  | .fn _ => 0
  | .exc _ _ => 0
  | .loc _ => 0
def depL : List D → Nat
  | [] => 0
  | d :: ds => max (depD d) (depL ds)
def depK : List (Key × D) → Nat
  | [] => 0
  | (_, d) :: ds => max (depD d) (depK ds)
end
theorem shown_int_small {i : Int} (h : i.natAbs.log2 < 1920) : (PyData.shown (.int i)).length ≤ 1921 := by
  have e := int_text_length_le (k := 1920) (by decide) h
  show (Str.ofString (toString i)).length ≤ 1921
  rw [PySem.ofString_length]; exact e
/-- data that repr can show -/
structure PyOk (d : D) (p : PyData) : Prop where
  eq : py d = some p
  sh : p.showable = true
  lv : p.leavesShort 1921 = true
  bk : p.bulk = bulkD d
  dp : p.depth = depD d
mutual
theorem rok_py : ∀ d : D, rok d = true → ∃ p, PyOk d p
  | .non, _ => ⟨.none, rfl, rfl, rfl, rfl, rfl⟩
  | .bl b, _ => ⟨.bool b, rfl, rfl, rfl, rfl, rfl⟩
  | .int i, h => by
    have h : i.natAbs.log2 < 1920 := by simpa [rok] using h
    exact ⟨.int i, rfl, by simpa [PyData.showable] using h, by simpa [PyData.leavesShort] using shown_int_small h, rfl, rfl⟩
  | .str x, h => ⟨.str x, rfl, rfl, by simpa [rok, PyData.leavesShort] using h, rfl, rfl⟩
  | .tup ds, h => by
    obtain ⟨ps, e, a, b, c, f⟩ := rokL_py ds (by simpa [rok] using h)
    exact ⟨.tuple ps, by rw [py, e]; rfl, by simpa [PyData.showable] using a, by simpa [PyData.leavesShort] using b, by simp [PyData.bulk, bulkD, c], by simp [PyData.depth, depD, f]⟩
  | .fl ds, h => by
    obtain ⟨ps, e, a, b, c, f⟩ := rokL_py ds (by simpa [rok] using h)
    exact ⟨.list ps, by rw [py, e]; rfl, by simpa [PyData.showable] using a, by simpa [PyData.leavesShort] using b, by simp [PyData.bulk, bulkD, c], by simp [PyData.depth, depD, f]⟩
  | .fd ds, h => by
    obtain ⟨ps, e, a, b, c, f⟩ := rokK_py ds (by simpa [rok] using h)
    exact ⟨.dict ps, by rw [py, e]; rfl, by simpa [PyData.showable] using a, by simpa [PyData.leavesShort] using b, by simp [PyData.bulk, bulkD, c], by simp [PyData.depth, depD, f]⟩
  | .kl _, h => by simp [rok] at h
  | .ty _, h => by simp [rok] at h
  | .fn _, h => by simp [rok] at h
  | .exc _ _, h => by simp [rok] at h
  | .loc _, h => by simp [rok] at h
theorem rokL_py : ∀ ds : List D, rokL ds = true → ∃ ps, pyL ds = some ps ∧ PyData.showableAll ps = true ∧ PyData.leavesShortAll 1921 ps = true ∧ PyData.bulkAll ps = bulkL ds ∧ PyData.depthAll ps = depL ds
  | [], _ => ⟨[], rfl, rfl, rfl, rfl, rfl⟩
  | d :: ds, h => by
    rw [rokL, Bool.and_eq_true] at h
    obtain ⟨p, e, a, b, c, f⟩ := rok_py d h.1
    obtain ⟨ps, e', a', b', c', f'⟩ := rokL_py ds h.2
    exact ⟨p :: ps, by rw [pyL, e, e']; rfl, by simp [PyData.showableAll, a, a'], by simp [PyData.leavesShortAll, b, b'], by simp [PyData.bulkAll, bulkL, c, c'], by simp [PyData.depthAll, depL, f, f']⟩
theorem rokK_py : ∀ ds : List (Key × D), rokK ds = true → ∃ ps, pyK ds = some ps ∧ PyData.showableKv ps = true ∧ PyData.leavesShortKv 1921 ps = true ∧ PyData.bulkKv ps = bulkK ds ∧ PyData.depthKv ps = depK ds
  | [], _ => ⟨[], rfl, rfl, rfl, rfl, rfl⟩
  | (.inl i, d) :: ds, h => by
    simp only [rokK, Bool.and_eq_true, decide_eq_true_eq] at h
    obtain ⟨p, e, a, b, c, f⟩ := rok_py d h.1.2
    obtain ⟨ps, e', a', b', c', f'⟩ := rokK_py ds h.2
    have hi := h.1.1
    have hs := shown_int_small hi
    exact ⟨(.int i, p) :: ps, by rw [pyK, e, e']; rfl, by simp [PyData.showableKv, PyData.showable, hi, a, a'], by simp [PyData.leavesShortKv, PyData.leavesShort, hs, b, b'], by simp [PyData.bulkKv, PyData.bulk, bulkK, c, c'], by simp [PyData.depthKv, PyData.depth, depK, f, f']⟩
  | (.inr x, d) :: ds, h => by
    simp only [rokK, Bool.and_eq_true] at h
    obtain ⟨p, e, a, b, c, f⟩ := rok_py d h.1.2
    obtain ⟨ps, e', a', b', c', f'⟩ := rokK_py ds h.2
    have hx := h.1.1
    exact ⟨(.str x, p) :: ps, by rw [pyK, e, e']; rfl, by simp [PyData.showableKv, PyData.showable, a, a'], by simp only [PyData.leavesShortKv, PyData.leavesShort, hx, b, b', Bool.and_self], by simp [PyData.bulkKv, PyData.bulk, bulkK, c, c'], by simp [PyData.depthKv, PyData.depth, depK, f, f']⟩
end
def shD (d : D) : Str := match py d with
  | some p => p.shown
  | none => Str.empty
/-- repr of plain data -/
theorem repr_d {d : D} (h : rok d = true) (hb : bulkD d ≤ 8000) (hd : depD d ≤ 60) (S : Sto) : bRepr [d] S = .ok (.str (shD d)) S := by
  obtain ⟨p, o⟩ := rok_py d h
  have e : pyS S d = some p := by
    cases d with
    | loc n => simp [rok] at h
    | _ => exact o.eq
  have hs : showOk p := by
    refine ⟨o.sh, ?_, by rw [o.dp]; exact hd⟩
    have h1 := PyData.shown_le_bulk 1921 (by decide) p o.lv
    rw [o.bk] at h1
    have h2 : (1921 + 2) * bulkD d ≤ 1923 * 8000 := Nat.mul_le_mul_left _ hb
    rw [sizeLine_eq]
    omega
  have e2 : shD d = p.shown := by unfold shD; rw [o.eq]
  unfold bRepr
  simp only [e]
  rw [if_pos hs, e2]
theorem rok_int {i : Int} (b : Nat) (h : i.natAbs < 2 ^ b) (h0 : 0 < b) (h9 : b ≤ 1920) : rok (.int i) = true := by
  simp only [rok, decide_eq_true_eq]
  exact Nat.lt_of_lt_of_le (PySem.Flt.log2_lt_of h0 h) h9
end DL
namespace DL
open PySem PySem.Spec L2
open PyProof.Rows hiding St
noncomputable def E1__law_stream (ρ : Ev) (S : Sto) : R D :=
  (eCall bAbs (aCons (eVar 2) aNil)) ρ S
noncomputable def E2__law_stream (ρ : Ev) (S : Sto) : R D :=
  (eVar 2) ρ S
noncomputable def Q1__law_stream (ρ : Ev) (S : Sto) : R Bool :=
  (eT (eOp dGe (eVar 2) (eOp dPow (eC (.int 10)) (eC (.int 18))))) ρ S
noncomputable def B__law_stream : Ev → Sto → SR :=
  (sSeq (sSet 1 (eLc finFl (iSeq (eVar 0)) (tN 2) [2] cYes E1__law_stream))
    (sRet (eLoc (aCons (eLc finLoc (iSeq (eVar 1)) (tN 2) [2] Q1__law_stream E2__law_stream) (aCons (eOp dAdd (eVar 1) (eFl (aCons (eOp dAdd (eCall bLen (aCons (eVar 1) aNil)) (eC (.int 17))) aNil))) (aCons (eC (.int 0)) aNil))))))
noncomputable def F__law_stream : Fn := fnC closeK 3 1 B__law_stream
noncomputable def C1__law_draw (ρ : Ev) (S : Sto) : R Bool :=
  (eT (eOp (dEq true) (eOp dIx (eVar 0) (eC (.int 0))) (eFl aNil))) ρ S
noncomputable def L1__law_draw (ρ : Ev) (S : Sto) : SR :=
  (sSeq (sSet 2 (eOp dIx (eOp dIx (eVar 0) (eC (.int 0))) (eC (.int 0))))
    (sSeq (sIf (eT (eOp dGt (eVar 2) (eC (.int 0)))) (sSeq (sAsg (eOp dFdiv (eVar 2) (eVar 1)) (tSub (eOp dIx (eVar 0) (eC (.int 0))) (eC (.int 0))))
    (sRet (eOp dMod (eVar 2) (eVar 1)))) sNil)
    (sExp (eMt isLst mPopAt (eOp dIx (eVar 0) (eC (.int 0))) (aCons (eC (.int 0)) aNil))))) ρ S
noncomputable def B__law_draw : Ev → Sto → SR :=
  (sSeq (whileD C1__law_draw L1__law_draw 4000)
    (sSeq (sSet 3 (eOp dAdd (eOp dIx (eVar 0) (eC (.int 2))) (eC (.int 1))))
    (sSeq (sAsg (eVar 3) (tSub (eVar 0) (eC (.int 2))))
    (sSeq (sSet 4 (eOp dMod (eOp dIx (eOp dIx (eVar 0) (eC (.int 1))) (eOp dMod (eVar 3) (eCall bLen (aCons (eOp dIx (eVar 0) (eC (.int 1))) aNil)))) (eC (.int 2147483587))))
    (sSeq (sSet 5 (eOp dMod (eOp dAdd (eOp dAdd (eOp dMul (eVar 4) (eOp dAdd (eC (.int 16807)) (eOp dMul (eC (.int 48271)) (eVar 3)))) (eOp dMul (eOp dMul (eC (.int 69621)) (eVar 3)) (eVar 3))) (eC (.int 5))) (eC (.int 2147483647))))
    (sRet (eOp dMod (eOp dFdiv (eOp dMod (eOp dMul (eVar 5) (eVar 5)) (eC (.int 2147483629))) (eC (.int 16))) (eVar 1))))))))
noncomputable def F__law_draw : Fn := fnC close 6 2 B__law_draw
noncomputable def B__law_pick : Ev → Sto → SR :=
  (sRet (eOp dIx (eVar 1) (eCall F__law_draw (aCons (eVar 0) (aCons (eCall bLen (aCons (eVar 1) aNil)) aNil)))))
noncomputable def F__law_pick : Fn := fnC close 2 2 B__law_pick
def strO (big cells : List Int) (t : Int) (rest : Sto) : Sto := .lst (big.map .int) :: .lst [.loc 0, .fl (cells.map .int), .int t] :: rest
structure StrOk (big cells : List Int) (t : Int) (n : Nat) : Prop where
  bigs : ∀ c ∈ big, 0 ≤ c
  cls : ∀ c ∈ cells, 0 ≤ c
  ne : cells ≠ []
  few : big.length ≤ 63
  t0 : 0 ≤ t
  tn : t ≤ n
/-- the stream stands in S, at most n mixed draws were made -/
def Strm (S : Sto) (n : Nat) (rest : Sto) : Prop := ∃ big cells t, S = strO big cells t rest ∧ StrOk big cells t n
theorem Strm.mono {S : Sto} {n m : Nat} {rest : Sto} (h : Strm S n rest) (hm : n ≤ m) : Strm S m rest := by
  obtain ⟨b, c, t, e, o⟩ := h
  exact ⟨b, c, t, e, o.bigs, o.cls, o.ne, o.few, o.t0, by have := o.tn; omega⟩
theorem getQ_lst0 (ds : List D) (S : Sto) : getQ (.lst ds :: S) 0 = some ds := rfl
theorem getQ_lst1 (o : Ob) (ds : List D) (S : Sto) : getQ (o :: .lst ds :: S) 1 = some ds := rfl
theorem getL_lst0 (ds : List D) (S : Sto) : getL (.lst ds :: S) 0 = some ds := rfl
theorem getL_lst1 (o : Ob) (ds : List D) (S : Sto) : getL (o :: .lst ds :: S) 1 = some ds := rfl
theorem dIx_loc {S : Sto} {n : Nat} {xs : List D} {i : Int} {d : D} (h : getQ S n = some xs) (e : atI xs i = some d) : dIx (.loc n) (.int i) S = .ok d S := by
  show (match seqOf S (.loc n) with
    | some xs => (match atI xs i with
      | some d => R.ok d S
      | none => .stuck)
    | none => .stuck) = _
  rw [show seqOf S (.loc n) = some xs from h]
  show (match atI xs i with
      | some d => R.ok d S
      | none => .stuck) = _
  rw [e]
theorem dIx_fl {S : Sto} {xs : List D} {i : Int} {d : D} (e : atI xs i = some d) : dIx (.fl xs) (.int i) S = .ok d S := by
  show (match atI xs i with
      | some d => R.ok d S
      | none => .stuck) = _
  rw [e]
theorem dIx_tup {S : Sto} {xs : List D} {i : Int} {d : D} (e : atI xs i = some d) : dIx (.tup xs) (.int i) S = .ok d S := by
  show (match atI xs i with
      | some d => R.ok d S
      | none => .stuck) = _
  rw [e]
theorem atI_nn {α : Type} {xs : List α} {i : Int} (h0 : 0 ≤ i) (h1 : i < xs.length) : atI xs i = xs[i.toNat]? := by
  unfold atI ixN
  rw [if_pos h0, if_pos h1]; rfl
theorem atI_map {xs : List Int} {i : Int} (h0 : 0 ≤ i) (h1 : i < xs.length) : ∃ z, z ∈ xs ∧ atI (xs.map D.int) i = some (.int z) := by
  have hi : i.toNat < xs.length := by omega
  refine ⟨xs[i.toNat], List.getElem_mem hi, ?_⟩
  rw [atI_nn h0 (by simpa using h1), List.getElem?_map, List.getElem?_eq_getElem hi]; rfl
theorem str_ix0 (big cells : List Int) (t : Int) (rest : Sto) : dIx (.loc 1) (.int 0) (strO big cells t rest) = .ok (.loc 0) (strO big cells t rest) := dIx_loc (getQ_lst1 _ _ _) rfl
theorem str_ix1 (big cells : List Int) (t : Int) (rest : Sto) : dIx (.loc 1) (.int 1) (strO big cells t rest) = .ok (.fl (cells.map .int)) (strO big cells t rest) := dIx_loc (getQ_lst1 _ _ _) rfl
theorem str_ix2 (big cells : List Int) (t : Int) (rest : Sto) : dIx (.loc 1) (.int 2) (strO big cells t rest) = .ok (.int t) (strO big cells t rest) := dIx_loc (getQ_lst1 _ _ _) rfl
theorem str_ne (big cells : List Int) (t : Int) (rest : Sto) : dEq true (.loc 0) (.fl []) (strO big cells t rest) = .ok (.bl (!big.isEmpty)) (strO big cells t rest) := dNe_loc_nil (getQ_lst0 _ _)
theorem str_get (b : Int) (big cells : List Int) (t : Int) (rest : Sto) : dIx (.loc 0) (.int 0) (strO (b :: big) cells t rest) = .ok (.int b) (strO (b :: big) cells t rest) := dIx_loc (getQ_lst0 _ _) (by simp [atI, ixN])
theorem str_set (b c : Int) (big cells : List Int) (t : Int) (rest : Sto) : dSet (.loc 0) (.int 0) (.int c) (strO (b :: big) cells t rest) = some (strO (c :: big) cells t rest) := by
  simp [dSet, strO, getL_lst0, ixN]
theorem str_pop (b : Int) (big cells : List Int) (t : Int) (rest : Sto) : mPopAt (.loc 0) [.int 0] (strO (b :: big) cells t rest) = .ok (.int b) (strO big cells t rest) := by
  have : seqIndex? 0 (big.length + 1) = some 0 := by simp [seqIndex?]
  have h2 : (-(2 ^ 63) : Int) ≤ 0 ∧ (0 : Int) < 2 ^ 63 := by decide
  simp [mPopAt, strO, getL_lst0, this, ifp_t]
theorem str_lst (big cells : List Int) (t : Int) (rest : Sto) : isLst (strO big cells t rest) (.loc 0) = true := rfl
theorem str_turn (big cells : List Int) (t u : Int) (rest : Sto) : dSet (.loc 1) (.int 2) (.int u) (strO big cells t rest) = some (strO big cells u rest) := by
  simp [dSet, strO, getL_lst1, ixN]
theorem close_same {S S' : Sto} {d : D} (h : S'.length = S.length) : close S d S' = .ok d S' := by
  unfold close; rw [if_pos h]
theorem draw_loop {m : Int} (hm : 0 < m) (hm2 : m.natAbs.log2 < 9000) (cells : List Int) (t : Int) (rest : Sto) (x3 x4 x5 : Option D) : ∀ (big : List Int) (k : Nat) (x2 : Option D), (∀ c ∈ big, 0 ≤ c) → big.length < k →
    (∃ r big', whileD C1__law_draw L1__law_draw k [some (.loc 1), some (.int m), x2, x3, x4, x5] (strO big cells t rest) = .rt (.int r) (strO big' cells t rest) ∧ 0 ≤ r ∧ r < m ∧ (∀ c ∈ big', 0 ≤ c) ∧ big'.length ≤ big.length) ∨
    (∃ x2', whileD C1__law_draw L1__law_draw k [some (.loc 1), some (.int m), x2, x3, x4, x5] (strO big cells t rest) = .nx [some (.loc 1), some (.int m), x2', x3, x4, x5] (strO [] cells t rest)) := by
  intro big
  induction big with
  | nil =>
    intro k x2 _ hk
    obtain ⟨k, rfl⟩ : ∃ j, k = j + 1 := ⟨k - 1, by omega⟩
    refine .inr ⟨x2, ?_⟩
    rw [whileD]
    simp only [eVar, eC, eOp, eT, eAnd, eOr, eNot, eIf, eAndV, eOrV, eNotV, eCall, aNil, aCons, aStar, sOf, eTup, eFl, eLoc, eSl, oNone, oSome, iOf, eNeg, eChain, eMt, bOf, List.lookup, R.bind_ok, R.bind_er, R.bind_stuck, R.toS_ok, R.toS_er, R.toS_stuck, SR.next_nx, SR.next_rt, SR.next_er, SR.next_bk, SR.next_ct, SR.next_stuck, sNil, sSeq, sBrk, sCnt, sExp, sRet, sRetN, sIf, sSet, sAsg, sAug, sPar2, sPar3, tN, DL.tTup, DL.tNil, DL.tCons, DL.tSub, iSeq, srcOf, iRange1, iRange2, sFor, startD, List.map_cons, List.map_nil, List.length_cons, List.length_nil, List.replicate, List.cons_append, List.nil_append, List.getElem?_cons_zero, List.getElem?_cons_succ, List.set_cons_zero, List.set_cons_succ, dSub_int, dFdiv_int, dMod_int, dLt_int, dLe_int, dGt_int, dGe_int, dAddI_int, dSubI_int, dIsN_non, isN, dAdd_int, ll0, ll1, ll2, ll3, ll4, ll5, ll6, ll7, ll8, ll9, ll10, ll11, ll12, ll13, ll14, ll15, ll16, ll17, ll18, ll19, ll20, ll21, ll22, ll23, ll24, ll25, ll26, ll27, ll28, ll29, ll30, ll31, ll32, ll33, ll34, ll35, ll36, ll37, ll38, ll39, ll40, Nat.reduceSub, Nat.reduceAdd, Nat.reduceEqDiff, if_true, if_false, ifp_t, ifp_f, reduceIte, Bool.true_eq_false, Bool.false_eq_true, Option.map_some, Option.map_none, Option.bind_some, Option.bind_none, C1__law_draw, L1__law_draw, str_ix0, str_ne, List.isEmpty_nil, Bool.not_true, Nat.zero_le]
  | cons b big ih =>
    intro k x2 hb hk
    obtain ⟨k, rfl⟩ : ∃ j, k = j + 1 := ⟨k - 1, by omega⟩
    have hb0 : 0 ≤ b := hb b List.mem_cons_self
    have hk' : big.length < k := by simp at hk; omega
    by_cases hpos : 0 < b
    · refine .inl ⟨b % m, (b / m) :: big, ?_, Int.emod_nonneg _ (by omega), Int.emod_lt_of_pos _ hm, fun c hc => ?_, by simp⟩
      · rw [whileD]
        simp only [eVar, eC, eOp, eT, eAnd, eOr, eNot, eIf, eAndV, eOrV, eNotV, eCall, aNil, aCons, aStar, sOf, eTup, eFl, eLoc, eSl, oNone, oSome, iOf, eNeg, eChain, eMt, bOf, List.lookup, R.bind_ok, R.bind_er, R.bind_stuck, R.toS_ok, R.toS_er, R.toS_stuck, SR.next_nx, SR.next_rt, SR.next_er, SR.next_bk, SR.next_ct, SR.next_stuck, sNil, sSeq, sBrk, sCnt, sExp, sRet, sRetN, sIf, sSet, sAsg, sAug, sPar2, sPar3, tN, DL.tTup, DL.tNil, DL.tCons, DL.tSub, iSeq, srcOf, iRange1, iRange2, sFor, startD, List.map_cons, List.map_nil, List.length_cons, List.length_nil, List.replicate, List.cons_append, List.nil_append, List.getElem?_cons_zero, List.getElem?_cons_succ, List.set_cons_zero, List.set_cons_succ, dSub_int, dFdiv_int, dMod_int, dLt_int, dLe_int, dGt_int, dGe_int, dAddI_int, dSubI_int, dIsN_non, isN, dAdd_int, ll0, ll1, ll2, ll3, ll4, ll5, ll6, ll7, ll8, ll9, ll10, ll11, ll12, ll13, ll14, ll15, ll16, ll17, ll18, ll19, ll20, ll21, ll22, ll23, ll24, ll25, ll26, ll27, ll28, ll29, ll30, ll31, ll32, ll33, ll34, ll35, ll36, ll37, ll38, ll39, ll40, Nat.reduceSub, Nat.reduceAdd, Nat.reduceEqDiff, if_true, if_false, ifp_t, ifp_f, reduceIte, Bool.true_eq_false, Bool.false_eq_true, Option.map_some, Option.map_none, Option.bind_some, Option.bind_none, C1__law_draw, L1__law_draw, str_ix0, str_ne, str_get, str_set, List.isEmpty_cons, Bool.not_false, hpos, decide_true, hm, hm2, and_self, Nat.zero_le]
      · rcases List.mem_cons.mp hc with rfl | hc
        · exact Int.ediv_nonneg hb0 (by omega)
        · exact hb c (List.mem_cons_of_mem _ hc)
    · have e : b = 0 := by omega
      subst e
      rw [whileD]
      simp only [eVar, eC, eOp, eT, eAnd, eOr, eNot, eIf, eAndV, eOrV, eNotV, eCall, aNil, aCons, aStar, sOf, eTup, eFl, eLoc, eSl, oNone, oSome, iOf, eNeg, eChain, eMt, bOf, List.lookup, R.bind_ok, R.bind_er, R.bind_stuck, R.toS_ok, R.toS_er, R.toS_stuck, SR.next_nx, SR.next_rt, SR.next_er, SR.next_bk, SR.next_ct, SR.next_stuck, sNil, sSeq, sBrk, sCnt, sExp, sRet, sRetN, sIf, sSet, sAsg, sAug, sPar2, sPar3, tN, DL.tTup, DL.tNil, DL.tCons, DL.tSub, iSeq, srcOf, iRange1, iRange2, sFor, startD, List.map_cons, List.map_nil, List.length_cons, List.length_nil, List.replicate, List.cons_append, List.nil_append, List.getElem?_cons_zero, List.getElem?_cons_succ, List.set_cons_zero, List.set_cons_succ, dSub_int, dFdiv_int, dMod_int, dLt_int, dLe_int, dGt_int, dGe_int, dAddI_int, dSubI_int, dIsN_non, isN, dAdd_int, ll0, ll1, ll2, ll3, ll4, ll5, ll6, ll7, ll8, ll9, ll10, ll11, ll12, ll13, ll14, ll15, ll16, ll17, ll18, ll19, ll20, ll21, ll22, ll23, ll24, ll25, ll26, ll27, ll28, ll29, ll30, ll31, ll32, ll33, ll34, ll35, ll36, ll37, ll38, ll39, ll40, Nat.reduceSub, Nat.reduceAdd, Nat.reduceEqDiff, if_true, if_false, ifp_t, ifp_f, reduceIte, Bool.true_eq_false, Bool.false_eq_true, Option.map_some, Option.map_none, Option.bind_some, Option.bind_none, C1__law_draw, L1__law_draw, str_ix0, str_ne, str_get, str_pop, str_lst, List.isEmpty_cons, Bool.not_false, Int.lt_irrefl, decide_false, Nat.zero_le]
      have := ih k (some (.int 0)) (fun c hc => hb c (List.mem_cons_of_mem _ hc)) hk'
      rcases this with ⟨r, big', h1, h2, h3, h4, h5⟩ | h
      · exact .inl ⟨r, big', h1, h2, h3, h4, Nat.le_succ_of_le h5⟩
      · exact .inr h
theorem mul_small {i j : Int} (h : -(2 ^ 64) < i ∧ i < 2 ^ 64) (S : Sto) : dMul (.int i) (.int j) S = .ok (.int (i * j)) S := by
  exact ifp_pos (.inl (.inl h))
theorem mul_smallR {i j : Int} (h : -(2 ^ 64) < j ∧ j < 2 ^ 64) (S : Sto) : dMul (.int i) (.int j) S = .ok (.int (i * j)) S := by
  exact ifp_pos (.inl (.inr h))
theorem log2_small {x : Nat} (b : Nat) (h : x < 2 ^ b) (h0 : 0 < b) (h9 : b ≤ 9000) : x.log2 < 9000 := Nat.lt_of_lt_of_le (PySem.Flt.log2_lt_of h0 h) h9
theorem bLen_fl (xs : List D) (S : Sto) : bLen [.fl xs] S = .ok (.int xs.length) S := rfl
theorem bLen_tup (xs : List D) (S : Sto) : bLen [.tup xs] S = .ok (.int xs.length) S := rfl
theorem fnC_rt {n m : Nat} {B : Ev → Sto → SR} {ds : List D} {S S' : Sto} {d : D} (hm : ds.length = m) (h : B (startD n ds) S = .rt d S') (hc : S'.length = S.length) : fnC close n m B ds S = .ok d S' := by
  unfold fnC
  rw [if_pos hm, h]
  exact close_same hc
/-- a draw: some number below m, and the stream goes on -/
theorem draw_ok {S : Sto} {n : Nat} {rest : Sto} (h : Strm S n rest) {m : Int} (hm : 0 < m) (hm2 : m.natAbs.log2 < 9000) (hn : n < 2 ^ 60) :
    ∃ r S', F__law_draw [.loc 1, .int m] S = .ok (.int r) S' ∧ 0 ≤ r ∧ r < m ∧ Strm S' (n + 1) rest := by
  obtain ⟨big, cells, t, rfl, o⟩ := h
  have hst : startD 6 [D.loc 1, D.int m] = [some (.loc 1), some (.int m), none, none, none, none] := rfl
  rcases draw_loop hm hm2 cells t rest none none none big 4000 none o.bigs (by have := o.few; omega) with ⟨r, big', h1, h2, h3, h4, h5⟩ | ⟨x2, h1⟩
  · refine ⟨r, strO big' cells t rest, ?_, h2, h3, big', cells, t, rfl, h4, o.cls, o.ne, Nat.le_trans h5 o.few, o.t0, by have := o.tn; omega⟩
    refine fnC_rt rfl ?_ rfl
    rw [hst]
    unfold B__law_draw
    rw [sSeq, h1]; rfl
  · have t0 := o.t0
    have tn := o.tn
    have hcl : 0 < (cells.length : Int) := by
      have := List.length_pos_iff.mpr o.ne
      omega
    have hix0 : 0 ≤ (t + 1) % (cells.length : Int) := Int.emod_nonneg _ (by omega)
    have hix1 : (t + 1) % (cells.length : Int) < cells.length := Int.emod_lt_of_pos _ hcl
    obtain ⟨z, hz, hat⟩ := atI_map hix0 hix1
    have hz0 := o.cls z hz
    have c0 : 0 ≤ z % 2147483587 := Int.emod_nonneg _ (by decide)
    have c1 : z % 2147483587 < 2147483587 := Int.emod_lt_of_pos _ (by decide)
    have hx : ∀ S, dIx (.fl (cells.map D.int)) (.int ((t + 1) % (cells.length : Int))) S = .ok (.int z) S := fun S => dIx_fl hat
    have m1 : ∀ S, dMul (.int 48271) (.int (t + 1)) S = .ok (.int (48271 * (t + 1))) S := fun S => mul_small (by decide) S
    have m2 : ∀ S, dMul (.int (z % 2147483587)) (.int (16807 + 48271 * (t + 1))) S = .ok (.int (z % 2147483587 * (16807 + 48271 * (t + 1)))) S := fun S => mul_small (by omega) S
    have m3 : ∀ S, dMul (.int 69621) (.int (t + 1)) S = .ok (.int (69621 * (t + 1))) S := fun S => mul_small (by decide) S
    have m4 : ∀ S, dMul (.int (69621 * (t + 1))) (.int (t + 1)) S = .ok (.int (69621 * (t + 1) * (t + 1))) S := fun S => mul_smallR (by omega) S
    have l16 : (16 : Int).natAbs.log2 < 9000 := by decide
    have m5 : ∀ (x : Int) S, dMul (.int (x % 2147483647)) (.int (x % 2147483647)) S = .ok (.int (x % 2147483647 * (x % 2147483647))) S := fun x S => by
      have a0 : 0 ≤ x % 2147483647 := Int.emod_nonneg _ (by decide)
      have a1 : x % 2147483647 < 2147483647 := Int.emod_lt_of_pos _ (by decide)
      exact mul_small (by omega) S
    have key : ∃ y : Int, B__law_draw [some (.loc 1), some (.int m), none, none, none, none] (strO big cells t rest) = .rt (.int (y % m)) (strO [] cells (t + 1) rest) := by
      unfold B__law_draw
      rw [sSeq, h1]
      simp only [eVar, eC, eOp, eT, eAnd, eOr, eNot, eIf, eAndV, eOrV, eNotV, eCall, aNil, aCons, aStar, sOf, eTup, eFl, eLoc, eSl, oNone, oSome, iOf, eNeg, eChain, eMt, bOf, List.lookup, R.bind_ok, R.bind_er, R.bind_stuck, R.toS_ok, R.toS_er, R.toS_stuck, SR.next_nx, SR.next_rt, SR.next_er, SR.next_bk, SR.next_ct, SR.next_stuck, sNil, sSeq, sBrk, sCnt, sExp, sRet, sRetN, sIf, sSet, sAsg, sAug, sPar2, sPar3, tN, DL.tTup, DL.tNil, DL.tCons, DL.tSub, iSeq, srcOf, iRange1, iRange2, sFor, startD, List.map_cons, List.map_nil, List.length_cons, List.length_nil, List.replicate, List.cons_append, List.nil_append, List.getElem?_cons_zero, List.getElem?_cons_succ, List.set_cons_zero, List.set_cons_succ, dSub_int, dFdiv_int, dMod_int, dLt_int, dLe_int, dGt_int, dGe_int, dAddI_int, dSubI_int, dIsN_non, isN, dAdd_int, ll0, ll1, ll2, ll3, ll4, ll5, ll6, ll7, ll8, ll9, ll10, ll11, ll12, ll13, ll14, ll15, ll16, ll17, ll18, ll19, ll20, ll21, ll22, ll23, ll24, ll25, ll26, ll27, ll28, ll29, ll30, ll31, ll32, ll33, ll34, ll35, ll36, ll37, ll38, ll39, ll40, Nat.reduceSub, Nat.reduceAdd, Nat.reduceEqDiff, if_true, if_false, ifp_t, ifp_f, reduceIte, Bool.true_eq_false, Bool.false_eq_true, Option.map_some, Option.map_none, Option.bind_some, Option.bind_none, str_ix0, str_ix1, str_ix2, str_turn, dAdd_int, bLen_fl, List.length_map, hcl, hx, m1, m2, m3, m4, m5, l16, hm, Int.reduceLT, and_self]
      exact ⟨_, rfl⟩
    obtain ⟨y, hy⟩ := key
    exact ⟨y % m, _, fnC_rt rfl hy rfl, Int.emod_nonneg _ (by omega), Int.emod_lt_of_pos _ hm, [], cells, t + 1, rfl, by simp, o.cls, o.ne, by simp, by omega, by omega⟩
end DL
namespace DL
open PySem PySem.Spec L2
open PyProof.Rows hiding St
theorem Strm.len {S : Sto} {n : Nat} {rest : Sto} (h : Strm S n rest) : S.length = rest.length + 2 := by
  obtain ⟨b, c, t, rfl, o⟩ := h; rfl
theorem lowL_ints (n : Nat) (l : List Int) : lowL n (l.map D.int) = true := by
  induction l with
  | nil => rfl
  | cons i l ih => simp [lowL, low, ih]
theorem lowL_of {n : Nat} : ∀ {l : List D}, (∀ d ∈ l, low n d = true) → lowL n l = true
  | [], _ => rfl
  | d :: l, h => by
    rw [lowL, h d List.mem_cons_self, lowL_of fun x hx => h x (List.mem_cons_of_mem _ hx)]; rfl
theorem getL_end (S : Sto) (ds : List D) : getL (S ++ [.lst ds]) S.length = some ds := getL_of (by simp)
theorem getQ_end (S : Sto) (ds : List D) : getQ (S ++ [.lst ds]) S.length = some ds := getQ_of (by simp)
theorem set_end (S : Sto) (a b : Ob) : (S ++ [a]).set S.length b = S ++ [b] := by
  rw [List.set_append_right _ _ (Nat.le_refl _)]; simp
theorem finFl_eq {S S' : Sto} {l : List D} (h : getL S' S.length = some l) (hc : Trunc S S' ∧ S'.length = S.length + 1 ∧ lowL S.length l = true) : finFl S S' = .ok (.fl l) (S'.take S.length) := by
  unfold finFl
  simp only [h]
  rw [if_pos hc]
theorem finFl_end {S : Sto} {l : List D} (h : lowL S.length l = true) : finFl S (S ++ [.lst l]) = .ok (.fl l) S := by
  rw [finFl_eq (getL_end S l) ⟨Trunc.same _ _, by simp, h⟩]
  simp
/-- a comprehension whose parts change nothing -/
theorem compD_pure {T : Tg} {c : Ev → Sto → R Bool} {f : Ev → Sto → R D} {ρ : Ev} (ρd : D → Ev) (p : D → Bool) (e : D → D) (S : Sto) : ∀ (ds acc : List D),
    (∀ d ∈ ds, ∀ S', T d ρ S' = some (ρd d, S') ∧ c (ρd d) S' = .ok (p d) S' ∧ (p d = true → f (ρd d) S' = .ok (e d) S')) → acc.length + ds.length ≤ sizeLine →
    compD yes T c f S.length ρ ds (S ++ [.lst acc]) = some (S ++ [.lst (acc ++ (ds.filter p).map e)])
  | [], acc, _, _ => by rw [compD, if_pos (show yes _ from trivial)]; simp
  | d :: ds, acc, h, hl => by
    obtain ⟨h1, h2, h3⟩ := h d List.mem_cons_self (S ++ [.lst acc])
    have hl' : acc.length + (ds.length + 1) ≤ sizeLine := hl
    rw [compD, if_pos (show yes _ from trivial), h1]
    simp only [h2]
    cases hp : p d with
    | false =>
      rw [if_neg (by decide)]
      rw [compD_pure ρd p e S ds acc (fun x hx => h x (List.mem_cons_of_mem _ hx)) (by omega)]
      simp [List.filter, hp]
    | true =>
      rw [if_pos rfl]
      simp only [h3 hp, getL_end, set_end]
      rw [ifp_pos (by omega)]
      rw [compD_pure ρd p e S ds (acc ++ [e d]) (fun x hx => h x (List.mem_cons_of_mem _ hx)) (by simp; omega)]
      simp [List.filter, hp]
theorem eLc_pure {src : Ev → Sto → R Src} {T : Tg} {vs : List Nat} {c : Ev → Sto → R Bool} {f : Ev → Sto → R D} {ρ : Ev} {S : Sto} (ds : List D) (ρd : D → Ev) (p : D → Bool) (e : D → D) (hs : src ρ S = .ok (ds, yes) S)
    (h : ∀ d ∈ ds, ∀ S', T d (wipeD ρ vs) S' = some (ρd d, S') ∧ c (ρd d) S' = .ok (p d) S' ∧ (p d = true → f (ρd d) S' = .ok (e d) S')) (hl : ds.length ≤ sizeLine) (hlow : ∀ d ∈ ds, p d = true → low S.length (e d) = true) :
    eLc finFl src T vs c f ρ S = .ok (.fl ((ds.filter p).map e)) S := by
  unfold eLc
  rw [hs]
  show (match compD yes T c f S.length (wipeD ρ vs) ds (S ++ [Ob.lst []]) with
    | some S2 => finFl S S2
    | none => .stuck) = _
  rw [compD_pure ρd p e S ds [] h (by simpa using hl)]
  simp only [List.nil_append]
  refine finFl_end (lowL_of fun d hd => ?_)
  obtain ⟨x, hx, rfl⟩ := List.mem_map.mp hd
  obtain ⟨h1, h2⟩ := List.mem_filter.mp hx
  exact hlow x h1 h2
theorem eLc_pureLoc {src : Ev → Sto → R Src} {T : Tg} {vs : List Nat} {c : Ev → Sto → R Bool} {f : Ev → Sto → R D} {ρ : Ev} {S : Sto} (ds : List D) (ρd : D → Ev) (p : D → Bool) (e : D → D) (hs : src ρ S = .ok (ds, yes) S)
    (h : ∀ d ∈ ds, ∀ S', T d (wipeD ρ vs) S' = some (ρd d, S') ∧ c (ρd d) S' = .ok (p d) S' ∧ (p d = true → f (ρd d) S' = .ok (e d) S')) (hl : ds.length ≤ sizeLine) :
    eLc finLoc src T vs c f ρ S = .ok (.loc S.length) (S ++ [.lst ((ds.filter p).map e)]) := by
  unfold eLc
  rw [hs]
  show (match compD yes T c f S.length (wipeD ρ vs) ds (S ++ [Ob.lst []]) with
    | some S2 => finLoc S S2
    | none => .stuck) = _
  rw [compD_pure ρd p e S ds [] h (by simpa using hl)]
  simp only [List.nil_append]; rfl
theorem Strm.app {S : Sto} {n : Nat} {rest : Sto} (h : Strm S n rest) (l : Sto) : Strm (S ++ l) n (rest ++ l) := by
  obtain ⟨b, c, t, rfl, o⟩ := h
  exact ⟨b, c, t, rfl, o⟩
theorem Strm.getL_end {S : Sto} {n : Nat} {rest : Sto} {ds : List D} (h : Strm S n (rest ++ [.lst ds])) : getL S (rest.length + 2) = some ds := by
  obtain ⟨b, c, t, rfl, o⟩ := h
  refine getL_of ?_
  show (rest ++ [Ob.lst ds])[rest.length]? = _
  simp
theorem Strm.getQ_end {S : Sto} {n : Nat} {rest : Sto} {ds : List D} (h : Strm S n (rest ++ [.lst ds])) : getQ S (rest.length + 2) = some ds := by
  obtain ⟨b, c, t, rfl, o⟩ := h
  refine getQ_of ?_
  show (rest ++ [Ob.lst ds])[rest.length]? = _
  simp
theorem Strm.set_end {S : Sto} {n : Nat} {rest : Sto} {a : Ob} (h : Strm S n (rest ++ [a])) (b : Ob) : Strm (S.set (rest.length + 2) b) n (rest ++ [b]) := by
  obtain ⟨bg, c, t, rfl, o⟩ := h
  refine ⟨bg, c, t, ?_, o⟩
  show Ob.lst _ :: Ob.lst _ :: (rest ++ [a]).set rest.length b = _
  rw [DL.set_end]; rfl
/-- young places go: the stream stays -/
theorem Strm.trunc {S S' : Sto} {n m : Nat} {rest l : Sto} (h : Strm S n rest) (h' : Strm S' m (rest ++ l)) : Trunc S S' ∧ Strm (S'.take S.length) m rest := by
  obtain ⟨b, c, t, rfl, o⟩ := h
  obtain ⟨b', c', t', rfl, o'⟩ := h'
  refine ⟨⟨by simp [strO], fun k ob hk e => ?_⟩, b', c', t', ?_, o'⟩
  · match k, hk, e with
    | 0, hk, e =>
      cases e
      exact .inr (by simp [lowO, lowL_ints])
    | 1, hk, e =>
      cases e
      refine .inr ?_
      simp [lowO, lowL, low, lowL_ints, strO]
    | k + 2, hk, e =>
      left
      have hk' : k < rest.length := by simp [strO] at hk; exact hk
      show rest[k]? = some ob
      have e : (rest ++ l)[k]? = some ob := e
      rw [List.getElem?_append_left hk'] at e; exact e
  · show (Ob.lst _ :: Ob.lst _ :: (rest ++ l)).take (rest.length + 2) = _
    simp [strO]
theorem compD_strm {T : Tg} {f : Ev → Sto → R D} {ρ : Ev} {rest : Sto} (ρd : D → Ev) (cost : Nat) (P : D → Prop) : ∀ (ds acc : List D) (S : Sto) (n : Nat), Strm S n (rest ++ [.lst acc]) →
    (∀ d ∈ ds, ∀ S', T d ρ S' = some (ρd d, S')) →
    (∀ d ∈ ds, ∀ S' m l, m + cost ≤ n + ds.length * cost → Strm S' m l → ∃ y S'', f (ρd d) S' = .ok y S'' ∧ P y ∧ Strm S'' (m + cost) l) → acc.length + ds.length ≤ sizeLine →
    ∃ ys S', compD yes T cYes f (rest.length + 2) ρ ds S = some S' ∧ ys.length = ds.length ∧ (∀ y ∈ ys, P y) ∧ Strm S' (n + ds.length * cost) (rest ++ [.lst (acc ++ ys)])
  | [], acc, S, n, hS, _, _, _ => ⟨[], S, by rw [compD, if_pos (show yes _ from trivial)], rfl, by simp, by simpa using hS⟩
  | d :: ds, acc, S, n, hS, hT, hf, hl => by
    have hl' : acc.length + (ds.length + 1) ≤ sizeLine := hl
    have hcost : (d :: ds).length * cost = cost + ds.length * cost := by rw [List.length_cons, Nat.add_mul]; omega
    obtain ⟨y, S1, h1, h2, h3⟩ := hf d List.mem_cons_self S n _ (by rw [hcost]; omega) hS
    have h4 := h3.set_end (.lst (acc ++ [y]))
    obtain ⟨ys, S', h5, h6, h7, h8⟩ := compD_strm ρd cost P ds (acc ++ [y]) _ (n + cost) h4 (fun x hx => hT x (List.mem_cons_of_mem _ hx))
      (fun x hx S' m l hm => hf x (List.mem_cons_of_mem _ hx) S' m l (by rw [hcost]; omega)) (by simp; omega)
    refine ⟨y :: ys, S', ?_, by simp [h6], fun z hz => ?_, ?_⟩
    · rw [compD, if_pos (show yes _ from trivial), hT d List.mem_cons_self S]
      simp only [cYes, if_true, h1, h3.getL_end]
      rw [ifp_pos (by omega)]
      exact h5
    · rcases List.mem_cons.mp hz with rfl | hz
      · exact h2
      · exact h7 z hz
    · have e : n + (d :: ds).length * cost = n + cost + ds.length * cost := by rw [hcost]; omega
      rw [e]
      simpa using h8
theorem eLc_strm {src : Ev → Sto → R Src} {T : Tg} {vs : List Nat} {f : Ev → Sto → R D} {ρ : Ev} {S S0 : Sto} {n : Nat} {rest : Sto} (ds : List D) (ρd : D → Ev) (cost : Nat) (P : D → Prop) (hs : src ρ S0 = .ok (ds, yes) S) (hS : Strm S n rest)
    (hT : ∀ d ∈ ds, ∀ S', T d (wipeD ρ vs) S' = some (ρd d, S')) (hf : ∀ d ∈ ds, ∀ S' m l, m + cost ≤ n + ds.length * cost → Strm S' m l → ∃ y S'', f (ρd d) S' = .ok y S'' ∧ P y ∧ Strm S'' (m + cost) l) (hl : ds.length ≤ sizeLine) (hlow : ∀ y, P y → low S.length y = true) :
    ∃ ys S', eLc finFl src T vs cYes f ρ S0 = .ok (.fl ys) S' ∧ ys.length = ds.length ∧ (∀ y ∈ ys, P y) ∧ Strm S' (n + ds.length * cost) rest := by
  obtain ⟨ys, S', h1, h2, h3, h4⟩ := compD_strm (T := T) (f := f) (ρ := wipeD ρ vs) (rest := rest) ρd cost P ds [] (S ++ [.lst []]) n (hS.app _) hT hf (by simpa using hl)
  obtain ⟨t1, t2⟩ := hS.trunc h4
  refine ⟨ys, S'.take S.length, ?_, h2, h3, t2⟩
  unfold eLc
  rw [hs]
  show (match compD yes T cYes f S.length (wipeD ρ vs) ds (S ++ [Ob.lst []]) with
    | some S2 => finFl S S2
    | none => .stuck) = _
  rw [← hS.len] at h1
  rw [h1]
  show finFl S S' = _
  have e := h4.getL_end
  rw [List.nil_append, ← hS.len] at e
  exact finFl_eq e ⟨t1, by rw [h4.len, hS.len]; simp, lowL_of fun y hy => hlow y (h3 y hy)⟩
theorem stream_ok {ns : List Int} (h : ns.length ≤ 63) : ∃ S, F__law_stream [.kl (ns.map D.int)] [] = .ok (.loc 1) S ∧ Strm S 0 [] := by
  have e1 : ∀ S, eLc finFl (iSeq (eVar 0)) (tN 2) [2] cYes E1__law_stream [some (.kl (ns.map D.int)), none, none] S = .ok (.fl ((ns.map D.int).map fun d => match d with | .int i => .int (if i < 0 then -i else i) | d => d)) S := fun S => by
    have := eLc_pure (src := iSeq (eVar 0)) (T := tN 2) (vs := [2]) (c := cYes) (f := E1__law_stream) (ρ := [some (.kl (ns.map D.int)), none, none]) (S := S) (ns.map D.int) (fun d => [some (.kl (ns.map D.int)), none, some d]) (fun _ => true)
      (fun d => match d with | .int i => .int (if i < 0 then -i else i) | d => d) rfl (fun d hd S' => ?_) (by simp; exact Nat.le_trans h (by decide)) (fun d hd _ => ?_)
    · rw [this, List.filter_eq_self.mpr (by simp)]
    · obtain ⟨i, _, rfl⟩ := List.mem_map.mp hd
      exact ⟨rfl, rfl, fun _ => rfl⟩
    · obtain ⟨i, _, rfl⟩ := List.mem_map.mp hd
      rfl
  have e2 : ((ns.map D.int).map fun d => match d with | .int i => D.int (if i < 0 then -i else i) | d => d) = (ns.map fun i => if i < 0 then -i else i).map D.int := by simp
  generalize hcs : (ns.map fun i => if i < 0 then -i else i) = cs at e2
  have hc0 : ∀ c ∈ cs, 0 ≤ c := fun c hc => by
    rw [← hcs] at hc
    obtain ⟨i, _, rfl⟩ := List.mem_map.mp hc
    split <;> omega
  have hlen : cs.length ≤ 63 := by rw [← hcs]; simpa using h
  have hpow : ∀ S, dPow (.int 10) (.int 18) S = .ok (.int (10 ^ 18)) S := fun S => dPow_ok (by decide) S
  have e3 : ∀ S, eLc finLoc (iSeq (eVar 1)) (tN 2) [2] Q1__law_stream E2__law_stream [some (.kl (ns.map D.int)), some (.fl (cs.map D.int)), none] S = .ok (.loc S.length) (S ++ [.lst ((cs.filter fun i => decide ((10 : Int) ^ 18 ≤ i)).map D.int)]) := fun S => by
    have := eLc_pureLoc (src := iSeq (eVar 1)) (T := tN 2) (vs := [2]) (c := Q1__law_stream) (f := E2__law_stream) (ρ := [some (.kl (ns.map D.int)), some (.fl (cs.map D.int)), none]) (S := S) (cs.map D.int)
      (fun d => [some (.kl (ns.map D.int)), some (.fl (cs.map D.int)), some d]) (fun d => match d with | .int i => decide ((10 : Int) ^ 18 ≤ i) | _ => false) (fun d => d) rfl (fun d hd S' => ?_) (by simp; exact Nat.le_trans hlen (by decide))
    · rw [this, List.filter_map]
      simp [Function.comp_def]
    · obtain ⟨i, _, rfl⟩ := List.mem_map.mp hd
      refine ⟨rfl, ?_, fun _ => rfl⟩
      have hw : wipeD [some (D.kl (ns.map D.int)), some (D.fl (cs.map D.int)), none] [2] = [some (D.kl (ns.map D.int)), some (D.fl (cs.map D.int)), none] := rfl
      simp only [eVar, eC, eOp, eT, eAnd, eOr, eNot, eIf, eAndV, eOrV, eNotV, eCall, aNil, aCons, aStar, sOf, eTup, eFl, eLoc, eSl, oNone, oSome, iOf, eNeg, eChain, eMt, bOf, R.bind_ok, R.bind_er, R.bind_stuck, R.toS_ok, R.toS_er, R.toS_stuck, SR.next_nx, SR.next_rt, SR.next_er, SR.next_bk, SR.next_ct, SR.next_stuck, sNil, sSeq, sBrk, sCnt, sExp, sRet, sRetN, sIf, sSet, sAsg, sAug, sPar2, sPar3, tN, DL.tTup, DL.tNil, DL.tCons, DL.tSub, iSeq, srcOf, iRange1, iRange2, sFor, startD, List.map_cons, List.map_nil, List.length_cons, List.length_nil, List.replicate, List.cons_append, List.nil_append, List.getElem?_cons_zero, List.getElem?_cons_succ, List.set_cons_zero, List.set_cons_succ, dSub_int, dFdiv_int, dMod_int, dLt_int, dLe_int, dGt_int, dGe_int, dAddI_int, dSubI_int, dIsN_non, isN, dAdd_int, ll0, ll1, ll2, ll3, ll4, ll5, ll6, ll7, ll8, ll9, ll10, ll11, ll12, ll13, ll14, ll15, ll16, ll17, ll18, ll19, ll20, ll21, ll22, ll23, ll24, ll25, ll26, ll27, ll28, ll29, ll30, ll31, ll32, ll33, ll34, ll35, ll36, ll37, ll38, ll39, ll40, Nat.reduceSub, Nat.reduceAdd, Nat.reduceEqDiff, if_true, if_false, ifp_t, ifp_f, reduceIte, Bool.true_eq_false, Bool.false_eq_true, Option.map_some, Option.map_none, Option.bind_some, Option.bind_none, Q1__law_stream, hpow]
  refine ⟨strO (cs.filter fun i => decide ((10 : Int) ^ 18 ≤ i)) (cs ++ [(cs.length : Int) + 17]) 0 [], ?_, ⟨_, _, _, rfl, ?_, ?_, by simp, ?_, by omega, by omega⟩⟩
  · unfold F__law_stream fnC
    rw [if_pos (show [D.kl (ns.map D.int)].length = 1 from rfl)]
    have hst : startD 3 [D.kl (ns.map D.int)] = [some (.kl (ns.map D.int)), none, none] := rfl
    rw [hst]
    unfold B__law_stream
    have hadd : ∀ S, dAdd (.fl (cs.map D.int)) (.fl [.int ((cs.length : Int) + 17)]) S = .ok (.fl ((cs ++ [(cs.length : Int) + 17]).map D.int)) S := fun S => by
      show ifp ((cs.map D.int).length + 1 ≤ sizeLine) (R.ok (D.fl (cs.map D.int ++ [D.int ((cs.length : Int) + 17)])) S) .stuck = _
      rw [ifp_pos (by rw [List.length_map]; exact Nat.le_trans (Nat.succ_le_succ hlen) (by decide))]
      simp
    simp only [eVar, eC, eOp, eT, eAnd, eOr, eNot, eIf, eAndV, eOrV, eNotV, eCall, aNil, aCons, aStar, sOf, eTup, eFl, eLoc, eSl, oNone, oSome, iOf, eNeg, eChain, eMt, bOf, R.bind_ok, R.bind_er, R.bind_stuck, R.toS_ok, R.toS_er, R.toS_stuck, SR.next_nx, SR.next_rt, SR.next_er, SR.next_bk, SR.next_ct, SR.next_stuck, sNil, sSeq, sBrk, sCnt, sExp, sRet, sRetN, sIf, sSet, sAsg, sAug, sPar2, sPar3, tN, DL.tTup, DL.tNil, DL.tCons, DL.tSub, iSeq, srcOf, iRange1, iRange2, sFor, startD, List.map_cons, List.map_nil, List.length_cons, List.length_nil, List.replicate, List.cons_append, List.nil_append, List.getElem?_cons_zero, List.getElem?_cons_succ, List.set_cons_zero, List.set_cons_succ, dSub_int, dFdiv_int, dMod_int, dLt_int, dLe_int, dGt_int, dGe_int, dAddI_int, dSubI_int, dIsN_non, isN, dAdd_int, ll0, ll1, ll2, ll3, ll4, ll5, ll6, ll7, ll8, ll9, ll10, ll11, ll12, ll13, ll14, ll15, ll16, ll17, ll18, ll19, ll20, ll21, ll22, ll23, ll24, ll25, ll26, ll27, ll28, ll29, ll30, ll31, ll32, ll33, ll34, ll35, ll36, ll37, ll38, ll39, ll40, Nat.reduceSub, Nat.reduceAdd, Nat.reduceEqDiff, if_true, if_false, ifp_t, ifp_f, reduceIte, Bool.true_eq_false, Bool.false_eq_true, Option.map_some, Option.map_none, Option.bind_some, Option.bind_none, e1, e2, e3, dAdd_int, bLen_fl, List.length_map, hadd]
    rfl
  · intro c hc
    exact hc0 c (List.mem_filter.mp hc).1
  · intro c hc
    rcases List.mem_append.mp hc with hc | hc
    · exact hc0 c hc
    · simp at hc; omega
  · exact Nat.le_trans (List.length_filter_le _ _) hlen
theorem pick_fl {S : Sto} {n : Nat} {rest : Sto} (h : Strm S n rest) {xs : List D} (hx : xs ≠ []) (hs : xs.length < 2 ^ 60) (hn : n < 2 ^ 60) :
    ∃ d S', F__law_pick [.loc 1, .fl xs] S = .ok d S' ∧ d ∈ xs ∧ Strm S' (n + 1) rest := by
  have hl := List.length_pos_iff.mpr hx
  obtain ⟨r, S', h1, h2, h3, h4⟩ := draw_ok h (m := (xs.length : Int)) (by omega) (log2_small 60 (by omega) (by decide) (by decide)) hn
  have hr : r.toNat < xs.length := by omega
  refine ⟨xs[r.toNat], S', ?_, List.getElem_mem hr, h4⟩
  refine fnC_rt rfl ?_ (by rw [h.len, h4.len])
  unfold B__law_pick
  have hix : ∀ S, dIx (.fl xs) (.int r) S = .ok xs[r.toNat] S := fun S => dIx_fl (by rw [atI_nn h2 h3, List.getElem?_eq_getElem hr])
  simp only [eVar, eC, eOp, eT, eAnd, eOr, eNot, eIf, eAndV, eOrV, eNotV, eCall, aNil, aCons, aStar, sOf, eTup, eFl, eLoc, eSl, oNone, oSome, iOf, eNeg, eChain, eMt, bOf, R.bind_ok, R.bind_er, R.bind_stuck, R.toS_ok, R.toS_er, R.toS_stuck, SR.next_nx, SR.next_rt, SR.next_er, SR.next_bk, SR.next_ct, SR.next_stuck, sNil, sSeq, sBrk, sCnt, sExp, sRet, sRetN, sIf, sSet, sAsg, sAug, sPar2, sPar3, tN, DL.tTup, DL.tNil, DL.tCons, DL.tSub, iSeq, srcOf, iRange1, iRange2, sFor, startD, List.map_cons, List.map_nil, List.length_cons, List.length_nil, List.replicate, List.cons_append, List.nil_append, List.getElem?_cons_zero, List.getElem?_cons_succ, List.set_cons_zero, List.set_cons_succ, dSub_int, dFdiv_int, dMod_int, dLt_int, dLe_int, dGt_int, dGe_int, dAddI_int, dSubI_int, dIsN_non, isN, dAdd_int, ll0, ll1, ll2, ll3, ll4, ll5, ll6, ll7, ll8, ll9, ll10, ll11, ll12, ll13, ll14, ll15, ll16, ll17, ll18, ll19, ll20, ll21, ll22, ll23, ll24, ll25, ll26, ll27, ll28, ll29, ll30, ll31, ll32, ll33, ll34, ll35, ll36, ll37, ll38, ll39, ll40, Nat.reduceSub, Nat.reduceAdd, Nat.reduceEqDiff, if_true, if_false, ifp_t, ifp_f, reduceIte, Bool.true_eq_false, Bool.false_eq_true, Option.map_some, Option.map_none, Option.bind_some, Option.bind_none, bLen_fl, h1, hix]
theorem close_law {d : D} (h : low 0 d = true) (S' : Sto) : ∃ S'', close [] d S' = .ok d S'' := by
  unfold close
  split
  · exact ⟨_, rfl⟩
  · rw [if_pos ⟨⟨Nat.zero_le _, fun k o hk _ => absurd hk (Nat.not_lt_zero _)⟩, h⟩]
    exact ⟨_, rfl⟩
/-- a law's function by its body -/
theorem law_by {n : Nat} {B : Ev → Sto → SR} (h : ∀ ns : List Int, ns.length ≤ 63 → (∀ z ∈ ns, Builtin.Int.intBits z ≤ 1048576) → ∃ S', B (startD n [.kl (ns.map D.int)]) [] = .rt (.bl true) S') : LawOk (fnC close n 1 B) := by
  intro ns hl hb
  obtain ⟨S', e⟩ := h ns hl hb
  unfold fnC
  rw [if_pos (show [D.kl (ns.map D.int)].length = 1 from rfl), e]
  exact close_law rfl S'
end DL
namespace DL
open PySem PySem.Spec L2
open PyProof.Rows hiding St
end DL
namespace DL
open PySem PySem.Spec L2
open PyProof.Rows hiding St
theorem bTuple_loc {S : Sto} {n : Nat} {l : List D} (h : getQ S n = some l) : bTuple [.loc n] S = .ok (.tup l) S := by
  unfold bTuple
  simp only [show seqOf S (.loc n) = some l from h]
theorem bTuple_fl (l : List D) (S : Sto) : bTuple [.fl l] S = .ok (.tup l) S := rfl
def Arity (t : Int) : Prop := 0 ≤ t ∧ t ≤ 5
end DL
namespace DL
/-- one token read: the height, and what was missing so far -/
def stp (s : Int × Int) (t : Int) : Int × Int := (s.1 + (1 - t), max s.2 (1 - (s.1 + (1 - t))))
def hts : Int → List Int → List Int
  | _, [] => []
  | h, t :: l => (h + (1 - t)) :: hts (h + (1 - t)) l
/-- the need of a row -/
def ne (l : List Int) : Int := (l.foldl stp (0, 0)).2
/-- the height behind a row -/
def ht (l : List Int) : Int := (l.foldl stp (0, 0)).1
theorem stp_fst : ∀ (l : List Int) (s : Int × Int), (l.foldl stp s).1 = s.1 + l.length - l.sum
  | [], s => by simp
  | t :: l, s => by
    rw [List.foldl_cons, stp_fst l]
    simp [stp]; omega
theorem ht_eq (l : List Int) : ht l = l.length - l.sum := by unfold ht; rw [stp_fst]; simp
theorem stp_mono : ∀ (l : List Int) (s : Int × Int), s.2 ≤ (l.foldl stp s).2
  | [], s => Int.le_refl _
  | t :: l, s => by
    have := stp_mono l (stp s t)
    rw [List.foldl_cons]
    simp only [stp] at this ⊢
    omega
/-- the tokens round and round -/
def tk (l : List Int) (j : Nat) : Int := (l[j % l.length]?).getD 0
/-- the height behind i tokens, round and round -/
def hh (l : List Int) : Nat → Int
  | 0 => 0
  | i + 1 => hh l i + (1 - tk l i)
theorem take_succ' {l : List Int} {k : Nat} {t : Int} (h : l[k]? = some t) : l.take (k + 1) = l.take k ++ [t] := by
  obtain ⟨hk, rfl⟩ := List.getElem?_eq_some_iff.mp h
  rw [List.take_succ_eq_append_getElem hk]
theorem ne_zero_iff (l : List Int) : ∀ (s : Int × Int), s.2 = 0 → ((l.foldl stp s).2 = 0 ↔ ∀ k, k < l.length → 1 ≤ ((l.take (k + 1)).foldl stp s).1) := by
  induction l with
  | nil => intro s hs; simp [hs]
  | cons t l ih =>
    intro s hs
    rw [List.foldl_cons]
    by_cases h : 1 ≤ s.1 + (1 - t)
    · have e : (stp s t).2 = 0 := by simp only [stp]; omega
      rw [ih (stp s t) e]
      constructor
      · intro H k hk
        cases k with
        | zero => simpa [stp] using h
        | succ k => exact H k (by simpa using hk)
      · intro H k hk
        exact H (k + 1) (by simpa using hk)
    · constructor
      · intro H
        have := stp_mono l (stp s t)
        simp only [stp] at this
        have H' : (l.foldl stp (s.1 + (1 - t), max s.2 (1 - (s.1 + (1 - t))))).2 = 0 := H
        omega
      · intro H
        have := H 0 (by simp)
        simp [stp] at this
        omega
end DL
namespace DL
open PySem PySem.Spec L2
open PyProof.Rows hiding St
def ti (l : List Int) : D := .tup (l.map D.int)
theorem ti_len (l : List Int) (S : Sto) : bLen [ti l] S = .ok (.int l.length) S := by
  show R.ok (D.int ((l.map D.int).length : Nat)) S = _
  rw [List.length_map]
theorem add_ti (l m : List Int) (h : l.length + m.length ≤ sizeLine) (S : Sto) : dAdd (ti l) (ti m) S = .ok (ti (l ++ m)) S := by
  show ifp ((l.map D.int).length + (m.map D.int).length ≤ sizeLine) (R.ok (D.tup (l.map D.int ++ m.map D.int)) S) .stuck = _
  rw [ifp_pos (by rw [List.length_map, List.length_map]; exact h), ← List.map_append]; rfl
def ni (l : List Nat) : List D := l.map fun k : Nat => D.int (k : Int)
end DL
namespace DL
open PySem PySem.Spec L2
open PyProof.Rows hiding St
/-- min of two numbers, of a list or of a tuple -/
def bMinT : Fn := fun ds S => match ds with
  | [.tup xs] => (match intsOf xs with
    | some is => if is = [] then .stuck else .ok (.int (minL is)) S
    | none => .stuck)
  | ds => bMin ds S
end DL
namespace DL
end DL
namespace DL
end DL
namespace DL
open PySem PySem.Spec L2
open PyProof.Rows hiding St
theorem PE.or {X : Cx} {e : Expr} {t u : TE} (h : PE X e t) (h' : PE X e u) : PE X e (fun σ H Q => t σ H Q ∨ u σ H Q) := ⟨fun pins s σ H Q I q => by
  rcases q with q | q
  · exact h.run pins s σ H Q I q
  · exact h'.run pins s σ H Q I q⟩
def dRev (mk : List D → Sto → R D) (a : D) (S : Sto) : R D := match a with
  | .tup xs => .ok (.tup xs.reverse) S
  | a => match lstOf S a with
    | some xs => mk xs.reverse S
    | none => .stuck
def eRev (mk : List D → Sto → R D) (f : Ev → Sto → R D) : Ev → Sto → R D := fun ρ S => (f ρ S).bind fun d S1 => dRev mk d S1
theorem RepL.reverse {K : PySem.W.Frag} {ι : List Addr} {H : Hp} : ∀ (ds : List D) (vs : List V), RepL K ι H ds vs → RepL K ι H ds.reverse vs.reverse
  | [], _, h => by rw [RepL] at h; subst h; exact RepL.nil
  | d :: ds, _, h => by
    rw [RepL] at h
    obtain ⟨v, r, rfl, a, b⟩ := h
    rw [List.reverse_cons, List.reverse_cons]
    exact RepL.app _ _ (RepL.reverse ds r b) _ _ (RepL.one a)
def zipD (xs ys : List D) : List D := (xs.zip ys).map fun q => .tup [q.1, q.2]
def srcZip (a b : D) (S : Sto) : R Src := match a, b with
  | .tup xs, .tup ys => .ok (zipD xs ys, yes) S
  | .fl xs, .fl ys => .ok (zipD xs ys, yes) S
  | _, _ => .stuck
def iZipD (g : Ev → Sto → R (List D)) : Ev → Sto → R Src := fun ρ S => (g ρ S).bind fun ds S1 => match ds with
  | [a, b] => srcZip a b S1
  | _ => .stuck
end DL
namespace DL
open PySem PySem.Spec L2
open PyProof.Rows hiding St
open PySem.AutoSeq1 (wpAny_loadPart')
theorem tuple_mulSame (l : Addr) (items : Array Value) (n : Nat) (dd : Option Addr) (sl : Array (Option Value)) (x : Int) (u : Tok) (c0 : (decide (x < -(2 ^ 63)) || decide (x ≥ 2 ^ 63)) = false) (c1 : (items.isEmpty || x == 1) = true) :
    Meets (Builtin.«tuple.__mul__» ⟨[.ref l, .int x u], []⟩) (fun _ R s => s.heap.get? l = some { cls := .type "tuple", dict := dd, data := .seq items n, slots := sl } ∧ R (.ok (.ret (Value.ref l))) s) :=
  .of_wp fun prog w A R s h => by
    obtain ⟨hp, g, d, tk, os⟩ := s
    obtain ⟨hl, h⟩ := h
    have f1 := AutoSeq1.idx_int
    wp_walk using wpAny_loadPart' hl
    repeat (first
      | (refine wpAny_ite_false (decide_eq_false (by rw [c0]; exact Bool.false_ne_true)) ?_; wp_walk using wpAny_loadPart' hl)
      | (refine wpAny_ite_true (decide_eq_true (by rw [c1])) ?_; wp_walk using wpAny_loadPart' hl)
      | (with_reducible rw [if_pos (show (items.isEmpty || x == 1) = true from c1)]; wp_walk using wpAny_loadPart' hl))
    exact ⟨_, rfl, h⟩
theorem tuple_mulNil (l : Addr) (items : Array Value) (n : Nat) (dd : Option Addr) (sl : Array (Option Value)) (x : Int) (u : Tok) (c0 : (decide (x < -(2 ^ 63)) || decide (x ≥ 2 ^ 63)) = false) (c1 : (items.isEmpty || x == 1) = false) (c2 : (decide (x ≤ 0) || items.isEmpty) = true) :
    Meets (Builtin.«tuple.__mul__» ⟨[.ref l, .int x u], []⟩) (fun _ R s => s.heap.get? l = some { cls := .type "tuple", dict := dd, data := .seq items n, slots := sl } ∧
      R (.ok (.ret (Value.ref s.heap.objs.size))) { s with heap := s.heap.push { cls := Value.type "tuple", data := Data.seq #[] }, toks := s.toks }) :=
  .of_wp fun prog w A R s h => by
    obtain ⟨hp, g, d, tk, os⟩ := s
    obtain ⟨hl, h⟩ := h
    have f1 := AutoSeq1.idx_int
    wp_walk using wpAny_loadPart' hl
    repeat (first
      | (refine wpAny_ite_false (decide_eq_false (by rw [c0]; exact Bool.false_ne_true)) ?_; wp_walk using wpAny_loadPart' hl)
      | (refine wpAny_ite_false (decide_eq_false (by rw [c1]; exact Bool.false_ne_true)) ?_; wp_walk using wpAny_loadPart' hl)
      | (refine wpAny_ite_true (decide_eq_true (by rw [c2])) ?_; wp_walk using wpAny_loadPart' hl))
    exact ⟨_, rfl, h⟩
def rRepTS (K : PySem.W.Frag) : R2 := fun x y H Q => ∃ l k xs, x = .ref l ∧ y = .int k ∧ SqT K H l xs ∧ -(2 ^ 63) ≤ k ∧ k < 2 ^ 63 ∧ (xs = [] ∨ k = 1) ∧ Q (.ref l) H
def rRepTN (K : PySem.W.Frag) : R2 := fun x y H Q => ∃ l k xs, x = .ref l ∧ y = .int k ∧ SqT K H l xs ∧ xs ≠ [] ∧ -(2 ^ 63) ≤ k ∧ k ≤ 0 ∧ ∀ p, H p = none → Q (.ref p) (upd H p (.tup []))
section
variable {X : Cx}
theorem op_repTS : OpR X (binaryOp .Mult) (rRepTS X.K) := by
  intro pins s σ H x y v u Q I rx ry h
  obtain ⟨l, k, xs, rfl, rfl, hT, h1, h2, hne, q⟩ := h
  cases rx
  obtain ⟨t, rfl⟩ := ry
  obtain ⟨its, r, ⟨⟨cls, dd, data, sl⟩, ho, hc, n, hd⟩, hs⟩ := I.tuple hT
  simp only at hc hd
  subst hc hd
  have hle : its.length = xs.length := r.length.symm
  have c0 : (decide (k < -(2 ^ 63)) || decide (k ≥ 2 ^ 63)) = false := by
    rw [decide_eq_false (by omega), decide_eq_false (by omega)] <;> rfl
  have c1 : (its.toArray.isEmpty || k == 1) = true := by
    rcases hne with e | e
    · subst e
      have : its = [] := List.eq_nil_of_length_eq_zero hle
      subst this; rfl
    · subst e; simp
  exact wpAny_binaryOp_repeat_ref (T := "tuple") (U := "int") (by decide) ⟨_, ho, rfl⟩ (fun s' => typeIs_int s' k t) noFill_tuple_mul F.fills_int_mul F.slot_int_rmul repeat_tuple F.slot_int_index.lookup
    (call_meets F.slot_int_rmul (typeIs_int s k t) F.entry_int_rmul (F.args_int_rmul_2 _ _) (int_rmul_tuple k t l its.toArray n dd sl)
      ⟨ho, rfl, ⟨_, ho, rfl⟩, call_meets F.slot_tuple_mul ⟨_, ho, rfl⟩ F.entry_tuple_mul (F.args_tuple_mul_2 _ _) (tuple_mulSame l its.toArray n dd sl k t c0 c1) ⟨ho, ⟨.ref l, H, I, rfl, q⟩⟩⟩)
theorem op_repTN : OpR X (binaryOp .Mult) (rRepTN X.K) := by
  intro pins s σ H x y v u Q I rx ry h
  obtain ⟨l, k, xs, rfl, rfl, hT, hne, h1, h2, q⟩ := h
  cases rx
  obtain ⟨t, rfl⟩ := ry
  obtain ⟨its, r, ⟨⟨cls, dd, data, sl⟩, ho, hc, n, hd⟩, hs⟩ := I.tuple hT
  simp only at hc hd
  subst hc hd
  have hle : its.length = xs.length := r.length.symm
  have hn : its ≠ [] := fun e => hne (by
    rw [e] at hle
    exact List.eq_nil_of_length_eq_zero hle.symm)
  have hi : its.toArray.isEmpty = false := by
    cases its with
    | nil => exact absurd rfl hn
    | cons a b => rfl
  have c0 : (decide (k < -(2 ^ 63)) || decide (k ≥ 2 ^ 63)) = false := by
    rw [decide_eq_false (by omega), decide_eq_false (by omega)] <;> rfl
  have c1 : (its.toArray.isEmpty || k == 1) = false := by
    rw [hi, Bool.false_or]
    exact beq_eq_false_iff_ne.mpr (by omega)
  have c2 : (decide (k ≤ 0) || its.toArray.isEmpty) = true := by rw [decide_eq_true h2]; rfl
  refine wpAny_binaryOp_repeat_ref (T := "tuple") (U := "int") (by decide) ⟨_, ho, rfl⟩ (fun s' => typeIs_int s' k t) noFill_tuple_mul F.fills_int_mul F.slot_int_rmul repeat_tuple F.slot_int_index.lookup
    (call_meets F.slot_int_rmul (typeIs_int s k t) F.entry_int_rmul (F.args_int_rmul_2 _ _) (int_rmul_tuple k t l its.toArray n dd sl)
      ⟨ho, rfl, ⟨_, ho, rfl⟩, call_meets F.slot_tuple_mul ⟨_, ho, rfl⟩ F.entry_tuple_mul (F.args_tuple_mul_2 _ _) (tuple_mulNil l its.toArray n dd sl k t c0 c1 c2) ⟨ho, ?_⟩⟩)
  refine ⟨.ref s.heap.objs.size, _, I.laid (t' := s.toks) (o := .tup []) (fun b ob q => Heap.get?_push_of_some _ q) (Nat.le_refl _) ?_, rfl, q _ (I.hok.fresh (Nat.le_refl _))⟩
  exact ⟨Nat.zero_le _, [], .nil, IsTup.new _ _⟩
end
noncomputable def dMulT (a b : D) (S : Sto) : R D := match a, b with
  | .tup xs, .int k => ifp (-(2 ^ 63) ≤ k ∧ k ≤ 1000 ∧ xs.length ≤ 1000) (.ok (.tup (List.replicate k.toNat xs).flatten) S) .stuck
  | a, b => dMul a b S
def rMulT (K : PySem.W.Frag) : R2 := fun x y H Q => rRepTS K x y H Q ∨ rRepTN K x y H Q ∨ rRepT K x y H Q ∨ rMulD x y H Q
theorem or_mulT {X : Cx} : OpR X (binaryOp .Mult) (rMulT X.K) := OpR.or op_repTS (OpR.or op_repTN (OpR.or op_repT or_mul))
theorem k_mulT {K : PySem.W.Frag} : OpK K (rMulT K) dMulT := by
  intro W σ ι H S x y a b Q s rx ry h
  unfold dMulT at h
  split at h
  · rename_i xs k
    unfold ifp at h
    split at h
    · rename_i hl
      have rx' := rx
      obtain ⟨p, vs, rfl, hp, rp⟩ := tup_at rx
      have hlen := RepL.length _ _ rp
      by_cases h1 : vs = [] ∨ k = 1
      · refine .inl ⟨p, k, vs, rfl, int_at ry, hp, hl.1, by omega, h1, ?_⟩
        have e : (List.replicate k.toNat xs).flatten = xs := by
          rcases h1 with e | e
          · subst e
            have : xs = [] := List.eq_nil_of_length_eq_zero hlen
            subst this; simp
          · subst e; simp
        rw [e] at h
        exact h.here s _ rx'
      · have hne : vs ≠ [] := fun z => h1 (.inl z)
        have hk : k ≠ 1 := fun z => h1 (.inr z)
        by_cases h2 : k ≤ 0
        · refine .inr (.inl ⟨p, k, vs, rfl, int_at ry, hp, hne, hl.1, h2, ?_⟩)
          have e : (List.replicate k.toNat xs).flatten = [] := by
            have : k.toNat = 0 := by omega
            rw [this]; rfl
          rw [e] at h
          exact new_tup h s RepL.nil
        · refine .inr (.inr (.inl ⟨p, k, vs, rfl, int_at ry, hp, hne, by omega, hl.2.1, by omega, ?_⟩))
          exact new_tup h s (RepL.replicate rp _)
    · exact h.elim
  · exact .inr (.inr (.inr (k_mul W σ ι H S x y a b Q s rx ry h)))
end DL
namespace DL
open PySem PySem.Spec L2
open PyProof.Rows hiding St
/-- a built-in class that errors of the program are built on -/
structure XBase (newId : String) (bmB : List Value) : Prop where
  fb : ∃ B initId, ExcBaseFacts B newId initId bmB
  pass : ∀ self, PySem.refuseLoop self "__setattr__" bmB = pure ()
  ob : bmB.contains (.type "object") = true
theorem xb_VE : XBase "ValueError.__new__" [.type "ValueError", .type "Exception", .type "BaseException", .type "object"] := ⟨⟨_, _, PySem.F.excBase_ValueError⟩, fun s => PySem.F.store_ValueError.passes s, by decide +kernel⟩
section
open PySem.Builtin PySem.Builtin.ObjectAttr PySem.HandSPX
variable {prog : Program} {w : World} {A : Around} {E : Value → Shared → Prop} {R : Result → Shared → Prop} {hp : Heap} {g : Array GenState} {d : Drawn} {t : Nat} {os : OsState}
theorem osaB {K : PySem.W.Frag} {newId : String} {bmB : List Value} {name : Str} {tk : Tok} {v : Value} {x C : Addr} {fv : Array Value} {cd : ClassData}
    (XB : XBase newId bmB) (X : K.In hp) (hx : hp.get? x = some { cls := .ref C, data := .fields fv }) (hcd : PySem.W.clsIn K C = some cd) (hm : PySem.W.excTail bmB cd.mro = true) (hne : cd.mro.isEmpty = false) (hh : cd.hasDict = true) (ha : PySem.W.findIn K (.ref C) name = some none)
    (hq : ∀ h' tk' dx, (∀ b o, b ≠ x → hp.get? b = some o → h'.get? b = some o) → hp.objs.size ≤ dx → dx ≠ x → h'.get? x = some { cls := .ref C, dict := some dx, data := .fields fv } →
      h'.Ns1 dx (fun y => if y = name then some v else none) → R (.ok (.ret .none)) ⟨h', g, d, tk', os⟩) :
    codeAny (model prog w) A (.call (.builtin "object.__setattr__") ⟨[.ref x, .str name tk, v], []⟩) R ⟨hp, g, d, t, os⟩ := by
  have I : PySem.W.InstAt hp x { cls := .ref C, data := .fields fv } C none := ⟨hx, rfl, rfl, trivial⟩
  have SF := PySem.F.store_object
  have hob : cd.mro.contains (.type "object") = true := (PySem.W.excTail_contains "object" _ hm).trans XB.ob
  have hxs : x ≠ hp.objs.size := Nat.ne_of_lt (Heap.lt_size hx)
  have msub : PySem.W.mroIn K C (.type "object") = some true := by
    unfold PySem.W.mroIn; rw [hcd, Option.bind_some, if_neg (by rw [hne]; decide), hob]
  have isub : PySem.W.Looks (model prog w) hp (isInstance (.ref x) (.type "object")) true := I.type.andThen (PySem.W.looks_mroIn X msub)
  refine codeAny_call_builtin SF.slot.plain SF.entry (@PySem.W.check_slot (model prog w) _ _ ⟨hp, g, d, t, os⟩ "object.__setattr__" "object" "__setattr__" (.ref x) [.str name tk, v] [] _ SF.kind SF.split isub (SF.args (.ref x) (.str name tk) v) ?_)
  have lm : PySem.W.Looks (model prog w) hp (mroOf (.ref C)) cd.mro := (PySem.W.looks_clsIn X hcd).andThen .now
  have lt : PySem.W.Looks (model prog w) hp (storeTaker? none) none := .now
  have lc : PySem.W.Looks (model prog w) hp (classData C) cd := PySem.W.looks_clsIn X hcd
  rw [PySem.W.osa_eq, refuse_eq]
  refine wpAny_bind (wpAny_bind (I.type.at (wpAny_bind (lm.at ?_))))
  rw [PySem.W.excTail_pass _ (XB.pass _) _ hm]
  refine wpAny_pure (wpAny_bind (I.type.at (wpAny_bind ((PySem.W.looks_findIn X ha).at (wpAny_bind (lt.at ?_))))))
  show wpAny _ _ (storeInOwnDict (.ref x) (.ref C) (.str name tk) name v false) _ _ _
  obtain ⟨nm, bs, mro, ns, qn, hd, sn, sb, ab, col, del⟩ := cd
  dsimp only at hh
  subst hh
  unfold storeInOwnDict ownDictForStores
  repeat (first | with_reducible refine store_in_new ?_ ?_ | with_reducible refine wpAny_loadPart_at hx ?_ | with_reducible refine lc.at ?_ | wp_step)
  · exact ⟨_, #[], _, (Heap.get?_update_ne _ _ _ _ hxs.symm).trans (Heap.get?_push_at rfl rfl), rfl, fun e he => absurd he (by simp), fun _ => rfl⟩
  · intro h' tk' hn' hs
    have hx₁ : (hp.push { cls := .type "dict", data := .dict #[] }).get? x = some { cls := .ref C, data := .fields fv } := Heap.get?_push_of_some _ hx
    refine hq h' tk' hp.objs.size (fun b o hb ho => ?_) (Nat.le_refl _) hxs.symm ?_ hn'
    · exact (hs.2 b (Nat.ne_of_lt (Heap.lt_size ho))).trans ((Heap.get?_update_ne _ _ _ _ hb).trans (Heap.get?_push_of_some _ ho))
    · exact (hs.2 x hxs).trans (Heap.get?_update_self _ hx₁ rfl)
end
def iA (f : Str) (p1 p2 : Pos) : Arguments := { posonlyargs := [], args := [{ arg := "self", annotation := none, pos := p1 }, { arg := f, annotation := none, pos := p2 }], vararg := none, kwonlyargs := [], kw_defaults := [], kwarg := none, defaults := [] }
def iB (f : Str) (q1 q2 q3 q4 : Pos) : List Stmt := [.Assign [.Attribute (.Name "self" q1) f q2] (.Name f q3) q4]
def iS (f : Str) : Scope := { kind := .function, names := [(PySem.Str.ofString "self", .local), (f, .local)], isGenerator := false, isCoroutine := false, more := [] }
/-- what the written part says of an own error's class n, at C -/
structure XCls (K : PySem.W.Frag) (n : Str) (C : Addr) : Prop where
  ns : PySem.W.nsIn K mainGlobals n = some (some (.ref C))
  kC : PySem.W.keepIn K (.ref C) = true
  exC : PySem.W.subIn K (.ref C) (.type "BaseException") = some true
  tyC : PySem.W.typeIn K (.ref C) = some (.type "type")
/-- .. with an __init__ of that text, at fI -/
structure XInit (K : PySem.W.Frag) (C fI : Addr) (qual f : Str) : Prop where
  cls : ∃ newId bmB nm q N bs bm sn sub ab col dd k0 k1 k2 k3 k5, XBase newId bmB ∧ K.lookup C = some (excClassObj nm q C N bs bm true sn sub ab col dd k0 k1 k2 k3 k5 newId) ∧ PySem.W.excTail bmB bm = true
  sa : PySem.W.findIn K (.ref C) "__setattr__" = some (some (.builtin "object.__setattr__"))
  noN : PySem.W.findIn K (.ref C) f = some none
  iC : PySem.W.findIn K (.ref C) "__init__" = some (some (.ref fI))
  tC : PySem.W.typeIn K (.ref fI) = some (.type "function")
  fn : ∃ (oc : Value) (od : Option Addr) (doc pm : Value) (an : Option Addr) (cdv ct : Value) (osl : Array (Option Value)) (p1 p2 q1 q2 q3 q4 : Pos),
    K.lookup fI = some ⟨oc, od, .func (PySem.W.fnOf "__init__" qual (iA f p1 p2) (iB f q1 q2 q3 q4) (iS f) .none .none doc pm an cdv ct), osl⟩ ∧ PySem.W.codeIn K cdv qual = true
  bd : ∀ (doc pm : Value) (an : Option Addr) (cdv ct : Value) (p1 p2 q1 q2 q3 q4 : Pos) (x v : Value), bindArgs (PySem.W.fnOf "__init__" qual (iA f p1 p2) (iB f q1 q2 q3 q4) (iS f) .none .none doc pm an cdv ct) ⟨[x, v], []⟩ = pure [(("self" : Str), x), (f, v)]
  fs : f ≠ "self"
  fd : (f == ("__debug__" : Str)) = false
theorem ldCf {M : Model} {s : Shared} {name : Str} {scope : Scope} {L a : Addr} {cd : Value} {m : Str → Option Value} {x : Str} {pos : Pos} {v : Value} {Q : Value → Shared → Prop} {A : Around} {E : Value → Shared → Prop} (hn : s.heap.Ns L m) (hv : m x = some v) (h : Q v s)
    (hk : scope.kind = .function) (hl : (envOfC name scope L a cd).kindOf x = some .local) (hd : (x == ("__debug__" : Str)) = false) :
    wpAny M A (eval (.Name x pos) (envOfC name scope L a cd)) Q E s := wpAny_Name (wpAny_loadName_local hk hl hn hv h) hd
theorem iS_self (f : Str) : (iS f).names.lookup ("self" : Str) = some .local := by
  show List.lookup (PySem.Str.ofString "self") [(PySem.Str.ofString "self", NameKind.local), (f, NameKind.local)] = _
  simp [List.lookup]
theorem iS_f (f : Str) : (iS f).names.lookup f = some .local := by
  show List.lookup f [(PySem.Str.ofString "self", NameKind.local), (f, NameKind.local)] = _
  by_cases h : f = PySem.Str.ofString "self"
  · simp [List.lookup, h]
  · have : (f == PySem.Str.ofString "self") = false := by simpa using h
    simp [List.lookup, this]
structure InitEnd (h h' : Heap) (x C dx t1 : Addr) (f : Str) (v : Value) : Prop where
  keep : ∀ b o, b ≠ x → h.get? b = some o → h'.get? b = some o
  obj : h'.get? x = some { cls := .ref C, dict := some dx, data := .fields #[.ref t1, .none, .none, .none, .bool false, .none] }
  dbig : h.objs.size ≤ dx
  dne : dx ≠ x
  ns : h'.Ns1 dx (fun y => if y = f then some v else none)
structure OwnMade (h h' : Heap) (e C d : Addr) (f : Str) (v : Value) : Prop where
  keep : ∀ b o, h.get? b = some o → h'.get? b = some o
  new : h.objs.size ≤ e
  obj : ∃ oe vs, h'.get? e = some oe ∧ oe.cls = .ref C ∧ oe.dict = some d ∧ oe.data = .fields vs ∧ vs[1]? = some .none
  dbig : h.objs.size ≤ d
  dne : d ≠ e
  ns : h'.Ns1 d (fun y => if y = f then some v else none)
section
open PySem.W PySem.Calls PySem.HandSPX
variable {prog : Program} {w : World} {A : Around} {E : Value → Shared → Prop} {R : Result → Shared → Prop} {s : Shared} {K : Frag} {C fI : Addr} {qual f : Str}
theorem x_init (T : XInit K C fI qual f) {x t0 : Addr} {v : Value} (X : K.In s.heap) (hlim : s.heap.NoLimit) (hx : s.heap.get? x = some (excO C t0)) (hroom : A.depth < recursionLimit)
    (hq : ∀ h' tk dx, InitEnd s.heap h' x C dx t0 f v → R (.ok (.ret .none)) { s with heap := h', toks := tk }) :
    codeAny (model prog w) A (.call (.ref fI) ⟨[.ref x, v], []⟩) R s := by
  obtain ⟨oc, od, doc, pm, an, cdv, ct, osl, p1, p2, q1, q2, q3, q4, ho, hcd⟩ := T.fn
  obtain ⟨newId, bmB, nm, q, N, bs, bm, sn, sub, ab, col, dd, k0, k1, k2, k3, k5, XB, hC, hbm⟩ := T.cls
  have hcl : clsIn K C = some { name := nm, bases := bs, mro := .ref C :: bm, ns := N, qualname := q, hasDict := true, slotNames := sn, subclasses := sub, abstract := ab, collection := col, hasDel := false } := by unfold clsIn; rw [hC] <;> rfl
  refine Att.call_fn (binds := [("self", .ref x), (f, v)]) X hlim ho hcd hroom (BindsTo.of_eq (T.bd _ _ _ _ _ _ _ _ _ _ _ _ _)) ?_ (fun s₁ IC => ?_) rfl rfl rfl
  · simp only [List.all_cons, List.all_nil, iS_self, iS_f]; rfl
  obtain ⟨h₁, tk₁, rfl⟩ := IC.toInCall.same
  have k : ∀ b o, s.heap.get? b = some o → h₁.get? b = some o := IC.toInCall.keep
  have hn := IC.toInCall.ns
  have X₁ : K.In h₁ := X.keeps k
  have hx₁ := k _ _ hx
  have kf : (envOfC qual (iS f) s.heap.objs.size fI cdv).kindOf f = some .local := iS_f f
  have ks : (envOfC qual (iS f) s.heap.objs.size fI cdv).kindOf "self" = some .local := iS_self f
  have mf : bindL (envOfC qual (iS f) s.heap.objs.size fI cdv).kindOf [("self", .ref x), (f, v)] (fun _ => none) f = some v := by
    simp only [bindL, kf, ks, if_true]
  have ms : bindL (envOfC qual (iS f) s.heap.objs.size fI cdv).kindOf [("self", .ref x), (f, v)] (fun _ => none) "self" = some (.ref x) := by
    simp only [bindL, kf, ks, if_true]
    rw [if_neg (fun z => T.fs z.symm)]
  show wpAny _ _ (execs (iB f q1 q2 q3 q4) _) _ _ _
  unfold iB
  refine wpAny_execs_cons (plainObj_wpAny_Assign_Attribute ?_)
  refine ldCf (v := v) hn mf (ldCf (v := .ref x) hn ms ?_ rfl ks (by decide)) rfl kf T.fd
  refine set_plain X₁ (ox := excO C t0) (od := none) ⟨hx₁, rfl, rfl, trivial⟩ T.sa ?_
  refine osaB XB X₁ hx₁ hcl (show excTail bmB (.ref C :: bm) = true from hbm) rfl rfl T.noN (fun h₃ tk₃ dx k₃ dn dne hx₃ hn₃ => ?_)
  show wpAny _ _ (execs _ _) _ _ _
  have z : s.heap.objs.size < h₁.objs.size := hn.lt
  exact wpAny_execs_nil (hq h₃ tk₃ dx ⟨fun b o hb e => k₃ b o hb (k b o e), hx₃, Nat.le_of_lt (Nat.lt_of_lt_of_le z dn), dne, hn₃⟩)
theorem x_made (T : XInit K C fI qual f) {v : Value} (X : K.In s.heap) (hlim : s.heap.NoLimit) (hroom : A.depth + 1 < recursionLimit)
    (hq : ∀ h' tk e d, OwnMade s.heap h' e C d f v → R (.ok (.ret (.ref e))) { s with heap := h', toks := tk }) :
    codeAny (model prog w) A (.call (.ref C) ⟨[v], []⟩) R s := by
  obtain ⟨newId, bmB, nm, q, N, bs, bm, sn, sub, ab, col, dd, k0, k1, k2, k3, k5, XB, hC, hbm⟩ := T.cls
  obtain ⟨B, initId, FB⟩ := XB.fb
  obtain ⟨hp, g, dr, tk, os⟩ := s
  have k : ∀ b o, hp.get? b = some o → ((hp.push (kdv_tup [v])).push (excO C hp.objs.size)).get? b = some o := fun b o e => Heap.get?_push_of_some _ (Heap.get?_push_of_some _ e)
  have hget : ((hp.push (kdv_tup [v])).push (excO C hp.objs.size)).get? (hp.objs.size + 1) = some (excO C hp.objs.size) := by heap_get
  refine call_own FB (fun X => excTail_contains X bm hbm) (X _ _ hC) (looks_findIn X T.iC) (fun self => bind_fn X self T.tC) (show [v].length ≤ sizeLine by show 1 ≤ sizeLine; decide) ?_
  refine x_init (s := ⟨(hp.push (kdv_tup [v])).push (excO C hp.objs.size), g, dr, tk, os⟩) T (X.keeps k) (hlim.keeps k) hget hroom fun h' tk' dx ⟨k', hx, dn, dne, hns⟩ => ?_
  have old : ∀ b o, hp.get? b = some o → h'.get? b = some o := fun b o e => k' b o (Nat.ne_of_lt (Nat.lt_succ_of_lt (Heap.lt_size e))) (k b o e)
  have z : hp.objs.size + 1 + 1 ≤ dx := by
    have q := dn
    rw [Heap.size_push, Heap.size_push] at q
    exact q
  exact ⟨rfl, hq h' tk' (hp.objs.size + 1) dx ⟨old, Nat.le_succ _, ⟨_, _, hx, rfl, rfl, rfl, rfl⟩, Nat.le_trans (Nat.le_trans (Nat.le_succ _) (Nat.le_succ _)) z, dne, hns⟩⟩
end
theorem relO_one {v : V} {v' : Value} {g : Str} (r : RelV v v') (f : Str) : RelO (List.lookup f [(g, v)]) (if f = g then some v' else none) := by
  by_cases hw : f = g
  · subst hw
    rw [if_pos rfl]
    have q : List.lookup f [(f, v)] = some v := by simp [List.lookup]
    rw [q]
    exact r
  · rw [if_neg hw]
    have qw : (f == g) = false := by simpa using hw
    have q2 : List.lookup f [(g, v)] = none := by simp [List.lookup, qw]
    rw [q2]
    trivial
section
variable {X : Cx} {C fI : Addr} {n qual f : Str}
def tMkX (C : Addr) (f : Str) (ta : TA) : L2.St → Hp → XK → Prop := fun σ H Q => ta σ H fun vs H1 => ∃ v, vs = [v] ∧ ∀ d, H1 d = none → Q (.ref C) (some d) (upd H1 d (.xd [(f, v)]))
theorem pmk_x {a : Expr} {ta : TA} {p pos : Pos} {k : Nat} (T0 : XCls X.K n C) (T : XInit X.K C fI qual f) (hr : Room k X.A) (hm : X.mg n = some (.ref C)) (ha : PA X [a] ta) (hg : Gl X n) (hdb : (n == ("__debug__" : Str)) = false)
    (he : starEach (a :: []) X.env = (false, eval a X.env) :: starEach [] X.env := by rfl) (hpl : (backTo pos (starEach [] X.env)).any (·.1) = false := by rfl) :
    PMk X (.Call (.Name n p) [a] [] pos) (tMkX C f ta) := by
  intro pins s σ H Q I h
  refine wpAny_Call_Name_kw (ld_glob I hg hm ?_ hdb)
  refine PySem.W.callWith_K (h₀ := X.base) I.ok.mod.kin T0.kC (thn (ha.run pos pins s σ H _ I h) fun us s1 hh => ?_) he hpl
  obtain ⟨vs, H1, I1, r1, v, ev, q1⟩ := hh
  subst ev
  refine ⟨I1.kIn, ?_⟩
  cases r1 with
  | cons rv rn =>
    rename_i v' us'
    cases rn
    show wpAny _ _ (call (.ref C) [v']) _ _ _
    have hlim := I1.nolimit
    obtain ⟨hp, g, dr, tk, os⟩ := s1
    refine wpAny_call (x_made T I1.kIn hlim (by have := hr.dp; omega) fun h' tk' e d M => ?_)
    show MkP X pins σ Q (.ref e) ⟨h', g, dr, tk', os⟩
    obtain ⟨oe, fv, hoe, hc, hd, hdat, h1⟩ := M.obj
    have hns := M.ns
    obtain ⟨G', g1, g2⟩ := restrict h' fun b => decide (b ≠ e)
    have gk : ∀ b, b ≠ e → G'.get? b = h'.get? b := fun b hb => g1 b (decide_eq_true hb)
    have ge : G'.get? e = none := g2 e (by simp)
    have old : ∀ b o, hp.get? b = some o → G'.get? b = some o := fun b o q => (gk b (Nat.ne_of_lt (Nat.lt_of_lt_of_le (Heap.lt_size q) M.new))).trans (M.keep b o q)
    have ob : ObjOk X.prog X.w (upd H1 d (.xd [(f, v)])) G' d (.xd [(f, v)]) :=
      ⟨_, hns.at (fun o q => (gk d M.dne).trans q), fun f => relO_one rv f⟩
    have J : Inv X pins σ (upd H1 d (.xd [(f, v)])) ⟨G', g, dr, tk', os⟩ := I1.laid (t' := tk') old M.dbig ob
    refine ⟨e, oe, fv, ⟨G', g, dr, tk', os⟩, _, .ref C, some d, rfl, J, fun b o q => ?_, ge, hoe, ⟨hc, hd⟩, hdat, h1, ?_, rfl, I1.bare, raises_own T0.exC T0.tyC, q1 d (I1.hok.fresh M.dbig)⟩
    · by_cases hb : b = e
      · have q' : G'.get? b = some o := q
        rw [hb, ge] at q'; cases q'
      · exact (gk b hb).symm.trans q
    · rw [upd_ne (Ne.symm M.dne)]
      exact I1.hok.fresh M.new
end
def sRaise1 (n f : Str) (g : Ev → Sto → R (List D)) : Ev → Sto → SR := fun ρ S => (g ρ S).toS ρ fun ds S1 => match ds with
  | [d] => .er ⟨.own n, [(f, d)]⟩ ρ S1
  | _ => .stuck
theorem RepF.one {K : PySem.W.Frag} {ι : List Addr} {H : Hp} {f : Str} {d : D} {v : V} (h : RepV K ι H d v) : RepF K ι H [(f, d)] [(f, v)] := by
  rw [RepF]; exact ⟨v, [], rfl, h, by rw [RepF]⟩
theorem ds_raise1 {X : Cx} {W : WX} {C fI : Addr} {n qual f : Str} {a : Expr} {g : Ev → Sto → R (List D)} {p pos pos2 : Pos} {k : Nat} (hc : X.calm = true) (tk : Takes X W) (T0 : XCls X.K n C) (T : XInit X.K C fI qual f) (hr : Room k X.A) (hm : X.mg n = some (.ref C)) (ha : DA X W [a] g) (hg : Gl X n := by rfl) (hdb : (n == ("__debug__" : Str)) = false := by decide)
    (he : starEach (a :: []) X.env = (false, eval a X.env) :: starEach [] X.env := by rfl) (hpl : (backTo pos (starEach [] X.env)).any (·.1) = false := by rfl) :
    DS X W (.Raise (some (.Call (.Name n p) [a] [] pos)) none pos2) (sRaise1 n f g) := by
  refine PS.imp (ps_raise hc tk (pmk_x T0 T hr hm ha hg hdb he hpl)) fun E σ H ⟨ι, ρ, S, hE, hS, h⟩ => ⟨ι, ρ, S, hE, hS, (PostS.bind h hE).mono fun ds S1 ι1 H1 G1 s1 h1 vs rs => ?_⟩
  split at h1
  · rename_i d
    obtain ⟨v, rfl, rv⟩ := RepL.one_inv rs
    refine ⟨v, rfl, fun dd hd => ?_⟩
    have G2 : Grow ι1 H1 ι1 (upd H1 dd (.xd [(f, v)])) := Grow.upd hd
    exact h1 ι1 _ σ (.ref C) (some dd) G2 (s1.upd hd) ((hE.grow G1).grow G2) ⟨⟨C, rfl, T0.ns⟩, .inr ⟨dd, [(f, v)], rfl, s1.free hd, upd_same, RepF.one (RepV.grow G2 _ _ rv)⟩⟩
  · exact h1.elim
def sRaise0 (n : Str) : Ev → Sto → SR := fun ρ S => .er ⟨.own n, []⟩ ρ S
end DL
namespace DL
open PySem PySem.Spec L2
open PyProof.Rows hiding St
abbrev XTab := List (Cn × List Cn)
def repB (K : PySem.W.Frag) (c : Cn) (v : Value) : Bool := match c with
  | .own n => decide (PySem.W.nsIn K mainGlobals n = some (some v)) && (match v with
    | .ref _ => true
    | _ => false)
  | .blt n => v == .type n
def xattrB (K : PySem.W.Frag) (v : Value) : Bool := match v with
  | .ref C => (PySem.W.clsIn K C).isSome && (decide (PySem.W.findIn K (.ref C) "__getattribute__" = some (some (.builtin "BaseException.__getattribute__"))) && (decide (PySem.W.findIn K (.ref C) "__getattr__" = some none) && (decide (PySem.W.subIn K (.ref C) (.type "BaseException") = some true)
    && (decide (PySem.W.findIn K (.ref C) "__class__" = some (some (.builtin "object.__class__"))) && (decide (PySem.W.mroIn K C (.type "object") = some true) && (PySem.W.hasDictIn K C && (decide (PySem.W.specialIn K (.builtin "object.__class__") "__get__" = some (some (.builtin "getset_descriptor.__get__")))
    && decide (PySem.W.takesIn K (.builtin "object.__class__") = some true))))))))
  | _ => true
def tabB (K : PySem.W.Frag) (T : List (Cn × Value × List Cn)) : Bool := T.all fun q => repB K q.1 q.2.1 && (xattrB K q.2.1 && (decide (PySem.W.subIn K q.2.1 (.type "BaseException") = some true) && (decide (q.1 ∈ q.2.2) && T.all fun r => decide (PySem.W.kitCls K q.2.1 r.2.1 = some (decide (r.1 ∈ q.2.2))))))
def tabOf (T : List (Cn × Value × List Cn)) : XTab := T.map fun q => (q.1, q.2.2)
structure XAttr (K : PySem.W.Frag) (C : Addr) : Prop where
  cl : (PySem.W.clsIn K C).isSome = true
  ga : PySem.W.findIn K (.ref C) "__getattribute__" = some (some (.builtin "BaseException.__getattribute__"))
  gg : PySem.W.findIn K (.ref C) "__getattr__" = some none
  ex : PySem.W.subIn K (.ref C) (.type "BaseException") = some true
  ca : PySem.W.findIn K (.ref C) "__class__" = some (some (.builtin "object.__class__"))
  mo : PySem.W.mroIn K C (.type "object") = some true
  hd : PySem.W.hasDictIn K C = true
  hn : PySem.W.specialIn K (.builtin "object.__class__") "__get__" = some (some (.builtin "getset_descriptor.__get__"))
  ht : PySem.W.takesIn K (.builtin "object.__class__") = some true
structure TabOk (K : PySem.W.Frag) (tab : XTab) : Prop where
  at_ : ∀ c m C, (c, m) ∈ tab → RepC K c (.ref C) → XAttr K C
  sub : ∀ c m c' m' v v', (c, m) ∈ tab → (c', m') ∈ tab → RepC K c v → RepC K c' v' → PySem.W.kitCls K v v' = some (decide (c' ∈ m))
  exb : ∀ c m v, (c, m) ∈ tab → RepC K c v → PySem.W.subIn K v (.type "BaseException") = some true
  slf : ∀ c m, (c, m) ∈ tab → c ∈ m
theorem repC_of {K : PySem.W.Frag} {c : Cn} {v u : Value} (h : repB K c v = true) (r : RepC K c u) : u = v := by
  cases c with
  | own n =>
    unfold repB at h
    rw [Bool.and_eq_true] at h
    obtain ⟨C, rfl, e⟩ := r
    have := of_decide_eq_true h.1
    rw [e] at this
    exact Option.some.inj (Option.some.inj this)
  | blt n =>
    have e : v = .type n := beq_iff_eq.mp h
    rw [e]; exact r
theorem tab_ok {K : PySem.W.Frag} {T : List (Cn × Value × List Cn)} (h : tabB K T = true) : TabOk K (tabOf T) := by
  have all := List.all_eq_true.mp h
  have back : ∀ {c m}, (c, m) ∈ tabOf T → ∃ v, (c, v, m) ∈ T := fun {c m} hm => by
    obtain ⟨⟨c', v, m'⟩, hq, e⟩ := List.mem_map.mp hm
    cases e
    exact ⟨v, hq⟩
  have facts : ∀ {c v m}, (c, v, m) ∈ T → repB K c v = true ∧ xattrB K v = true ∧ PySem.W.subIn K v (.type "BaseException") = some true ∧ c ∈ m ∧ ∀ r ∈ T, PySem.W.kitCls K v r.2.1 = some (decide (r.1 ∈ m)) := fun {c v m} hm => by
    have := all _ hm
    simp only [Bool.and_eq_true, decide_eq_true_eq, List.all_eq_true] at this
    exact ⟨this.1, this.2.1, this.2.2.1, this.2.2.2.1, fun r hr => this.2.2.2.2 r hr⟩
  constructor
  · intro c m C hm r
    obtain ⟨v, hv⟩ := back hm
    obtain ⟨f1, f2, _⟩ := facts hv
    have e := repC_of f1 r
    subst e
    unfold xattrB at f2
    simp only [Bool.and_eq_true, decide_eq_true_eq] at f2
    obtain ⟨g1, g2, g3, g4, g5, g6, g7, g8, g9⟩ := f2
    exact ⟨g1, g2, g3, g4, g5, g6, g7, g8, g9⟩
  · intro c m c' m' v v' hm hm' r r'
    obtain ⟨u, hu⟩ := back hm
    obtain ⟨u', hu'⟩ := back hm'
    obtain ⟨f1, _, _, _, f2⟩ := facts hu
    obtain ⟨f1', _⟩ := facts hu'
    rw [repC_of f1 r, repC_of f1' r']
    exact f2 _ hu'
  · intro c m v hm r
    obtain ⟨u, hu⟩ := back hm
    obtain ⟨f1, _, f3, _⟩ := facts hu
    rw [repC_of f1 r]; exact f3
  · intro c m hm
    obtain ⟨u, hu⟩ := back hm
    exact (facts hu).2.2.2.1
/-- is an error of the class c one of c'? -/
def isX (tab : XTab) (c c' : Cn) : Option Bool := (tab.lookup c).bind fun m => (tab.lookup c').map fun _ => decide (c' ∈ m)
def isXs (tab : XTab) (c : Cn) : List Cn → Option Bool
  | [] => some false
  | c' :: r => (isX tab c c').bind fun b => if b = true then some true else isXs tab c r
theorem lookup_mem {α β : Type} [BEq α] [LawfulBEq α] {l : List (α × β)} {a : α} {b : β} (h : l.lookup a = some b) : (a, b) ∈ l := by
  induction l with
  | nil => cases h
  | cons q l ih =>
    obtain ⟨x, y⟩ := q
    by_cases e : a = x
    · subst e
      simp [List.lookup] at h
      subst h
      exact List.mem_cons_self
    · have : (a == x) = false := by simpa using e
      simp [List.lookup, this] at h
      exact List.mem_cons_of_mem _ (ih h)
theorem isX_some {tab : XTab} {c c' : Cn} {b : Bool} (h : isX tab c c' = some b) : ∃ m m', (c, m) ∈ tab ∧ (c', m') ∈ tab ∧ b = decide (c' ∈ m) := by
  unfold isX at h
  cases e : tab.lookup c with
  | none => rw [e] at h; cases h
  | some m =>
    cases e' : tab.lookup c' with
    | none => rw [e, e'] at h; cases h
    | some m' =>
      rw [e, e'] at h; cases h
      exact ⟨m, m', lookup_mem e, lookup_mem e', rfl⟩
theorem isX_kit {K : PySem.W.Frag} {tab : XTab} {c c' : Cn} {b : Bool} {v v' : Value} (T : TabOk K tab) (h : isX tab c c' = some b) (r : RepC K c v) (r' : RepC K c' v') : PySem.W.kitOne K v v' = some b := by
  obtain ⟨m, m', h1, h2, rfl⟩ := isX_some h
  unfold PySem.W.kitOne
  have k := T.sub c m c' m' v v' h1 h2 r r'
  split
  · rename_i e
    have e := beq_iff_eq.mp e
    subst e
    have k0 := T.sub c m c m v v h1 h1 r r
    rw [k] at k0
    rw [Option.some.inj k0, decide_eq_true (T.slf c m h1)]
  · exact k
theorem isX_exm {K : PySem.W.Frag} {tab : XTab} {c c' : Cn} {b : Bool} {v v' : Value} (T : TabOk K tab) (h : isX tab c c' = some b) (r : RepC K c v) (r' : RepC K c' v') : PySem.W.exmOne K v v' = some b := by
  obtain ⟨m, m', h1, h2, rfl⟩ := isX_some h
  unfold PySem.W.exmOne
  rw [if_pos (by rw [T.exb c' m' v' h2 r']; rfl)]
  exact T.sub c m c' m' v v' h1 h2 r r'
theorem exv_at {P : Program} {w : World} {H : Hp} {h : Heap} {a : Addr} {cls : Value} {d : Option Addr} (hok : HOk P w H h) (e : H a = some (exv a cls d)) : ∃ (oe : Obj) (vs : Array Value), h.get? a = some oe ∧ oe.cls = cls ∧ oe.dict = d ∧ oe.data = .fields vs := by
  have x : ObjOk P w H h a (.ext fun h => ∃ (oe : Obj) (vs : Array Value), h.get? a = some oe ∧ oe.cls = cls ∧ oe.dict = d ∧ oe.data = .fields vs) := hok a _ e
  exact x.1
theorem exv_inst {X : Cx} {pins : List (Addr × Obj)} {σ : L2.St} {H : Hp} {s : Shared} {a C : Addr} {d : Option Addr} (I : Inv X pins σ H s) (e : H a = some (exv a (.ref C) d)) (hd : d = none ∨ ∃ dd vs, d = some dd ∧ H dd = some (.xd vs)) :
    ∃ ox od, PySem.W.InstAt s.heap a ox C od ∧ (∀ dd, d = some dd → ∃ o, od = some o ∧ s.heap.get? dd = some o) := by
  obtain ⟨oe, vs, h1, h2, h3, h4⟩ := exv_at I.hok e
  rcases hd with rfl | ⟨dd, fs, rfl, hx⟩
  · exact ⟨oe, none, ⟨h1, h2, by unfold PySem.W.notCls; rw [h4], by rw [h3]; trivial⟩, fun dd z => nomatch z⟩
  · obtain ⟨mA, hns, _⟩ := (show ObjOk X.prog X.w H s.heap dd (.xd fs) from I.hok dd _ hx)
    obtain ⟨od, ho, _⟩ := lookIn_ns hns
    exact ⟨oe, some od, ⟨h1, h2, by unfold PySem.W.notCls; rw [h4], by rw [h3]; exact ho⟩, fun dd z => by cases z; exact ⟨od, rfl, ho⟩⟩
theorem exc_at {K : PySem.W.Frag} {ι : List Addr} {H : Hp} {c : Cn} {fs : List (Str × D)} {x : V} (r : RepV K ι H (.exc c fs) x) : ∃ a cls dd, x = .ref a ∧ H a = some (exv a cls dd) ∧ RepC K c cls ∧ ((dd = none ∧ fs = []) ∨ ∃ d vs, dd = some d ∧ H d = some (.xd vs) ∧ RepF K ι H fs vs) := by
  rw [RepV] at r
  obtain ⟨a, cls, dd, rfl, _, h1, h2, h3⟩ := r
  refine ⟨a, cls, dd, rfl, h1, h2, ?_⟩
  rcases h3 with h3 | ⟨d, vs, e1, _, e3, e4⟩
  · exact .inl h3
  · exact .inr ⟨d, vs, e1, e3, e4⟩
/-- isinstance(e, C), isinstance(e, (C, ..)) of an error that is held -/
def rIsX (K : PySem.W.Frag) (tab : XTab) : List V → Hp → VK → Prop := fun xs H Q => ∃ (a : Addr) (C : Addr) (dd : Option Addr) (c : Cn) (t : V), xs = [.ref a, t] ∧ H a = some (exv a (.ref C) dd) ∧ (dd = none ∨ ∃ d vs, dd = some d ∧ H d = some (.xd vs)) ∧ RepC K c (.ref C) ∧
  ((∃ c' b, isX tab c c' = some b ∧ (∀ u, RelV t u → RepC K c' u) ∧ Q (.bl b) H) ∨ (∃ p vs cs b, t = .ref p ∧ SqT K H p vs ∧ isXs tab c cs = some b ∧ cs ≠ [] ∧ (∀ us, Vals vs us → Paired (RepC K) cs us) ∧ Q (.bl b) H))
theorem isXs_kit {K : PySem.W.Frag} {tab : XTab} {c : Cn} {v : Value} (T : TabOk K tab) (r : RepC K c v) : ∀ {cs : List Cn} {us : List Value} {b : Bool}, Paired (RepC K) cs us → isXs tab c cs = some b → PySem.W.kitAny K v us = some b
  | [], _, b, .nil, h => by cases h; rfl
  | c' :: cs, _, b, .cons (b := u) r' t, h => by
    unfold isXs at h
    cases e : isX tab c c' with
    | none => rw [e] at h; cases h
    | some b' =>
      rw [e] at h
      have k := isX_kit T e r r'
      unfold PySem.W.kitAny
      rw [k]
      cases b' with
      | true => simp at h; subst h; rfl
      | false => simp at h; exact isXs_kit T r t h
theorem isX_tab {tab : XTab} {c c' : Cn} {b : Bool} (h : isX tab c c' = some b) : ∃ m, (c, m) ∈ tab := by
  obtain ⟨m, m', h1, _⟩ := isX_some h
  exact ⟨m, h1⟩
theorem call_isX {X : Cx} {tab : XTab} (T : TabOk X.K tab) : CallR X (.builtin "isinstance") (rIsX X.K tab) := by
  have nz : ∀ c C, RepC X.K c (.ref C) → (∃ m, (c, m) ∈ tab) → XAttr X.K C := fun c C r ⟨m, hm⟩ => T.at_ c m C hm r
  intro pins s σ H xs us Q I r h
  obtain ⟨a, C, dd, c, t, rfl, ha, hd, rc, q⟩ := h
  obtain ⟨u1, u2, rfl, r1, r2⟩ := vals2 r
  cases (show u1 = Value.ref a from r1)
  obtain ⟨ox, od, J, _⟩ := exv_inst I ha hd
  rcases q with ⟨c', b, e, hu, q⟩ | ⟨p, vs, cs, b, rfl, hs, e, hne, hu, q⟩
  · have AT := nz c C rc (isX_tab e)
    have Z : PySem.W.KitX X.K (.ref a) (.ref C) (fun h => PySem.W.InstAt h a ox C od) := PySem.W.kitx_exc AT.cl AT.ga AT.gg AT.ex AT.ca AT.hn AT.ht AT.mo
    exact PySem.W.kia_one Z I.kIn J (isX_kit T e rc (hu _ r2)) (fun z => nomatch z) fun tk => ⟨.bl b, H, I.tok tk, rfl, q⟩
  · cases (show u2 = Value.ref p from r2)
    obtain ⟨its, rv, ⟨⟨oc, od', dt, sl⟩, h1, h2, n, h3⟩, _⟩ := I.tuple hs
    simp only at h2 h3
    subst h2 h3
    cases cs with
    | nil => exact absurd rfl hne
    | cons c' cs =>
      have hc : ∃ m, (c, m) ∈ tab := by
        unfold isXs at e
        cases e' : isX tab c c' with
        | none => rw [e'] at e; cases e
        | some b' => exact isX_tab e'
      have AT := nz c C rc hc
      have Z : PySem.W.KitX X.K (.ref a) (.ref C) (fun h => PySem.W.InstAt h a ox C od) := PySem.W.kitx_exc AT.cl AT.ga AT.gg AT.ex AT.ca AT.hn AT.ht AT.mo
      exact PySem.W.kia_tup Z I.kIn J h1 (isXs_kit T rc (hu its rv) e) (fun z => nomatch z) fun tk => ⟨.bl b, H, I.tok tk, rfl, q⟩
theorem RepF.look {K : PySem.W.Frag} {ι : List Addr} {H : Hp} {f : Str} {d : D} : ∀ {fs : List (Str × D)} {vs : List (Str × V)}, RepF K ι H fs vs → fs.lookup f = some d → ∃ v, vs.lookup f = some v ∧ RepV K ι H d v
  | [], _, r, e => by cases e
  | (k, x) :: fs, _, r, e => by
    rw [RepF] at r
    obtain ⟨v, us, rfl, rv, rs⟩ := r
    by_cases h : f = k
    · subst h
      simp [List.lookup] at e
      subst e
      exact ⟨v, by simp [List.lookup], rv⟩
    · have hb : (f == k) = false := by simpa using h
      simp [List.lookup, hb] at e
      obtain ⟨v', h1, h2⟩ := RepF.look rs e
      exact ⟨v', by simp [List.lookup, hb]; exact h1, h2⟩
/-- fields that no class of the table has as an attribute of its own -/
def NoAt (K : PySem.W.Frag) (tab : XTab) (f : Str) : Prop := ∀ c m C, (c, m) ∈ tab → RepC K c (.ref C) → PySem.W.findIn K (.ref C) f = some none
def tAtX (K : PySem.W.Frag) (tab : XTab) (f : Str) (te : TE) : TE := fun σ H Q => te σ H fun x H1 => ∃ (a C : Addr) (c : Cn) (m : List Cn) (dd : Addr) (fs : List (Str × V)) (v : V), x = .ref a ∧ H1 a = some (exv a (.ref C) (some dd)) ∧ (c, m) ∈ tab ∧ RepC K c (.ref C) ∧ H1 dd = some (.xd fs) ∧ fs.lookup f = some v ∧ Q v H1
theorem pe_atX {X : Cx} {tab : XTab} {e : Expr} {te : TE} {pos : Pos} {f : Str} (T : TabOk X.K tab) (hno : NoAt X.K tab f) (he : PE X e te) (hb : attributeBase e f X.env (eval e X.env) = eval e X.env := by rfl) :
    PE X (.Attribute e f pos) (tAtX X.K tab f te) := by
  refine ⟨fun pins s σ H Q I h => ?_⟩
  refine attr_of hb (thn (he.run pins s σ H _ I h) fun u s1 hh => ?_)
  obtain ⟨x, H1, I1, rx, a, C, c, m, dd, fs, v, rfl, ea, hm, rc, ed, l, q⟩ := hh
  obtain rfl : u = Value.ref a := rx
  have AT := T.at_ c m C hm rc
  obtain ⟨ox, od, J, hod⟩ := exv_inst I1 ea (.inr ⟨dd, fs, rfl, ed⟩)
  obtain ⟨o, rfl, ho⟩ := hod dd rfl
  obtain ⟨mA, hns, hr⟩ := (show ObjOk X.prog X.w H1 s1.heap dd (.xd fs) from I1.hok dd _ ed)
  obtain ⟨o', ho', hl⟩ := lookIn_ns hns
  rw [ho] at ho'
  cases ho'
  obtain ⟨u, hu, ru⟩ := RelO.some_of (v := v) (o := mA f) (by rw [← l]; exact hr f)
  exact HandSPX.exc_get I1.kIn J AT.ga AT.gg AT.ex (PySem.W.findObj_own AT.hd (hno c m C hm rc) rfl (by rw [hl, hu])) (handed_of ru) ⟨v, H1, I1.tok _, ru, q⟩
def dAtX (tab : XTab) (f : Str) (d : D) (S : Sto) : R D := match d with
  | .exc (.own n) fs => if (tab.lookup (.own n)).isSome = true then (match fs.lookup f with
    | some v => .ok v S
    | none => .stuck) else .stuck
  | _ => .stuck
def eAtX (tab : XTab) (f : Str) (g : Ev → Sto → R D) : Ev → Sto → R D := fun ρ S => (g ρ S).bind fun d S1 => dAtX tab f d S1
theorem de_atX {X : Cx} {W : WX} {tab : XTab} {e : Expr} {pos : Pos} {f : Str} {g : Ev → Sto → R D} (T : TabOk X.K tab) (hno : NoAt X.K tab f) (he : DE X W e g) (hb : attributeBase e f X.env (eval e X.env) = eval e X.env := by rfl) :
    DE X W (.Attribute e f pos) (eAtX tab f g) := by
  refine PE.imp (pe_atX T hno he hb) fun σ H Q ⟨ι, ρ, S, hE, hS, h⟩ => ⟨ι, ρ, S, hE, hS, (Post.bind h).mono fun d S1 ι1 H1 G1 s1 h1 x rx => ?_⟩
  unfold dAtX at h1
  split at h1
  · rename_i n fs
    split at h1
    · rename_i hc
      split at h1
      · rename_i v hv
        obtain ⟨a, cls, dd, rfl, ea, rc, hd⟩ := exc_at rx
        obtain ⟨m, hm⟩ := Option.isSome_iff_exists.mp hc
        rcases hd with ⟨_, rfl⟩ | ⟨d, vs, rfl, hx, rf⟩
        · cases hv
        · obtain ⟨u, hu, ru⟩ := RepF.look rf hv
          obtain ⟨C, rfl, e⟩ := id rc
          exact ⟨a, C, .own n, m, d, vs, u, rfl, ea, lookup_mem hm, rc, hx, hu, h1.here s1 _ ru⟩
      · exact h1.elim
    · exact h1.elim
  · exact h1.elim
end DL
namespace DL
open PySem PySem.Spec L2
open PyProof.Rows hiding St
def clsD : D → Option Cn
  | .fn n => some (.own n)
  | .ty n => some (.blt n)
  | _ => none
def clsDs : List D → Option (List Cn)
  | [] => some []
  | d :: ds => (clsD d).bind fun c => (clsDs ds).map fun cs => c :: cs
def kitBs (t : String) : List Cn → Option Bool
  | [] => some false
  | .blt c :: r => (kitB t c).bind fun b => if b = true then some true else kitBs t r
  | .own _ :: _ => none
def bIsi2 (tab : XTab) : Fn := fun ds S => match ds with
  | [.exc (.own n) _, .tup ts] => (match clsDs ts with
    | some (c :: cs) => (match isXs tab (.own n) (c :: cs) with
      | some b => .ok (.bl b) S
      | none => .stuck)
    | _ => .stuck)
  | [.exc (.own n) _, t] => (match clsD t with
    | some c => (match isX tab (.own n) c with
      | some b => .ok (.bl b) S
      | none => .stuck)
    | none => .stuck)
  | [d, .tup ts] => (match clsDs ts, tyOf S d with
    | some cs, some t => (match kitBs t cs with
      | some b => .ok (.bl b) S
      | none => .stuck)
    | _, _ => .stuck)
  | ds => bIsi ds S
def rIsi2 (K : PySem.W.Frag) (tab : XTab) : List V → Hp → VK → Prop := fun xs H Q => rIsX K tab xs H Q ∨ (rIsiT K xs H Q ∨ rIsiK K xs H Q) ∨ rIsi K xs H Q
theorem c_isi2 {X : Cx} {tab : XTab} (T : TabOk X.K tab) : CallR X (.builtin "isinstance") (rIsi2 X.K tab) := CallR.or (call_isX T) (CallR.or (CallR.or call_isiT call_isiK) call_isi)
theorem clsD_rep {K : PySem.W.Frag} {ι : List Addr} {H : Hp} {d : D} {v : V} {c : Cn} (r : RepV K ι H d v) (e : clsD d = some c) : ∀ u, RelV v u → RepC K c u := by
  cases d with
  | fn n => cases e; rw [RepV] at r; obtain ⟨a, rfl, h⟩ := r; exact fun u ru => ⟨a, ru, h⟩
  | ty n => cases e; rw [RepV] at r; subst r; exact fun u ru => ru
  | _ => cases e
theorem clsDs_rep {K : PySem.W.Frag} {ι : List Addr} {H : Hp} : ∀ {ds : List D} {vs : List V} {cs : List Cn}, RepL K ι H ds vs → clsDs ds = some cs → ∀ us, Vals vs us → Paired (RepC K) cs us
  | [], vs, cs, r, e, us, rv => by rw [RepL] at r; cases e; subst r; cases rv; exact .nil
  | d :: ds, vs, cs, r, e, us, rv => by
    rw [RepL] at r
    obtain ⟨v, ws, rfl, a, b⟩ := r
    rw [clsDs] at e
    cases h : clsD d with
    | none => rw [h] at e; cases e
    | some c =>
      rw [h] at e
      cases h2 : clsDs ds with
      | none => rw [h2] at e; cases e
      | some cs' =>
        rw [h2] at e; cases e
        cases rv with
        | cons r1 r2 => exact .cons (clsD_rep a h _ r1) (clsDs_rep b h2 _ r2)
theorem kitBs_any {K : PySem.W.Frag} {t : String} : ∀ {cs : List Cn} {us : List Value} {b : Bool}, Paired (RepC K) cs us → kitBs t cs = some b → PySem.W.kitAny K (.type t) us = some b
  | [], _, b, .nil, h => by cases h; rfl
  | .own n :: cs, _, b, .cons _ _, h => by cases h
  | .blt n :: cs, _, b, .cons (b := u) r p, h => by
    cases (show u = Value.type n from r)
    unfold kitBs at h
    cases e : kitB t n with
    | none => rw [e] at h; cases h
    | some b' =>
      rw [e] at h
      unfold PySem.W.kitAny
      rw [kit_ty e]
      cases b' with
      | true => simp at h; subst h; rfl
      | false => simp at h; exact kitBs_any p h
theorem kitBs_cls {K : PySem.W.Frag} {t : String} {ι : List Addr} {H : Hp} : ∀ {ds : List D} {vs : List V} {cs : List Cn} {us : List Value}, RepL K ι H ds vs → clsDs ds = some cs → Vals vs us → Paired ClsV vs us
  | [], vs, cs, us, r, e, rv => by rw [RepL] at r; subst r; cases rv; exact .nil
  | d :: ds, vs, cs, us, r, e, rv => by
    rw [RepL] at r
    obtain ⟨v, ws, rfl, a, b⟩ := r
    rw [clsDs] at e
    cases h : clsD d with
    | none => rw [h] at e; cases e
    | some c =>
      rw [h] at e
      cases h2 : clsDs ds with
      | none => rw [h2] at e; cases e
      | some cs' =>
        cases rv with
        | cons r1 r2 =>
          refine .cons ?_ (kitBs_cls (t := t) b h2 r2)
          cases d with
          | fn n => rw [RepV] at a; obtain ⟨q, rfl, _⟩ := a; cases (show _ = Value.ref q from r1); exact .own q
          | ty n => rw [RepV] at a; subst a; cases (show _ = Value.type n from r1); exact .ty n
          | _ => cases h
theorem k_isi2 {K : PySem.W.Frag} {tab : XTab} : CallK K (rIsi2 K tab) (bIsi2 tab) := by
  intro W σ ι H S vs ds Q s rl h
  unfold bIsi2 at h
  split at h
  · rename_i n fs ts
    obtain ⟨v, u, rfl, rv, ru⟩ := RepL.two_inv rl
    split at h
    · rename_i c cs hc
      split at h
      · rename_i b hb
        obtain ⟨a, cls, dd, rfl, ha, rc, hd⟩ := exc_at rv
        obtain ⟨C, rfl, _⟩ := id rc
        obtain ⟨p, us, rfl, q, ru'⟩ := tup_at ru
        refine .inl ⟨a, C, dd, .own n, .ref p, rfl, ha, ?_, rc, .inr ⟨p, us, c :: cs, b, rfl, q, hb, by simp, clsDs_rep ru' hc, h.here s _ bl_rep⟩⟩
        rcases hd with ⟨e, _⟩ | ⟨d, ws, e, hx, _⟩
        · exact .inl e
        · exact .inr ⟨d, ws, e, hx⟩
      · exact h.elim
    · exact h.elim
  · rename_i n fs t _
    obtain ⟨v, u, rfl, rv, ru⟩ := RepL.two_inv rl
    split at h
    · rename_i c hc
      split at h
      · rename_i b hb
        obtain ⟨a, cls, dd, rfl, ha, rc, hd⟩ := exc_at rv
        obtain ⟨C, rfl, _⟩ := id rc
        refine .inl ⟨a, C, dd, .own n, u, rfl, ha, ?_, rc, .inl ⟨c, b, hb, clsD_rep ru hc, h.here s _ bl_rep⟩⟩
        rcases hd with ⟨e, _⟩ | ⟨d, ws, e, hx, _⟩
        · exact .inl e
        · exact .inr ⟨d, ws, e, hx⟩
      · exact h.elim
    · exact h.elim
  · rename_i d ts _
    obtain ⟨v, u, rfl, rv, ru⟩ := RepL.two_inv rl
    split at h
    · rename_i cs t hc ht
      split at h
      · rename_i b hb
        rw [RepV] at ru
        obtain ⟨p, us, rfl, tt, ru'⟩ := ru
        have ty := ty_at s rv ht
        refine .inr (.inl ?_)
        rcases tt with ⟨_, tt⟩ | tt
        · have : ∃ ws, Vals us ws := by
            have key : ∀ {ds : List D} {us : List V} {cs : List Cn}, RepL K ι H ds us → clsDs ds = some cs → ∃ ws, Vals us ws := by
              intro ds
              induction ds with
              | nil => intro us cs r e; rw [RepL] at r; subst r; exact ⟨[], .nil⟩
              | cons d ds ih =>
                intro us cs r e
                rw [RepL] at r
                obtain ⟨v, ws, rfl, a, b⟩ := r
                rw [clsDs] at e
                cases h : clsD d with
                | none => rw [h] at e; cases e
                | some c =>
                  rw [h] at e
                  cases h2 : clsDs ds with
                  | none => rw [h2] at e; cases e
                  | some cs' =>
                    obtain ⟨zs, hz⟩ := ih b h2
                    cases d with
                    | fn n => rw [RepV] at a; obtain ⟨q, rfl, _⟩ := a; exact ⟨.ref q :: zs, .cons rfl hz⟩
                    | ty n => rw [RepV] at a; subst a; exact ⟨.type n :: zs, .cons rfl hz⟩
                    | _ => cases h
            exact key ru' hc
          obtain ⟨ws, hw⟩ := this
          exact .inl ⟨v, p, us, .type t, ws, b, rfl, tt, kitBs_cls (t := t) ru' hc hw, ty, kitBs_any (clsDs_rep ru' hc ws hw) hb, h.here s _ bl_rep⟩
        · rcases tt with tt | ⟨o, its, n, h1, h2, h3, h4, h5⟩
          · exact (no_rd tt).elim
          · obtain ⟨oc, od, dt, sl⟩ := o
            dsimp only at h2 h3
            subst h2 h3
            refine .inr ⟨v, p, od, its.toList, n, sl, .type t, b, rfl, by simpa using h1, ty, kitBs_any (clsDs_rep ru' hc _ h5) hb, h.here s _ bl_rep⟩
      · exact h.elim
    · exact h.elim
  · exact .inr (.inr (k_isi W σ ι H S vs _ Q s rl h))
end DL
namespace DL
open PySem PySem.Spec L2
open PyProof.Rows hiding St
theorem flying_keeps {base h h' : Heap} {l : List Env} {e : Addr} {Z : Obj → Prop} (x : HandSPX.FlyingZ base l e Z h) (k : ∀ b o, h.get? b = some o → h'.get? b = some o) : HandSPX.FlyingZ base l e Z h' := by
  obtain ⟨k1, k2, k3, oe, vs, T, oT, ts, he, hz, hd, h1, hnT, hTe, hT, hdT, h3⟩ := x
  exact ⟨fun b o q => k b o (k1 b o q), k2, k3.of_keeps fun b o hb _ => ⟨o, k b o hb, rfl⟩, oe, vs, T, oT, ts, k _ _ he, hz, hd, h1, hnT, hTe, k _ _ hT, hdT, h3⟩
section
variable {X : Cx} {pins : List (Addr × Obj)} {σ : L2.St} {H : Hp} {s : Shared} {a : Addr}
theorem exv_ok {P : Program} {w : World} {h : Heap} {oe : Obj} {vs : Array Value} {cls : Value} {d : Option Addr} (ha : h.get? a = some oe) (hz : Zc cls d oe) (hd : oe.data = .fields vs) : ObjOk P w H h a (exv a cls d) :=
  ⟨⟨oe, vs, ha, hz.1, hz.2, hd⟩, ⟨oe, ha⟩, fun h1 h2 z k => by
    obtain ⟨o, ws, e1, e2, e3, e4⟩ := z
    exact ⟨o, ws, k _ e1, e2, e3, e4⟩⟩
/-- an error that came by is taken among the tracked things -/
theorem adopt {oe : Obj} {vs : Array Value} {cls : Value} {d : Option Addr} (I : Inv X pins σ H s) (ha : s.heap.get? a = some oe) (hz : Zc cls d oe) (hd : oe.data = .fields vs) (na : H a = none) (n0 : X.s_0.heap.get? a = none) (nL : a ≠ X.env.locals)
    (np : ∀ p ∈ X.pn ++ pins, p.1 ≠ a) : Inv X pins σ (upd H a (exv a cls d)) s := by
  have ne0 : ∀ {b : Addr} {o : Obj}, X.s_0.heap.get? b = some o → b ≠ a := fun {b o} e z => by rw [z, n0] at e; cases e
  have neH : ∀ {b : Addr} {u : HO}, H b = some u → b ≠ a := fun {b u} e z => by rw [z, na] at e; cases e
  refine ⟨I.ok, I.os, I.bare, ⟨I.base.keep, I.base.slot, fun b o e n x => ?_, I.base.there, fun b xs e => ?_, fun b o u e => ?_, fun b ps e => ?_⟩, I.loc, I.cell, ?_, fun x c e => ?_, fun p hp => ?_, fun b o e => ?_, I.len⟩
  · rw [upd_ne (ne0 e)]; exact I.base.free b o e n x
  · have q := I.base.tups b xs e
    rw [upd_ne (neH q)]; exact q
  · have q := I.base.frzs b o u e
    rw [upd_ne (neH q)]; exact q
  · obtain ⟨more, q⟩ := I.base.tbls b ps e
    exact ⟨more, by rw [upd_ne (neH q)]; exact q⟩
  · rw [upd_ne (Ne.symm nL)]; exact I.free
  · have hne : c ≠ a := fun z => by
      obtain ⟨v, o, e1, e2⟩ := I.cell x c e
      rw [z, ha] at e1
      have e1 := Option.some.inj e1
      subst e1
      rw [hd] at e2
      first | cases e2 | cases e2.1 | cases e2.2
    rw [upd_ne hne]; exact I.freeC x c e
  · obtain ⟨p1, p2, p3, p4, p5⟩ := I.pin p hp
    exact ⟨p1, by rw [upd_ne (np p hp)]; exact p2, p3, p4, p5⟩
  · by_cases hb : b = a
    · subst hb
      rw [upd_same] at e
      cases e
      exact exv_ok ha hz hd
    · rw [upd_ne hb] at e
      exact (I.hok b o e).stay (fun c u _ q => q) (fun c q => by rw [upd_ne (neH q)]; exact q) fun c xs q => by rw [upd_ne (neH q)]; exact q
theorem suite0 (I : Inv X pins σ H s) (a : Addr) : Inv (X.suite a (X.pn ++ pins)) [] σ H s :=
  ⟨I.ok.suite _ _, I.os, I.bare, I.base, I.loc, I.cell, I.free, I.freeC, fun p hp => I.pin p (by rw [List.append_nil] at hp; exact hp), I.hok, I.len⟩
theorem unsuite0 {pn' : List (Addr × Obj)} (I : Inv (X.suite a (X.pn ++ pins)) pn' σ H s) (ok : X.Ok) : Inv X pins σ H s :=
  ⟨ok, I.os, I.bare, I.base, I.loc, I.cell, I.free, I.freeC, fun p hp => I.pin p (List.mem_append_left _ hp), I.hok, I.len⟩
end
/-- what an except clause's expression answers -/
def XTest (X : Cx) (tab : XTab) (te : Expr) (cs : List Cn) : Prop := ∀ (a : Addr) (pn pins : List (Addr × Obj)) (σ : L2.St) (H : Hp) (s : Shared) (cls : Value) (c : Cn) (b : Bool) (Q : Value → Shared → Prop) (E : Value → Shared → Prop), Inv (X.suite a pn) pins σ H s →
  PySem.W.Looks (model X.prog X.w) s.heap (typeOf (.ref a)) cls → RepC X.K c cls → isXs tab c cs = some b →
  (∀ v h', (∀ b o, s.heap.get? b = some o → h'.get? b = some o) → PySem.W.Looks (model X.prog X.w) h' (excMatches (.ref a) v) b → Q v { s with heap := h' }) → wpAny (model X.prog X.w) (X.A.mark (some (.ref a))) (eval te X.env) Q E s
def NamesC (X : Cx) (x : Str) (c : Cn) : Prop := ∃ v, Names X x v ∧ RepC X.K c v
theorem ld_names {X : Cx} {a : Addr} {pn pins : List (Addr × Obj)} {σ : L2.St} {H : Hp} {s : Shared} {x : Str} {np : Pos} {v : Value} {Q : Value → Shared → Prop} {E : Value → Shared → Prop} (I : Inv (X.suite a pn) pins σ H s) (hc : Names X x v) (q : Q v s) :
    wpAny (model X.prog X.w) (X.A.mark (some (.ref a))) (eval (.Name x np) X.env) Q E s := by
  obtain ⟨hg, hdbg, hm | ⟨hm, hv, hnn⟩⟩ := hc
  · exact ld_glob (X := X.suite a pn) I hg hm q hdbg
  · exact ld_blt (X := X.suite a pn) I hg hm hv q hnn hdbg
theorem xt_one {X : Cx} {tab : XTab} {x : Str} {np : Pos} {c' : Cn} (T : TabOk X.K tab) (hc : NamesC X x c') : XTest X tab (.Name x np) [c'] := by
  intro a pn pins σ H s cls c b Q E I LT rc e q
  obtain ⟨v, hn, rv⟩ := hc
  have e' : isX tab c c' = some b := by
    unfold isXs at e
    cases h : isX tab c c' with
    | none => rw [h] at e; cases e
    | some b' =>
      rw [h] at e
      cases b' with
      | true => simp at e; rw [e]
      | false => simp [isXs] at e; rw [e]
  refine ld_names I hn ?_
  have := q v s.heap (fun _ _ z => z) (PySem.W.exm_one I.kIn LT (isX_exm T e' rc rv))
  exact this
/-- what the clause wishes of an error of the body -/
def wTry (K : PySem.W.Frag) (tab : XTab) (cs : List Cn) (i : Nat) (ts : TS) (Wout : WX) (D : Ends) : WX := fun cls d σ H =>
  ∃ c b, RepC K c cls ∧ isXs tab c cs = some b ∧ (b = true → ∀ a, H a = none → ts { nx := fun σ' H' => D.nx (σ'.set i none) H', rt := D.rt, bk := fun σ' H' => D.bk (σ'.set i none) H', ct := fun σ' H' => D.ct (σ'.set i none) H' } (σ.set i (some (.ref a))) (upd H a (exv a cls d))) ∧
    (b = false → Wout cls d σ H)
section
variable {X : Cx} {n : Str} {tab : XTab} {cs : List Cn} {i : Nat} {body suite : List Stmt} {b₀ : Stmt} {te : Expr} {pos pos' : Pos} {tb : WX → TS} {ts : TS} {Wout : WX}
theorem ps_tryV (hs : X.stack = X.env :: X.outer) (hf : X.env.frame = some X.env.locals) (hex : X.ex = []) (hN : X.N.Nodup) (hi : X.N[i]? = some n) (hln : X.env.kindOf n = some .local) (ht : XTest X tab te cs) (tk : Takes X Wout)
    (hb : ∀ (W : WX) (pn : List (Addr × Obj)) (xe : Value → Shared → Prop), Takes (X.tr pn xe) W → PassesOwn (model X.prog X.w) X.A X.env xe → PSs (X.tr pn xe) body (tb W))
    (hsu : ∀ (a : Addr) (pn : List (Addr × Obj)), PSs (X.suite a pn) (b₀ :: suite) ts) :
    PS X (.Try body [.ExceptHandler (some te) (some n) (b₀ :: suite) pos'] [] [] pos) (fun D σ H => tb (wTry X.K tab cs i ts Wout D) D σ H) := by
  refine ⟨fun pins s σ H D I h => ?_⟩
  have ok := I.ok
  have hfr : X.A.frames = some (X.env :: X.outer) := by rw [ok.frames, hs]
  have hloc : Loc X.env.scope n := .inl hln
  refine wpAny_Try_except ?_
  refine wpAny_mono ((hb (wTry X.K tab cs i ts Wout D) (X.pn ++ pins) (fun e s₁ => wpAny (model X.prog X.w) X.A (noteFrame e X.env) (fun _ s₂ => wpAny (model X.prog X.w) X.A (setFlight e none) (fun _ s₃ =>
    wpAny (model X.prog X.w) X.A (handleBy e X.env [.ExceptHandler (some te) (some n) (b₀ :: suite) pos']) (SP X pins D) X.xe s₃) X.xe s₂) X.xe s₁) (fun u s' xx => ?_) PassesOwn.looking).run [] s σ H D (I.toTry _) h) (fun f s1 hsp => ?_) (fun e s1 he => he)
  · obtain ⟨a, B, sI, pins', σ', H', cls, d, rfl, J', nb, up, sky, na, os, ag, c, b, rc, hb1, hyes, hno⟩ := xx
    have J : Inv X pins σ' H' sI := J'.ofTry ok
    have sky' : Sky B (X.env :: X.outer) a (Zc cls d) X.env.locals s'.heap := by rw [← hs]; exact sky
    show wpAny (model X.prog X.w) X.A (noteFrame (.ref a) X.env) _ _ _
    refine Sky.land Zc.steady hfr hf sky' fun h3 fl3 up3 => ?_
    have J3 : Inv X pins σ' H' { s' with heap := h3 } := J.landed nb fl3.1 (up.trans up3) os ag
    obtain ⟨oe3, vs3, he3, hz3, hd3⟩ := fl3.there
    have nfr : a ∉ frs (X.env :: X.outer) := fun hm => by
      obtain ⟨_, o', e', hnf⟩ := fl3.2.2.1.mem hm
      rw [he3] at e'; cases e'
      exact hnf _ hd3
    have nI : sI.heap.get? a = none := by
      cases e : sI.heap.get? a with
      | none => rfl
      | some o =>
        have := nb a o e (by rw [hs]; exact nfr)
        rw [fl3.2.1] at this; cases this
    have n0 : X.s_0.heap.get? a = none := by
      cases e : X.s_0.heap.get? a with
      | none => rfl
      | some o =>
        obtain ⟨o', e'⟩ := J.base.there a o e (by rw [hex]; simp)
        rw [nI] at e'; cases e'
    have np : ∀ p ∈ X.pn ++ pins, p.1 ≠ a := fun p hp z => by
      have := (J.pin p hp).1
      rw [z, nI] at this; cases this
    have nL : a ≠ X.env.locals := fun z => nfr (List.mem_filterMap.mpr ⟨X.env, List.mem_cons_self, by rw [hf, z]⟩)
    have S3 := suite0 J3 a
    refine wpAny_handleBy_cons (codeAny_handlers_test ?_) (by intro q; cases q)
    have LT : PySem.W.Looks (model X.prog X.w) h3 (typeOf (.ref a)) cls := fun A Q E s k q => wpAny_typeOf_ref (k _ _ he3) (by rw [hz3.1]; exact q)
    refine ht a _ _ _ _ _ cls c b _ _ S3 LT rc hb1 fun v h3' k3 LM => LM.here ?_
    have fl3' := flying_keeps fl3 k3
    have up3' : sI.heap.UpToSlots h3' := (up.trans up3).trans fun b o e _ => ⟨o.slots, k3 b o e⟩
    cases b with
    | true =>
      refine codeAny_handlers_suite_as ?_
      refine HandSPX.lands_againZ fl3' fun h4 fl4 up4 => ?_
      have J4 : Inv X pins σ' H' { s' with heap := h4 } := J.landed nb fl4.1 (up3'.trans up4) os ag
      obtain ⟨oe4, vs4, he4, hz4, hd4⟩ := fl4.there
      have J5 : Inv X pins σ' (upd H' a (exv a cls d)) { s' with heap := h4 } := adopt J4 he4 hz4 hd4 na n0 nL np
      have S4 := suite0 J5 a
      refine store_ok (X := X.suite a (X.pn ++ pins)) (v := .ref a) S4 hN hi hloc rfl (fun s5 S5 => ?_) (.inr hln)
      refine wpAny_mono ((hsu a (X.pn ++ pins)).run [] s5 _ _ _ S5 (hyes rfl a na)) (fun f s6 hsp => ?_) (fun _ _ z => False.elim z)
      have end_ : ∀ {σ6 : L2.St} {H6 : Hp} {Q : Shared → Prop}, Inv (X.suite a (X.pn ++ pins)) [] σ6 H6 s6 → (∀ s7, Inv X pins (σ6.set i none) H6 s7 → Q s7) →
          wpAny (model X.prog X.w) X.A (do bindName X.env n .none; unbindBehindTheSuite X.env n pos') (fun _ s7 => Q s7) X.xe s6 := fun {σ6 H6 Q} S6 hq => gone_ok (unsuite0 S6 ok) hN hi hln hq
      cases f with
      | next =>
        obtain ⟨σ6, H6, S6, q6⟩ := hsp
        exact end_ S6 fun s7 J7 => ⟨_, _, J7, q6⟩
      | brk =>
        obtain ⟨σ6, H6, S6, q6⟩ := hsp
        exact end_ S6 fun s7 J7 => ⟨_, _, J7, q6⟩
      | cont =>
        obtain ⟨σ6, H6, S6, q6⟩ := hsp
        exact end_ S6 fun s7 J7 => ⟨_, _, J7, q6⟩
      | ret u =>
        obtain ⟨v6, σ6, H6, S6, r6, q6⟩ := hsp
        exact end_ S6 fun s7 J7 => ⟨_, _, _, J7, r6, q6⟩
    | false =>
      show wpAny _ X.A (handleBy (.ref a) X.env []) _ _ _
      refine wpAny_handleBy_nil ?_
      obtain ⟨k1, k2, k3', oe, vs, T, oT, ts', he, hz, hd, h1, hr⟩ := id fl3'
      unfold PySem.passOn
      refine wpAny_bind (wpAny_field he hd h1 ?_)
      rw [if_neg (show ¬ ((Value.ref T == Value.none) = true) from by simp)]
      have fin : wpAny (model X.prog X.w) X.A (setFlight (.ref a) X.env.frame) (fun _ s4 => wpAny (model X.prog X.w) X.A (throw (.ref a) : Sem Flow) (SP X pins D) X.xe s4) X.xe { s' with heap := h3' } := by
        rw [hf]
        refine HandSPX.setFlight_upZ fl3' fun h4 hh4 up4 => wpAny_throw (tk _ _ ?_)
        exact ⟨a, B, sI, pins, σ', H', cls, d, rfl, J, nb, up3'.trans up4, .inr (.inr (by rw [hs]; exact hh4)), na, os, ag, hno rfl⟩
      first
        | exact wpAny_bind (wpAny_pure (wpAny_bind fin))
        | exact wpAny_bind fin
  · cases f with
    | next =>
      obtain ⟨σ', H', J', q⟩ := hsp
      exact wpAny_execs_nil ⟨σ', H', J'.ofTry ok, q⟩
    | brk =>
      obtain ⟨σ', H', J', q⟩ := hsp
      exact ⟨σ', H', J'.ofTry ok, q⟩
    | cont =>
      obtain ⟨σ', H', J', q⟩ := hsp
      exact ⟨σ', H', J'.ofTry ok, q⟩
    | ret u =>
      obtain ⟨v, σ', H', J', r, q⟩ := hsp
      exact ⟨v, σ', H', J'.ofTry ok, r, q⟩
end
end DL
namespace DL
open PySem PySem.Spec L2
open PyProof.Rows hiding St
def sTry (tab : XTab) (cs : List Cn) (i : Nat) (B Su : Ev → Sto → SR) : Ev → Sto → SR := fun ρ S => match B ρ S with
  | .er e ρ1 S1 => (match isXs tab e.cls cs with
    | some true => (match Su (ρ1.set i (some (.exc e.cls e.fs))) S1 with
      | .nx ρ2 S2 => .nx (ρ2.set i none) S2
      | .bk ρ2 S2 => .bk (ρ2.set i none) S2
      | .ct ρ2 S2 => .ct (ρ2.set i none) S2
      | .rt d S2 => .rt d S2
      | .er _ _ _ => .stuck
      | .stuck => .stuck)
    | some false => .er e ρ1 S1
    | none => .stuck)
  | r => r
theorem ds_try (i : Nat) {X : Cx} {W : WX} {n : Str} {tab : XTab} {cs : List Cn} {body suite : List Stmt} {b₀ : Stmt} {te : Expr} {pos pos' : Pos} {B Su : Ev → Sto → SR} (hN : X.N.Nodup) (ht : XTest X tab te cs) (tk : Takes X W)
    (hb : ∀ (W' : WX) (pn : List (Addr × Obj)) (xe : Value → Shared → Prop), Takes (X.tr pn xe) W' → PassesOwn (model X.prog X.w) X.A X.env xe → DSs (X.tr pn xe) W' body B)
    (hsu : ∀ (a : Addr) (pn : List (Addr × Obj)), DSs (X.suite a pn) W0 (b₀ :: suite) Su)
    (hs : X.stack = X.env :: X.outer := by rfl) (hf : X.env.frame = some X.env.locals := by rfl) (hex : X.ex = [] := by rfl) (hi : X.N[i]? = some n := by rfl) (hln : X.env.kindOf n = some .local := by rfl) :
    DS X W (.Try body [.ExceptHandler (some te) (some n) (b₀ :: suite) pos'] [] [] pos) (sTry tab cs i B Su) := by
  refine PS.imp (ps_tryV (tb := fun W' => rdS X.K W' B) (ts := rdS X.K W0 Su) hs hf hex hN hi hln ht tk hb hsu) fun E σ H ⟨ι, ρ, S, hE, hS, h⟩ => ⟨ι, ρ, S, hE, hS, ?_⟩
  unfold sTry at h
  cases hB : B ρ S with
  | nx ρ1 S1 => rw [hB] at h; exact h
  | rt d S1 => rw [hB] at h; exact h
  | bk ρ1 S1 => rw [hB] at h; exact h
  | ct ρ1 S1 => rw [hB] at h; exact h
  | stuck => rw [hB] at h; exact h
  | er e ρ1 S1 =>
    rw [hB] at h
    replace h : PostS X.K W E ι H (match isXs tab e.cls cs with
      | some true => (match Su (ρ1.set i (some (.exc e.cls e.fs))) S1 with
        | .nx ρ2 S2 => .nx (ρ2.set i none) S2
        | .bk ρ2 S2 => .bk (ρ2.set i none) S2
        | .ct ρ2 S2 => .ct (ρ2.set i none) S2
        | .rt d S2 => .rt d S2
        | .er _ _ _ => .stuck
        | .stuck => .stuck)
      | some false => .er e ρ1 S1
      | none => .stuck) := h
    intro ι' H' σ' cls dd G s' e' rx
    cases hx : isXs tab e.cls cs with
    | none => rw [hx] at h; exact h.elim
    | some b =>
      refine ⟨e.cls, b, rx.1, hx, fun hb a na => ?_, fun hb => ?_⟩
      · subst hb
        rw [hx] at h
        have Gu : Grow ι' H' ι' (upd H' a (exv a cls dd)) := Grow.upd na
        have r : RepV X.K ι' (upd H' a (exv a cls dd)) (.exc e.cls e.fs) (.ref a) := by
          rw [RepV]
          refine ⟨a, cls, dd, rfl, s'.free na, upd_same, rx.1, ?_⟩
          rcases rx.2 with r2 | ⟨d, vs, e1, e2, e3, e4⟩
          · exact .inl r2
          · exact .inr ⟨d, vs, e1, e2, by rw [upd_ne (ne_of_none e3 na)]; exact e3, RepF.grow Gu _ _ e4⟩
        refine ⟨ι', _, S1, (e'.grow Gu).set r i, s'.upd na, ?_⟩
        have h := PostS.grow h (G.trans Gu)
        cases hS : Su (ρ1.set i (some (.exc e.cls e.fs))) S1 with
        | nx ρ2 S2 => rw [hS] at h; exact fun ι3 H3 σ3 G3 s3 e3 => h ι3 H3 _ G3 s3 (e3.drop none i)
        | bk ρ2 S2 => rw [hS] at h; exact fun ι3 H3 σ3 G3 s3 e3 => h ι3 H3 _ G3 s3 (e3.drop none i)
        | ct ρ2 S2 => rw [hS] at h; exact fun ι3 H3 σ3 G3 s3 e3 => h ι3 H3 _ G3 s3 (e3.drop none i)
        | rt d S2 => rw [hS] at h; exact h
        | er x ρ2 S2 => rw [hS] at h; exact h.elim
        | stuck => rw [hS] at h; exact h
      · subst hb
        rw [hx] at h
        exact h ι' H' σ' cls dd G s' e' rx
def FnDH (gd : Bool) (P : Program) (w : World) (K : PySem.W.Frag) (mg : Str → Option Value) (base : Heap) (k : Nat) (f : Addr) (F : Fn) : Prop :=
  ∀ (A : Around) (outer : List Env) (s : Shared) (H : Hp) (us : List Value) (vs : List V) (Q : VK) (E : XK), L2H.RoomH k A → (gd = true → A.guards = some []) → Env0 P w K mg base A outer s H → Vals vs us → spD K F vs H Q E →
    codeAny (model P w) A (.call (.ref f) ⟨us, []⟩) (CR (L2.CX P w) outer P w H s Q E) s
/-- the context of a def's body where an exception may be handled -/
abbrev hotOf (X : Cx) : Cx := { X with calm := false }
theorem inv_hot {CX : CXT} {P : Program} {w : World} {K : PySem.W.Frag} {mg : Str → Option Value} {base : Heap} {N ps : List Str} {qual : Str} {scope : Scope} {f : Addr} {cd : Value} {A : Around} {outer : List Env} {s s1 : Shared} {H : Hp} {E : XK} {us : List Value} {vs : List V}
    (S : FnScope N ps scope) (e0 : Env0 P w K mg base A outer s H) (hl : vs.length = ps.length) (r : Vals vs us)
    (x : InCallC s s.heap.objs.size (bindL (envOfC qual scope s.heap.objs.size f cd).kindOf (ps.zip us) fun _ => none) (cellsFrom (s.heap.objs.size + 1) scope.names []) (bindC (envOfC qual scope s.heap.objs.size f cd).kindOf (ps.zip us) fun _ => none) s1) :
    Inv (hotOf (cxOf CX P w K mg base N qual scope f cd A outer s H E)) [] (start N vs) H s1 := by
  have e1 : Env0 P w K mg base { A with handled := none } outer s H := ⟨e0.frames, e0.mod, e0.bs, e0.bsz, e0.funs, e0.frf, e0.hok, e0.bare⟩
  have I := inv_start (CX := CX) (E := E) (A := { A with handled := none }) (qual := qual) (f := f) (cd := cd) S rfl e1 hl r x
  have ok := I.ok
  exact ⟨⟨ok.mod, ok.kind, ok.glob, ok.blt, ok.above, ok.inj, ok.has, ok.cab, (fun z => Bool.noConfusion (show false = true from z)), Around.frames_deeper e0.frames, ok.stk, ok.exf, ok.bs, ok.bsz, ok.noex, ok.exfs, ok.funs, ok.frf⟩,
    I.os, I.bare, I.base, I.loc, I.cell, I.free, I.freeC, I.pin, I.hok, I.len⟩
theorem fnDH_of {gd : Bool} {P : Program} {w : World} {K : PySem.W.Frag} {mg : Str → Option Value} {base : Heap} {k : Nat} {f : Addr} {fd : FuncData} {N ps : List Str} {x qual : Str} {st : Stmt} {cl : Sto → D → Sto → R D} {B : Ev → Sto → SR} (F : Fun K x qual st f fd) (sc : FnScope N ps (defScope st)) (hb : Binds K fd ps []) (hcl : ClOk cl)
    (hbody : ∀ (cdv : Value) (A : Around) (outer : List Env) (s : Shared) (H : Hp) (E : XK), L2H.RoomH k (A.deeper (envOfC qual (defScope st) s.heap.objs.size f cdv)) → (gd = true → A.guards = some []) →
      Takes (hotOf (cxOf (L2.CX P w) P w K mg base N qual (defScope st) f cdv A outer s H E)) (fun cls d _ H' => E cls d H') →
      DSs (hotOf (cxOf (L2.CX P w) P w K mg base N qual (defScope st) f cdv A outer s H E)) (fun cls d _ H' => E cls d H') (defBody st) B) : FnDH gd P w K mg base (k + 1) f (fnC cl N.length ps.length B) := by
  intro A outer s H us vs Q E hr hgd e0 rv hsp
  obtain ⟨oc, od, kV, doc, pm, an, cdv, ct, osl, efd, lk, hcd⟩ := F.ex
  obtain ⟨hl, rd⟩ := body_read (N := N) hcl hsp
  have hlu : us.length = ps.length := by rw [← rv.length]; exact hl
  have kept : ∀ b o, base.get? b = some o → s.heap.get? b = some o := fun b o e => (e0.bs b o e).1
  have KX : K.In s.heap := e0.mod.kin.keeps kept
  have bd := hb s us KX (by rw [List.append_nil]; exact hlu)
  rw [List.append_nil, efd] at bd
  rw [efd] at lk
  have hkind : ∀ y ∈ ps.zip us, (defScope st).names.lookup y.1 = some .local ∨ ((defScope st).names.lookup y.1 = some .cell ∧
      ((cellsFrom (s.heap.objs.size + 1) (defScope st).names []).lookup y.1).isSome = true) := by
    rintro ⟨n, v⟩ hy
    exact (sc.par n (List.of_mem_zip hy).1).imp id fun q => ⟨q, PySem.W.cellsFrom_some _ _ _ (.inl q)⟩
  refine codeAny_call_function hr.depth (KX _ _ lk) rfl sc.co sc.gen rfl
    (PySem.W.codeRec_of KX hcd) (bd _ _ _ _ (wpAny_newFunctionEnv_cells sc.kind hkind fun env he s1 ic => ?_))
  subst he
  refine ⟨(e0.mod.nolimit.keeps kept).keeps ic.toInCall.keep, codeAny_func ?_⟩
  have I := inv_hot (CX := L2.CX P w) (P := P) (w := w) (E := E) sc e0 hl rv ic
  have body := hbody cdv A outer s H E (hr.deeper _) hgd (takes_of rfl rfl rfl rfl)
  refine wpAny_mono (body.run [] s1 (start N vs) H _ I rd) (fun fl s' hs => ?_) fun e s' hs => hs
  cases fl with
  | ret u =>
    obtain ⟨v, σ', H', J, r', q⟩ := hs
    exact ⟨v, H', J.os, J.bare, J.base, J.hok, r', q⟩
  | next =>
    obtain ⟨σ', H', J, q⟩ := hs
    exact ⟨V.non, H', J.os, J.bare, J.base, J.hok, rfl, q⟩
  | brk => obtain ⟨_, _, _, q⟩ := hs; exact False.elim q
  | cont => obtain ⟨_, _, _, q⟩ := hs; exact False.elim q
section
variable {X : Cx} {W : WX} {gd : Bool} {k : Nat} {f : Addr} {F : Fn} {x : Str} {p pos : Pos} {e : Expr} {es : List Expr} {g : Ev → Sto → R (List D)}
theorem run_fnDH {pins : List (Addr × Obj)} {σ : L2.St} {H : Hp} {s : Shared} {Q : VK} {us : List Value} {vs : List V} (hF : FnDH gd X.prog X.w X.K X.mg X.base k f F) (hr : L2H.RoomH k X.A) (hG : gd = true → X.A.guards = some []) (tk : Takes X W)
    (I : Inv X pins σ H s) (r : Vals vs us) (h : spD X.K F vs H Q (WE W σ)) : wpAny (model X.prog X.w) X.A (call (.ref f) us) (EP X pins σ Q) X.xe s := by
  refine wpAny_call (codeAny_mono (hF X.A X.stack s H us vs Q (WE W σ) hr hG I.env0 r h) fun res s' hq => ?_)
  cases res with
  | error er => exact passAt tk σ pins H s er s' I hq
  | ok fl =>
    cases fl with
    | ret u => exact I.after hq
    | next => exact False.elim hq
    | brk => exact False.elim hq
    | cont => exact False.elim hq
theorem de_callDH (hF : FnDH gd X.prog X.w X.K X.mg X.base k f F) (hr : L2H.RoomH k X.A) (hG : gd = true → X.A.guards = some []) (tk : Takes X W) (hm : X.mg x = some (.ref f)) (hk : PySem.W.keepIn X.K (.ref f) = true) (ha : DA X W (e :: es) g) (hg : Gl X x := by rfl) (hdb : (x == ("__debug__" : Str)) = false := by decide)
    (he : starEach (e :: es) X.env = (false, eval e X.env) :: starEach es X.env := by rfl) (hpl : (backTo pos (starEach es X.env)).any (·.1) = false := by rfl) : DE X W (.Call (.Name x p) (e :: es) [] pos) (eCall F g) := by
  refine ⟨fun pins s σ H Q I ⟨ι, ρ, S, hE, hS, h⟩ => ?_⟩
  refine wpAny_Call_Name_kw (ld_glob I hg hm ?_ hdb)
  have rd : rdA X.K W g σ H fun vs H1 => spD X.K F vs H1 Q (WE W σ) := ⟨ι, ρ, S, hE, hS, (Post.bind h).mono fun ds S1 ι1 H1 G1 s1 h1 vs rs => ⟨ι1, S1, ds, rs, s1, PostX.of h1⟩⟩
  exact PySem.W.callWith_K (h₀ := X.base) I.ok.mod.kin hk (thn (ha.run pos pins s σ H _ I rd) fun us s1 ⟨vs, H1, I1, r1, q1⟩ => ⟨I1.kIn, run_fnDH hF hr hG tk I1 r1 q1⟩) he hpl
def eCallV (tbl : List (Str × Fn)) (f : Ev → Sto → R D) (g : Ev → Sto → R (List D)) : Ev → Sto → R D := fun ρ S => (f ρ S).bind fun d S1 => match d with
  | .fn n => (match tbl.lookup n with
    | some F => (g ρ S1).bind fun ds S2 => F ds S2
    | none => .stuck)
  | _ => .stuck
end
/-- a def or a class as a value -/
theorem de_fn {X : Cx} {W : WX} {x : Str} {f : Addr} {pos : Pos} (hg : Gl X x) (hm : X.mg x = some (.ref f)) (hn : PySem.W.nsIn X.K mainGlobals x = some (some (.ref f))) (hd : (x == ("__debug__" : Str)) = false := by decide) : DE X W (.Name x pos) (eC (.fn x)) :=
  de_glob hg hm ⟨.ref f, rfl, fun ι H => by rw [RepV]; exact ⟨f, rfl, hn⟩⟩ hd
end DL
namespace DL
open PySem PySem.Spec L2
open PyProof.Rows hiding St
def eDict0 : Ev → Sto → R D := fun _ S => .ok (.fd []) S
theorem rep_fd {K : PySem.W.Frag} {ι : List Addr} {H : Hp} {kvs : List (Key × D)} {ks : List (Key × V)} {p : Addr} (n : p ∉ ι) (h : H p = some (.dK ks)) (r : RepK K ι H kvs ks) : RepV K ι H (.fd kvs) (.ref p) := by
  rw [RepV]; exact ⟨p, ks, rfl, n, h, r⟩
theorem de_dict0 {X : Cx} {W : WX} {pos : Pos} : DE X W (.Dict [] [] pos) eDict0 := by
  refine PE.imp pe_dnewK fun σ H Q ⟨ι, ρ, S, hE, hS, h⟩ p hp => ?_
  exact h ι _ (Grow.upd hp) (hS.upd hp) _ (rep_fd (hS.free hp) upd_same (by rw [RepK]))
/-- written pairs, the values constants -/
def DPc (X : Cx) (pos : Pos) (keys : List (Option Expr)) (values : List Expr) (kvs : List (Key × D)) : Prop := ∃ vs : List (Key × V), PPs X pos keys values (vs.map fun q => (tC (kV q.1), tC q.2)) ∧ ∀ ι H, RepK X.K ι H kvs vs
theorem dpc_nil {X : Cx} {pos : Pos} : DPc X pos [] [] [] := ⟨[], pps_nil, fun _ _ => by rw [RepK]⟩
theorem dpc_cons {X : Cx} {pos : Pos} {k v : Expr} {ks : List (Option Expr)} {vs : List Expr} {key : Key} {d : D} {y : V} {kvs : List (Key × D)} (hk : PE X k (tC (kV key))) (hv : PE X v (tC y)) (r : ∀ ι H, RepV X.K ι H d y) (hr : DPc X pos ks vs kvs) :
    DPc X pos (some k :: ks) (v :: vs) ((key, d) :: kvs) := by
  obtain ⟨ws, h1, h2⟩ := hr
  exact ⟨(key, y) :: ws, pps_cons hk hv h1, fun ι H => by rw [RepK]; exact ⟨y, ws, rfl, r ι H, h2 ι H⟩⟩
theorem pairs_c {Q : List (V × V) → Hp → Prop} {σ : L2.St} {H : Hp} : ∀ (ws : List (Key × V)) (acc : List (V × V)), Q (acc ++ ws.map fun q => (kV q.1, q.2)) H → tPairs (ws.map fun q => (tC (kV q.1), tC q.2)) σ H fun ps H' => Q (acc ++ ps) H'
  | [], acc, h => by simpa [tPairs] using h
  | q :: ws, acc, h => by
    have := pairs_c (Q := Q) (σ := σ) (H := H) ws (acc ++ [(kV q.1, q.2)]) (by simpa using h)
    show tPairs _ σ H fun ps H3 => Q (acc ++ ((kV q.1, q.2) :: ps)) H3
    simpa using this
theorem merge_nodup : ∀ (l acc : List (Key × V)), ((acc ++ l).map (·.1)).Nodup → mergeK acc l = acc ++ l
  | [], acc, _ => by simp [mergeK]
  | (k, v) :: l, acc, h => by
    have hk : (acc.any fun kv => decide (kv.1 = k)) = false := by
      rw [Bool.eq_false_iff]
      intro z
      obtain ⟨q, hq, e⟩ := List.any_eq_true.mp z
      have e := of_decide_eq_true e
      rw [List.map_append, List.map_cons] at h
      have := (List.nodup_append.mp h).2.2 q.1 (List.mem_map.mpr ⟨q, hq, rfl⟩) k List.mem_cons_self
      exact this e
    have e1 : putK acc k v = acc ++ [(k, v)] := by unfold putK; rw [hk]; rfl
    have : mergeK acc ((k, v) :: l) = mergeK (putK acc k v) l := rfl
    rw [this, e1, merge_nodup l (acc ++ [(k, v)]) (by simpa using h)]
    simp
theorem RepK.keys {K : PySem.W.Frag} {ι : List Addr} {H : Hp} : ∀ {kvs : List (Key × D)} {vs : List (Key × V)}, RepK K ι H kvs vs → vs.map (·.1) = kvs.map (·.1)
  | [], _, h => by rw [RepK] at h; subst h; rfl
  | (k, d) :: kvs, _, h => by
    rw [RepK] at h
    obtain ⟨v, r, rfl, a, b⟩ := h
    rw [List.map_cons, List.map_cons, RepK.keys b]
theorem de_dispC {X : Cx} {W : WX} {pos : Pos} {keys : List (Option Expr)} {values : List Expr} {kvs : List (Key × D)} (h : DPc X pos keys values kvs) (hn : (kvs.map (·.1)).Nodup := by decide) (h15 : keys.length ≤ 15 := by decide) (he : kvs.length ≤ 15 := by decide) (hall : keys.all (·.isSome) = true := by rfl) (hl : keys.length = values.length := by rfl) (h0 : keys ≠ [] := by intro z; cases z) :
    DE X W (.Dict keys values pos) (eC (.fd kvs)) := by
  obtain ⟨ws, h1, h2⟩ := h
  refine PE.imp (pe_disp h1 hall hl h0 h15) fun σ H Q ⟨ι, ρ, S, hE, hS, h⟩ p hp => ?_
  have hk := RepK.keys (h2 ι H)
  have hlen : ws.length = kvs.length := by have := congrArg List.length hk; simpa using this
  have := pairs_c (Q := fun ps H2 => H2 p = some (.dK []) ∧ ∃ kvs : List (Key × V), ps = kvs.map (fun kv => (kV kv.1, kv.2)) ∧ kvs.length ≤ 15 ∧ Q (.ref p) (upd H2 p (.dK (mergeK [] kvs)))) (σ := σ) (H := upd H p (.dK [])) ws [] ⟨upd_same, ws, by simp, by rw [hlen]; exact he, ?_⟩
  · simpa using this
  · rw [merge_nodup ws [] (by rw [List.nil_append, hk]; exact hn), List.nil_append, upd_upd]
    exact h ι _ (Grow.upd hp) (hS.upd hp) _ (rep_fd (hS.free hp) upd_same (h2 ι _))
theorem rgV_rep {K : PySem.W.Frag} {ι : List Addr} {H : Hp} (a b : Int) : RepL K ι H (rangeD a (b - a).toNat) (rgV a b) := by
  unfold rangeD rgV
  generalize (b - a).toNat = n
  have key : ∀ l : List Nat, RepL K ι H (l.map fun k => D.int (a + (k : Nat))) (l.map fun i => V.int (a + (i : Nat))) := by
    intro l
    induction l with
    | nil => exact RepL.nil
    | cons x l ih => exact RepL.cons int_rep ih
  exact key _
noncomputable def eListRg (mk : List D → Sto → R D) (f : Ev → Sto → R D) : Ev → Sto → R D := fun ρ S => (f ρ S).bind fun d S1 => (iOf d S1).bind fun n S2 => ifp (RgOk 0 n) (mk (rangeD 0 n.toNat) S2) .stuck
theorem de_listRg {X : Cx} {W : WX} {mk : List D → Sto → R D} {a : Expr} {p p2 pos pos2 : Pos} {f : Ev → Sto → R D} (m : MkOk mk) (hc : X.calm = true) (hm : X.mg "list" = none) (hm2 : X.mg "range" = none) (ha : DE X W a f) (hg : Gl X "list" := by rfl) (hg2 : Gl X "range" := by rfl)
    (na : starEach [a] X.env = (false, eval a X.env) :: starEach [] X.env := by rfl) (nb : starEach [.Call (.Name "range" p2) [a] [] pos2] X.env = (false, eval (.Call (.Name "range" p2) [a] [] pos2) X.env) :: starEach [] X.env := by rfl) :
    DE X W (.Call (.Name "list" p) [.Call (.Name "range" p2) [a] [] pos2] [] pos) (eListRg mk f) := by
  refine PE.imp (pe_listRg hc hg hm (prg_1 hg2 hm2 ha na) nb) fun σ H Q ⟨ι, ρ, S, hE, hS, h⟩ => ⟨ι, ρ, S, hE, hS, (Post.bind h).mono fun d S1 ι1 H1 G1 s1 h1 v rv => ?_⟩
  cases d with
  | int n =>
    replace h1 : Post X.K W σ ι1 H1 (ifp (RgOk 0 n) (mk (rangeD 0 n.toNat) S1) .stuck) fun d _ ι' H' => ∀ v, RepV X.K ι' H' d v → Q v H' := h1
    unfold ifp at h1
    split at h1
    · rename_i hr
      refine ⟨n, int_at rv, hr, fun q hq => ?_⟩
      have e : n.toNat = (n - 0).toNat := by rw [Int.sub_zero]
      rw [e] at h1
      exact m _ _ _ _ _ _ _ _ _ h1 s1 (rgV_rep 0 n) q hq
    · exact h1.elim
  | _ => exact (show False from h1).elim
end DL
theorem L2.Room.roomy {k : Nat} {A : PySem.Around} (r : L2.Room k A) : A.units + 100 < PySem.cLine := by have := r.un; omega
theorem L2H.RoomH.roomy {k : Nat} {A : PySem.Around} (r : L2H.RoomH k A) : A.units + 100 < PySem.cLine := by have := r.un; omega
theorem L2H.RoomH.units {k : Nat} {A : PySem.Around} (r : L2H.RoomH k A) : A.units + 64 < PySem.cLine := by have := r.un; omega
namespace DL
open PySem PySem.Spec L2
open PyProof.Rows hiding St
theorem roomH_m {j k : Nat} {A : Around} {h : Option Value} (r : Room k A) (hj : j ≤ k) : L2H.RoomH j (A.mark h) := ⟨by have := r.dp; show A.depth + 3 * j + 5 < _; omega, by have := r.un; show A.units + 16 * j + 200 < _; omega⟩
def noAtB (K : PySem.W.Frag) (T : List (Cn × Value × List Cn)) (f : Str) : Bool := T.all fun q => match q.2.1 with
  | .ref C => decide (PySem.W.findIn K (.ref C) f = some none)
  | _ => true
theorem noAt_ok {K : PySem.W.Frag} {T : List (Cn × Value × List Cn)} {f : Str} (h : tabB K T = true) (hn : noAtB K T f = true) : NoAt K (tabOf T) f := fun c m C hm r => by
  obtain ⟨⟨c', v, m'⟩, hq, e⟩ := List.mem_map.mp hm
  cases e
  have h1 := List.all_eq_true.mp h _ hq
  simp only [Bool.and_eq_true] at h1
  have ev := repC_of h1.1 r
  have h2 := List.all_eq_true.mp hn _ hq
  have ev : Value.ref C = v := ev
  subst ev
  exact of_decide_eq_true h2
end DL
namespace DL
open PySem PySem.Spec L2
open PyProof.Rows hiding St
end DL
namespace DL
open PySem PySem.Spec L2
open PyProof.Rows hiding St
def enumD (k : Nat) : List D → List D
  | [] => []
  | d :: ds => .tup [.int k, d] :: enumD (k + 1) ds
theorem enumD_len : ∀ (k : Nat) (ds : List D), (enumD k ds).length = ds.length
  | _, [] => rfl
  | k, d :: ds => by rw [enumD, List.length_cons, enumD_len, List.length_cons]
theorem enumD_get : ∀ {k i : Nat} {ds : List D} {d : D}, (enumD k ds)[i]? = some d → ∃ x, ds[i]? = some x ∧ d = .tup [.int ((k + i : Nat) : Int), x]
  | k, i, [], d, h => by simp [enumD] at h
  | k, 0, x :: ds, d, h => by
    simp only [enumD, List.getElem?_cons_zero, Option.some.injEq] at h
    exact ⟨x, rfl, h.symm⟩
  | k, i + 1, x :: ds, d, h => by
    simp only [enumD, List.getElem?_cons_succ] at h
    obtain ⟨y, hy, e⟩ := enumD_get h
    refine ⟨y, by simpa using hy, ?_⟩
    rw [e]
    have : k + 1 + i = k + (i + 1) := by omega
    rw [this]
end DL
namespace DL
open PySem PySem.Spec L2
open PyProof.Rows hiding St
theorem empty_rep {K : PySem.W.Frag} {ι : List Addr} {H : Hp} {ds : List D} {vs : List V} (r : RepL K ι H ds vs) : vs.isEmpty = ds.isEmpty := by
  have := RepL.length _ _ r
  cases ds <;> cases vs <;> simp_all
end DL
namespace DL
open PySem PySem.Spec L2
open PyProof.Rows hiding St
section
variable {X : Cx}
def rCntL (K : PySem.W.Frag) : V → List V → Hp → VK → Prop := fun x xs H Q => ∃ (a : Addr) (y : V) (d : PyData) (ds : List PyData), x = V.ref a ∧ xs = [y] ∧ Dp K H (V.ref a) (.list ds) ∧ Dp K H y d ∧ SeqAt.shaped (.list ds) = true ∧ SeqAt.shaped d = true ∧ Q (.int (ds.countP fun z => PyData.eqv z d : Nat)) H
theorem mt_cntL (hu : X.A.units + 65 < cLine) : MtR X "list.count" (rCntL X.K) := by
  intro pins s σ H x xs v us Q I rx rxs h
  obtain ⟨a, y, d, ds, rfl, rfl, hl, hy, sl, sd, q⟩ := h
  cases rx
  obtain ⟨uy, rfl, ry⟩ := rxs.one
  obtain ⟨bs, r1⟩ := Dp.reads I d y uy hy ry
  have hroom : X.A.units + 1 + min (PyData.depthAll ds) d.depth < cLine := room_in_shaped sd hu
  cases hl with
  | lst hs ha =>
    obtain ⟨its, rv, p, hlen⟩ := I.list hs
    obtain ⟨as, h4⟩ := Dp.readsAll I ds _ its ha rv
    exact SeqAt.count_list_data (vs := its.toArray) p.isList (show ReadsAll s.heap its.toArray.toList ds as from h4) r1 (PyData.plainAll_of_canLay0 ds (SeqAt.canLay_of_shaped sl)) (PyData.plain_of_canLay0 d (SeqAt.canLay_of_shaped sd)) hroom ⟨.int _, H, I.tok _, ⟨_, rfl⟩, q⟩
end
def mCntL : Mt := fun o ds S => match ds with
  | [d] => (match pyS S o, pyS S d with
    | some (.list ps), some p => if SeqAt.shaped (.list ps) = true ∧ SeqAt.shaped p = true then .ok (.int (ps.countP fun z => PyData.eqv z p : Nat)) S else .stuck
    | _, _ => .stuck)
  | _ => .stuck
theorem k_cntL {K : PySem.W.Frag} : MtK K (rCntL K) mCntL := by
  intro W σ ι H S x vs a ds Q s rx rl h
  unfold mCntL at h
  split at h
  · rename_i d
    obtain ⟨u, rfl, ru⟩ := RepL.one_inv rl
    split at h
    · rename_i ps p e1 e2
      split at h
      · rename_i hl
        have hd := pyS_dp s rx e1 (noDict_shaped hl.1)
        obtain ⟨b, rfl⟩ : ∃ b, x = V.ref b := by cases hd; exact ⟨_, rfl⟩
        exact ⟨b, u, p, ps, rfl, rfl, hd, pyS_dp s ru e2 (noDict_shaped hl.2), hl.1, hl.2, h.here s _ int_rep⟩
      · exact h.elim
    · exact h.elim
  · exact h.elim
end DL
namespace DL
open PySem PySem.Spec L2
open PyProof.Rows hiding St
end DL
namespace DL
open PySem PySem.Spec L2
open PyProof.Rows hiding St
end DL
namespace DL
open PySem PySem.Spec L2
open PyProof.Rows hiding St
end DL
namespace DL
open PySem PySem.Spec L2
open PyProof.Rows hiding St
section
variable {X : Cx} {W : WX} {pos : Pos} {e : Expr}
theorem PG.or {tg : Expr} {t u : TG} (h : PG X tg t) (h' : PG X tg u) : PG X tg (fun v σ H Q => t v σ H Q ∨ u v σ H Q) := ⟨fun pins s σ H v w Q I r q => by
  rcases q with q | q
  · exact h.run pins s σ H v w Q I r q
  · exact h'.run pins s σ H v w Q I r q⟩
theorem seqOf_fl (ds : List D) (S : Sto) : seqOf S (.fl ds) = some ds := rfl
theorem seqOf_tup (ds : List D) (S : Sto) : seqOf S (.tup ds) = some ds := rfl
theorem seqOf_ti (l : List Int) (S : Sto) : seqOf S (ti l) = some (l.map D.int) := rfl
def tSq (n : Nat) (U : Tgs) : Tg := fun d ρ S => match seqOf S d with
  | some ds => if ds.length = n then U ds ρ S else none
  | _ => none
theorem dg_sq {es : List Expr} {k : Nat} {U : Tgs} {n : Nat} (hc : X.calm = true) (h : DGs X es U) (hn : (assignEach es X.env).length = n := by rfl) (hst : (assignEach es X.env).findIdx? (·.1) = none := by rfl) : DG X (.Tuple es k pos) (tSq n U) :=
  PG.imp (PG.or (pg_tup hc h hn hst) (pg_unl hc h hn hst)) fun v σ H Q ⟨ι, ρ, S, d, ρ', S', hE, hS, r, e, h⟩ => by
    unfold tSq at e
    cases hq : seqOf S d with
    | none => rw [hq] at e; cases e
    | some ds =>
      rw [hq] at e
      simp only at e
      by_cases hl : ds.length = n
      · rw [if_pos hl] at e
        obtain ⟨p, vs, rfl, q, rl⟩ := seq_at hS r hq
        rcases q with q | q
        · exact .inr ⟨p, vs, rfl, q, by rw [← RepL.length _ _ rl]; exact hl, ι, ρ, S, ds, ρ', S', hE, hS, rl, e, h⟩
        · exact .inl ⟨p, vs, rfl, q, by rw [← RepL.length _ _ rl]; exact hl, ι, ρ, S, ds, ρ', S', hE, hS, rl, e, h⟩
      · rw [if_neg hl] at e; cases e
/-- two names -/
def sSet2 (i j : Nat) (f : Ev → Sto → R D) : Ev → Sto → SR := fun ρ S => (f ρ S).toS ρ fun d S1 => .nx ((ρ.set i (some d)).set j (some d)) S1
end
end DL
namespace DL
open PySem PySem.Spec L2
open PyProof.Rows hiding St
mutual
def frzW (look : Nat → Option D) (k : Nat) : D → Option D
  | .loc n => if n < k then some (.loc n) else look n
  | .tup ds => (frzWL look k ds).map .tup
  | .fl ds => (frzWL look k ds).map .fl
  | .kl ds => if lowL k ds = true then some (.kl ds) else none
  | .fd kvs => if lowK k kvs = true then some (.fd kvs) else none
  | .exc c fs => if lowF k fs = true then some (.exc c fs) else none
  | .non => some .non
  | .bl b => some (.bl b)
  | .int i => some (.int i)
  | .str x => some (.str x)
  | .ty n => some (.ty n)
  | .fn n => some (.fn n)
def frzWL (look : Nat → Option D) (k : Nat) : List D → Option (List D)
  | [] => some []
  | d :: ds => (frzW look k d).bind fun e => (frzWL look k ds).map fun es => e :: es
end
def frzK (S : Sto) (k : Nat) : Nat → Nat → Option D
  | 0 => fun _ => none
  | f + 1 => fun n => match S[n]? with
    | some (.lst ds) => (frzWL (frzK S k f) k ds).map .fl
    | _ => none
def frz (S : Sto) (k f : Nat) (d : D) : Option D := frzW (frzK S k f) k d
theorem fnD_stuck {gd : Bool} {P : Program} {w : World} {K : PySem.W.Frag} {mg : Str → Option Value} {base : Heap} {k : Nat} {f : Addr} : FnD gd P w K mg base k f (fun _ _ => .stuck) := fun _ _ _ _ _ _ _ _ _ _ _ _ h => by
  obtain ⟨_, _, _, _, _, h⟩ := h
  exact h.elim
end DL
namespace DL
open PySem PySem.Spec L2
open PyProof.Rows hiding St
def rEqY (K : PySem.W.Frag) (neg : Bool) : R2 := fun x y H Q => ∃ a b xs, x = V.ref a ∧ y = V.ref b ∧ SqL K H a xs ∧ SqL K H b [] ∧ Q (.bl (if neg then !xs.isEmpty else xs.isEmpty)) H
theorem op_eqY {X : Cx} (hu : X.A.units + 64 < cLine) : OpR X (compareOp .Eq) (rEqY X.K false) := by
  intro pins s σ H x y v u Q I rx ry h
  obtain ⟨a, b, xs, rfl, rfl, ha, hb, q⟩ := h
  cases (show v = Value.ref a from rx)
  cases (show u = Value.ref b from ry)
  obtain ⟨us, r1, p1, _⟩ := I.list ha
  obtain ⟨ws, r2, p2, _⟩ := I.list hb
  cases r2
  have hl := r1.length
  cases xs with
  | nil =>
    cases us with
    | nil => exact SeqAt.RcAt.lists (e := fun _ => true) p1.isList p2.isList rfl (by omega) (fun j h1 h2 => absurd h2 (by simp)) X.prog X.w _ _ ⟨.bl true, H, I, rfl, q⟩
    | cons u us => simp at hl
  | cons x xs =>
    cases us with
    | nil => simp at hl
    | cons u us => exact SeqAt.RcAt.lists_lengths p1.isList p2.isList (by simp) (by omega) X.prog X.w _ _ ⟨.bl false, H, I, rfl, q⟩
theorem op_neY {X : Cx} (hu : X.A.units + 64 < cLine) : OpR X (compareOp .NotEq) (rEqY X.K true) := by
  intro pins s σ H x y v u Q I rx ry h
  obtain ⟨a, b, xs, rfl, rfl, ha, hb, q⟩ := h
  cases (show v = Value.ref a from rx)
  cases (show u = Value.ref b from ry)
  obtain ⟨us, r1, p1, _⟩ := I.list ha
  obtain ⟨ws, r2, p2, _⟩ := I.list hb
  cases r2
  have hl := r1.length
  cases xs with
  | nil =>
    cases us with
    | nil => exact SeqAt.RcNeAt.lists (e := fun _ => true) p1.isList p2.isList rfl (by omega) (fun j h1 h2 => absurd h2 (by simp)) X.prog X.w _ _ ⟨.bl false, H, I, rfl, q⟩
    | cons u us => simp at hl
  | cons x xs =>
    cases us with
    | nil => simp at hl
    | cons u us => exact SeqAt.RcNeAt.lists_lengths p1.isList p2.isList (by simp) (by omega) X.prog X.w _ _ ⟨.bl true, H, I, rfl, q⟩
/-- a list against [] -/
def dEqY (neg : Bool) (a b : D) (S : Sto) : R D := match b with
  | .fl [] => (match a with
    | .fl xs => .ok (.bl (if neg then !xs.isEmpty else xs.isEmpty)) S
    | .loc n => (match getQ S n with
      | some xs => .ok (.bl (if neg then !xs.isEmpty else xs.isEmpty)) S
      | none => .stuck)
    | a => dEq neg a (.fl []) S)
  | b => dEq neg a b S
theorem or_eqY {X : Cx} (hu : X.A.units + 64 < cLine) : OpR X (compareOp .Eq) (fun x y H Q => rEqY X.K false x y H Q ∨ (rEq x y H Q ∨ rEqD X.K x y H Q)) := OpR.or (op_eqY hu) (or_eq hu)
theorem or_neY {X : Cx} (hu : X.A.units + 64 < cLine) : OpR X (compareOp .NotEq) (fun x y H Q => rEqY X.K true x y H Q ∨ (rNe x y H Q ∨ rNeD X.K x y H Q)) := OpR.or (op_neY hu) (or_ne hu)
theorem nil_fl {K : PySem.W.Frag} {ι : List Addr} {H : Hp} {y : V} (r : RepV K ι H (.fl []) y) : ∃ b, y = .ref b ∧ SqL K H b [] := by
  rw [RepV] at r
  obtain ⟨b, vs, rfl, h, rl⟩ := r
  rw [RepL] at rl
  subst rl
  exact ⟨b, rfl, h.sq⟩
theorem k_eqY_gen {K : PySem.W.Frag} (neg : Bool) {W : WX} {σ : St} {ι : List Addr} {H : Hp} {S : Sto} {x y : V} {a b : D} {Q : VK} {Z : Prop} (s : Sim K ι H S) (rx : RepV K ι H a x) (ry : RepV K ι H b y)
    (h : Post K W σ ι H (dEqY neg a b S) fun d _ ι' H' => ∀ v, RepV K ι' H' d v → Q v H') (other : ∀ {a b}, RepV K ι H a x → RepV K ι H b y → Post K W σ ι H (dEq neg a b S) (fun d _ ι' H' => ∀ v, RepV K ι' H' d v → Q v H') → Z) : rEqY K neg x y H Q ∨ Z := by
  unfold dEqY at h
  split at h
  · obtain ⟨p, rfl, hp⟩ := nil_fl ry
    split at h
    · rename_i xs
      rw [RepV] at rx
      obtain ⟨q, vs, rfl, hq, rl⟩ := rx
      refine .inl ⟨q, p, vs, rfl, rfl, hq.sq, hp, ?_⟩
      have := h.here s _ bl_rep
      simpa [empty_rep rl] using this
    · rename_i n
      split at h
      · rename_i xs hx
        rw [RepV] at rx
        obtain ⟨q, eq, rfl⟩ := rx
        obtain ⟨vs, hq, rl⟩ := loc_at s eq hx
        refine .inl ⟨q, p, vs, rfl, rfl, hq, hp, ?_⟩
        have := h.here s _ bl_rep
        simpa [empty_rep rl] using this
      · exact h.elim
    · exact .inr (other rx ry h)
  · exact .inr (other rx ry h)
theorem k_eqY {K : PySem.W.Frag} : OpK K (fun x y H Q => rEqY K false x y H Q ∨ (rEq x y H Q ∨ rEqD K x y H Q)) (dEqY false) := fun W σ ι H S x y a b Q s rx ry h => k_eqY_gen false s rx ry h fun ra rb hh => k_eqD W σ ι H S x y _ _ Q s ra rb hh
theorem k_neY {K : PySem.W.Frag} : OpK K (fun x y H Q => rEqY K true x y H Q ∨ (rNe x y H Q ∨ rNeD K x y H Q)) (dEqY true) := fun W σ ι H S x y a b Q s rx ry h => k_eqY_gen true s rx ry h fun ra rb hh => k_neD W σ ι H S x y _ _ Q s ra rb hh
end DL
namespace DL
open PySem PySem.Spec L2
open PyProof.Rows hiding St
def bi : Bool → Int := fun b => if b = true then 1 else 0
end DL
namespace DL
open PySem PySem.Spec L2
open PyProof.Rows hiding St
end DL
namespace DL
open PySem PySem.Spec L2
open PyProof.Rows hiding St
end DL
namespace DL
open PySem PySem.Spec L2
open PyProof.Rows hiding St
def strsOf : List D → Option (List Str)
  | [] => some []
  | .str x :: ds => (strsOf ds).map (x :: ·)
  | _ => none
theorem strsOf_rep {K : PySem.W.Frag} {ι : List Addr} {H : Hp} : ∀ (ds : List D) (vs : List V) (ys : List Str), RepL K ι H ds vs → strsOf ds = some ys → vs = ys.map V.str
  | [], vs, ys, r, e => by
    rw [RepL] at r
    cases e
    rw [r]; rfl
  | d :: ds, vs, ys, r, e => by
    rw [RepL] at r
    obtain ⟨v, rest, rfl, a, b⟩ := r
    cases d with
    | str x =>
      have e' : (strsOf ds).map (x :: ·) = some ys := e
      obtain ⟨zs, hz, rfl⟩ := Option.map_eq_some_iff.mp e'
      rw [str_at a, strsOf_rep ds rest zs b hz]; rfl
    | _ => cases e
section
variable {K : PySem.W.Frag}
noncomputable def mJoin : Mt := fun o ds S => match o, ds with
  | .str a, [d] => (match (seqOf S d).bind strsOf with
    | some ys => ifp ((ys.map (·.length)).sum + ys.length * a.length ≤ 16777216) (.ok (.str (Txt.join a ys)) S) .stuck
    | none => .stuck)
  | _, _ => .stuck
theorem k_join : MtK K (fun x xs H Q => ∃ a p, ∃ ys : List Str, x = .str a ∧ xs = [.ref p] ∧ (SqL K H p (ys.map V.str) ∨ SqT K H p (ys.map V.str)) ∧ (ys.map (·.length)).sum + ys.length * a.length ≤ 16777216 ∧ Q (.str (Txt.join a ys)) H) mJoin := by
  intro W σ ι H S x vs a ds Q s rx rl h
  unfold mJoin at h
  split at h
  · rename_i z d
    obtain ⟨v, rfl, rv⟩ := RepL.one_inv rl
    split at h
    · rename_i ys e
      obtain ⟨xs, e1, e2⟩ := Option.bind_eq_some_iff.mp e
      unfold ifp at h
      split at h
      · rename_i hz
        obtain ⟨p, us, rfl, q, rq⟩ := seq_at s rv e1
        rw [strsOf_rep _ _ _ rq e2] at q
        exact ⟨z, p, ys, str_at rx, rfl, q, hz, h.here s _ str_rep⟩
      · exact h.elim
    · exact h.elim
  · exact h.elim
/-- x in y, of texts -/
def dInS (a b : D) (S : Sto) : R D := match a, b with
  | .str i, .str j => .ok (.bl (!(Builtin.Str.occurrences j i 0 j.length 1).isEmpty)) S
  | _, _ => .stuck
theorem k_inS : OpK K (fun x y H Q => ∃ i j, x = .str i ∧ y = .str j ∧ Q (.bl (!(Builtin.Str.occurrences j i 0 j.length 1).isEmpty)) H) dInS := by
  intro W σ ι H S x y a b Q s rx ry h
  unfold dInS at h
  split at h
  · exact ⟨_, _, str_at rx, str_at ry, h.here s _ bl_rep⟩
  · exact h.elim
/-- the signs of a text, walked -/
def signs (x : Str) : List D := x.cps.toList.map fun c => D.str ⟨#[c]⟩
end
end DL
namespace DL
open PySem PySem.Spec L2
open PyProof.Rows hiding St
def rMulS : R2 := fun x y H Q => ∃ (z : Str) (n : Int), x = .str z ∧ y = .int n ∧ PySem.MulOk z n ∧ Q (.str (Txt.mul z n)) H
theorem op_mulS {X : Cx} : OpR X (binaryOp .Mult) rMulS := by
  intro pins s σ H x y v u Q I rx ry h
  obtain ⟨z, n, rfl, rfl, hm, q⟩ := h
  obtain ⟨t, rfl⟩ := rx
  obtain ⟨t2, rfl⟩ := ry
  exact PySem.SB.mul hm fun t1 k => ⟨.str (Txt.mul z n), H, I.tok k, ⟨t1, rfl⟩, q⟩
noncomputable def dMulS (a b : D) (S : Sto) : R D := match a, b with
  | .str z, .int n => ifp (PySem.MulOk z n) (.ok (.str (Txt.mul z n)) S) .stuck
  | _, _ => .stuck
theorem k_mulS {K : PySem.W.Frag} : OpK K rMulS dMulS := by
  intro W σ ι H S x y a b Q s rx ry h
  unfold dMulS at h
  split at h
  · rename_i z n
    unfold ifp at h
    split at h
    · rename_i hm
      exact ⟨z, n, str_at rx, int_at ry, hm, h.here s _ str_rep⟩
    · exact h.elim
  · exact h.elim
end DL
namespace DL
open PySem PySem.Spec L2
open PyProof.Rows hiding St
end DL
namespace DL
open PySem PySem.Spec L2
open PyProof.Rows hiding St
end DL
namespace DL
open PySem PySem.Spec L2
open PyProof.Rows hiding St
end DL
namespace DL
open PySem L2
open Sem (wp)
open PyProof.Rows (AllBare)
def deadK : Resume → Sem PySem.Fin := fun _ => .unsupported ""
def deadR : Result → Sem PySem.Fin := fun _ => .unsupported ""
/-- a frame that can't be gone on with; it looks the same from outside -/
def hush (F : Frame) : Frame := .ret deadR none false [] F.where_.1 F.where_.2 []
def deaf : GenState → GenState
  | .suspended _ l c p fs cl => .suspended deadK l c p (fs.map hush) cl
  | x => x
def asleep : GenState → Bool
  | .suspended .. => true
  | _ => false
theorem deaf_bare (x : GenState) : (deaf x).bare = x.bare := by cases x <;> rfl
/-- no generator's frame is among the frames that are kept -/
def clean : GenState → Prop
  | .suspended _ _ _ _ fs _ => splitAtGen fs = none
  | _ => True
/-- b: the state in which the run was shown; s: the state as it is; what slept in G is deaf in b -/
structure SLk (G : Array GenState) (b s : Shared) : Prop where
  heap : s.heap = b.heap
  drawn : s.drawn = b.drawn
  toks : s.toks = b.toks
  os : s.os = b.os
  size : s.gens.size = b.gens.size
  le : G.size ≤ b.gens.size
  old : ∀ (i : Nat) x, G[i]? = some x → asleep x = true → b.gens[i]? = some (deaf x) ∧ s.gens[i]? = some x
  new : ∀ (i : Nat), (∀ x, G[i]? = some x → asleep x = false) → s.gens[i]? = b.gens[i]? ∧ ∀ x, b.gens[i]? = some x → clean x
theorem SLk.eq {G : Array GenState} {b s : Shared} (h : SLk G b s) : s = { b with gens := s.gens } := by
  obtain ⟨h1, g1, d1, t1, o1⟩ := s
  obtain ⟨h2, g2, d2, t2, o2⟩ := b
  obtain ⟨e1, e2, e3, e4, _⟩ := h
  cases e1; cases e2; cases e3; cases e4; rfl
theorem SLk.or {G : Array GenState} {b s : Shared} (h : SLk G b s) (i : Nat) : (∃ x, G[i]? = some x ∧ asleep x = true) ∨ ∀ x, G[i]? = some x → asleep x = false := by
  cases e : G[i]? with
  | none => exact .inr fun x hx => by cases hx
  | some x =>
    cases ha : asleep x with
    | true => exact .inl ⟨x, rfl, ha⟩
    | false => exact .inr fun y hy => by cases hy; exact ha
theorem SLk.push {G : Array GenState} {b s : Shared} (h : SLk G b s) (c : Code) : SLk G { b with gens := b.gens.push (.fresh c) } { s with gens := s.gens.push (.fresh c) } := by
  refine ⟨h.heap, h.drawn, h.toks, h.os, ?_, ?_, fun i y hy ha => ?_, fun i hi => ?_⟩
  · simp [h.size]
  · have := h.le
    simp only [Array.size_push]; omega
  · obtain ⟨q1, q2⟩ := h.old i y hy ha
    have l1 := (Array.getElem?_eq_some_iff.mp q1).1
    have l2 := (Array.getElem?_eq_some_iff.mp q2).1
    simp only [Array.getElem?_push, Nat.ne_of_lt l1, Nat.ne_of_lt l2, if_false]
    exact ⟨q1, q2⟩
  · obtain ⟨q1, q2⟩ := h.new i hi
    simp only [Array.getElem?_push, h.size]
    refine ⟨?_, fun y hy => ?_⟩
    · split
      · rfl
      · exact q1
    · split at hy
      · cases hy; trivial
      · exact q2 y hy
/-- what was let go stays so -/
structure Gone (s s' : Shared) : Prop where
  size : s.heap.objs.size ≤ s'.heap.objs.size
  none : ∀ b, b < s.heap.objs.size → s.heap.get? b = none → s'.heap.get? b = none
theorem Gone.trans {a b c : Shared} (h : Gone a b) (k : Gone b c) : Gone a c := ⟨Nat.le_trans h.size k.size, fun d hd e => k.none d (Nat.lt_of_lt_of_le hd h.size) (h.none d hd e)⟩
theorem Gone.heap {a b c : Shared} (h : Gone a b) (e : c.heap = b.heap) : Gone a c := ⟨by rw [e]; exact h.size, fun d hd q => by rw [e]; exact h.none d hd q⟩
/-- what sleeps in s sleeps in s' as it did; what was let go stays so -/
structure Kept (s s' : Shared) : Prop where
  gen : ∀ (i : Nat) x, s.gens[i]? = some x → asleep x = true → s'.gens[i]? = some x
  gone : Gone s s'
theorem Kept.trans {a b c : Shared} (h : Kept a b) (k : Kept b c) : Kept a c := ⟨fun i x e z => k.gen i x (h.gen i x e z) z, h.gone.trans k.gone⟩
theorem SLk.kept {b s' s : Shared} (l : SLk s.gens b s') (g : Gone s s') : Kept s s' := ⟨fun i x e z => (l.old i x e z).2, g⟩
theorem SLk.bare {G : Array GenState} {b s : Shared} (l : SLk G b s) (h : AllBare b.gens) : AllBare s.gens := fun x hx => by
  obtain ⟨i, hi, rfl⟩ := Array.mem_iff_getElem.mp hx
  have hs : s.gens[i]? = some s.gens[i] := Array.getElem?_eq_getElem hi
  rcases l.or i with ⟨y, hy, ha⟩ | hn
  · obtain ⟨q1, q2⟩ := l.old i y hy ha
    rw [hs] at q2
    have e : s.gens[i] = y := Option.some.inj q2
    rw [e, ← deaf_bare]
    exact h _ (Array.mem_of_getElem? q1)
  · rw [(l.new i hn).1] at hs
    exact h _ (Array.mem_of_getElem? hs)
end DL
namespace DL
open PySem PySem.Spec L2
open PyProof.Rows hiding St
mutual
def tt : D → Bool
  | .non => true
  | .bl _ => true
  | .int _ => true
  | .str _ => true
  | .tup ds => ttL ds
  | .ty _ => false
  | .fn _ => false
  | .fl _ => false
  | .kl _ => false
  | .fd _ => false
  | .exc _ _ => false
  | .loc _ => false
def ttL : List D → Bool
  | [] => true
  | d :: ds => tt d && ttL ds
end
/-- the tuples stand -/
def Tx (H H' : Hp) : Prop := ∀ a xs, H a = some (.tup xs) → H' a = some (.tup xs)
theorem Tx.trans {H H1 H2 : Hp} (a : Tx H H1) (b : Tx H1 H2) : Tx H H2 := fun c xs e => b c xs (a c xs e)
section
variable {K : PySem.W.Frag} {ι : List Addr} {H H' : Hp}
mutual
theorem tt_move (hx : ∀ a xs, a ∉ ι → H a = some (.tup xs) → a ∉ ι' ∧ H' a = some (.tup xs)) : ∀ (d : D) (v : V), tt d = true → RepV K ι H d v → RepV K ι' H' d v
  | .non, _, _, h => by rw [RepV] at h ⊢; exact h
  | .bl _, _, _, h => by rw [RepV] at h ⊢; exact h
  | .int _, _, _, h => by rw [RepV] at h ⊢; exact h
  | .str _, _, _, h => by rw [RepV] at h ⊢; exact h
  | .tup ds, _, t, h => by
    rw [RepV] at h ⊢
    rw [tt] at t
    obtain ⟨a, vs, e, q, r⟩ := h
    refine ⟨a, vs, e, ?_, tt_moveL hx ds vs t r⟩
    rcases q with ⟨n, q⟩ | q
    · exact .inl (hx a vs n q)
    · exact .inr q
  | .ty _, _, t, _ => by rw [tt] at t; cases t
  | .fn _, _, t, _ => by rw [tt] at t; cases t
  | .fl _, _, t, _ => by rw [tt] at t; cases t
  | .kl _, _, t, _ => by rw [tt] at t; cases t
  | .fd _, _, t, _ => by rw [tt] at t; cases t
  | .exc _ _, _, t, _ => by rw [tt] at t; cases t
  | .loc _, _, t, _ => by rw [tt] at t; cases t
theorem tt_moveL (hx : ∀ a xs, a ∉ ι → H a = some (.tup xs) → a ∉ ι' ∧ H' a = some (.tup xs)) : ∀ (ds : List D) (vs : List V), ttL ds = true → RepL K ι H ds vs → RepL K ι' H' ds vs
  | [], _, _, h => by rw [RepL] at h ⊢; exact h
  | d :: ds, _, t, h => by
    rw [RepL] at h ⊢
    rw [ttL, Bool.and_eq_true] at t
    obtain ⟨v, r, e, a, b⟩ := h
    exact ⟨v, r, e, tt_move hx d v t.1 a, tt_moveL hx ds r t.2 b⟩
end
theorem tt_grow {d : D} {v : V} (t : tt d = true) (x : Tx H H') (r : RepV K [] H d v) : RepV K [] H' d v := tt_move (fun a xs _ e => ⟨by simp, x a xs e⟩) d v t r
/-- all that stands stays -/
theorem Grow.all {ι : List Addr} (h : ∀ a o, H a = some o → H' a = some o) : Grow ι H ι H' := ⟨List.prefix_rfl, fun a o e _ => h a o e, fun _ z n => absurd z n⟩
theorem Sim.all {S : Sto} (s : Sim K ι H S) (h : ∀ a o, H a = some o → H' a = some o) : Sim K ι H' S :=
  ⟨s.nd, s.len, fun n a o e1 e2 => by
    have q := s.ob n a o e1 e2
    obtain ⟨u, hu⟩ := q.some
    exact q.grow (Grow.all h) ((h a u hu).trans hu.symm)⟩
end
def ttE (ρ : Ev) : Prop := ∀ (i : Nat) d, ρ[i]? = some (some d) → tt d = true
theorem RepE.tx {K : PySem.W.Frag} {H H' : Hp} {σ : St} {ρ : Ev} (t : ttE ρ) (x : Tx H H') (h : RepE K [] H σ ρ) : RepE K [] H' σ ρ :=
  ⟨h.1, fun i d e => let ⟨v, e', r⟩ := h.2 i d e; ⟨v, e', tt_grow (t i d e) x r⟩⟩
def hcut (h : Heap) (L : Nat) : Heap := { h with objs := h.objs.extract 0 L }
open Classical in
/-- what the generator must not touch: the untracked young objects, as they are -/
noncomputable def gmark (L : Addr) (pv : List Addr) (H : Hp) (h : Heap) : Hp := fun b => match H b with
  | some u => some u
  | none => if L ≤ b ∧ b ∉ pv then (match h.get? b with
    | some o => some (.ext fun h' => h'.get? b = some o)
    | none => none) else none
/-- the generator's context while it runs for a consumer -/
noncomputable def gx (N : List Str) (env : Env) (X : Cx) (pv : List Addr) (H : Hp) (s : Shared) : Cx where
  prog := X.prog
  w := X.w
  K := X.K
  mg := X.mg
  base := X.base
  A := X.A.in1.deeper env
  N := N
  s_0 := { s with heap := hcut s.heap env.locals }
  H_0 := gmark env.locals pv H s.heap
  env := env
  outer := X.stack
  stack := env :: X.stack
  ex := []
  fn := fun _ => true
  calm := true
  pn := []
  xe := fun _ _ => False
/-- a frame of a generator def without cells -/
structure GEnv (N : List Str) (env : Env) : Prop where
  kind : env.scope.kind = .function
  glob : env.globals = mainGlobals
  blt : env.builtins = builtinsNs
  cells : ∀ x, env.cells.lookup x = none
  nocell : ∀ x, env.kindOf x ≠ some .cell ∧ env.kindOf x ≠ some .free
  frame : env.frame = some env.locals
/-- what the frame holds: the slots' values by the object -/
def Slots (N : List Str) (env : Env) (lo : Obj) (σ : St) : Prop := (∀ v, lo.data ≠ .cell v) ∧ σ.length = N.length ∧ ∃ m, (∀ h : Heap, h.get? env.locals = some lo → h.Ns env.locals m) ∧
  ∀ (i : Nat) (x : Str) (v : V), N[i]? = some x → σ[i]? = some (some v) → Vis env.scope x → ∃ u, RelV v u ∧ env.kindOf x = some .local ∧ m x = some u
section
variable {N : List Str} {env : Env} {X : Cx} {pins : List (Addr × Obj)} {σ σg : St} {H H' : Hp} {s s' : Shared} {pv : List Addr} {ip : List (Addr × Obj)}
theorem Slots.of (g : GEnv N env) (I : Inv (gx N env X pv H s) ip σg H' s') : ∃ lo, s'.heap.get? env.locals = some lo ∧ Slots N env lo σg := by
  obtain ⟨m, ⟨o, es, ep, ho, hd, hk, hm⟩, hl⟩ := I.loc
  refine ⟨o, ho, (fun v (z : o.data = .cell v) => by rw [hd] at z; cases z), I.len, m, fun h e => ⟨o, es, ep, e, hd, hk, hm⟩, fun i x v e1 e2 e3 => ?_⟩
  obtain ⟨u, r, l⟩ := hl i x v e1 e2 e3
  refine ⟨u, r, ?_⟩
  rcases l with l | ⟨k, _⟩
  · exact l
  · exact absurd k (fun k => k.elim (g.nocell x).1 (g.nocell x).2)
end
end DL
namespace DL
open PySem L2
open PyProof.Rows hiding St
open Sem (wp)
/-- one stretch of a run, up to its end or to what it hands out -/
def Sg (M : Model) (A : Around) (Φ : End → Shared → Prop) (c : Code) (t : Sem PySem.Fin) (fs : List Frame) (s : Shared) : Prop :=
  ∀ Γ p, Γ.code = c → Γ.Woken A → ∃ e s', Runs M Γ p t fs s e s' ∧ Φ e s'
section
variable {M : Model} {A : Around} {Φ : End → Shared → Prop} {c : Code} {fs : List Frame} {s : Shared}
theorem Sg.mono {Ψ : End → Shared → Prop} {t : Sem PySem.Fin} (h : Sg M A Φ c t fs s) (i : ∀ e s1, Φ e s1 → Ψ e s1) : Sg M A Ψ c t fs s := fun Γ p hc hw => by
  obtain ⟨e, s1, z1, z2⟩ := h Γ p hc hw
  exact ⟨e, s1, z1, i e s1 z2⟩
end
end DL
namespace DL
open PySem L2
open PyProof.Rows hiding St
open Sem (wp)
end DL
namespace DL
open PySem L2
open PyProof.Rows hiding St
open Sem (wp)
/-- the items, as long as the tuples stand -/
def ItT (K : PySem.W.Frag) (J : It) (H : Hp) (ds : List D) : Prop := ∀ H1, Tx H H1 →
  (∀ i, ds.length ≤ i → J.stop i H1) ∧ ∀ i d, ds[i]? = some d → J.go i H1 ∧ ∀ x H2, J.yld i H1 x H2 → (∀ a o, H1 a = some o → H2 a = some o) ∧ RepV K [] H2 d x
theorem ItT.tx {K : PySem.W.Frag} {J : It} {H H' : Hp} {ds : List D} (h : ItT K J H ds) (t : Tx H H') : ItT K J H' ds := fun H1 t1 => h H1 (t.trans t1)
theorem Grow.sub {H H' : Hp} (g : Grow [] H [] H') : ∀ a o, H a = some o → H' a = some o := fun a o e => g.keep a o e (by simp)
end DL
namespace DL
open PySem L2
open PyProof.Rows hiding St
open Sem (wp)
end DL
namespace DL
open PySem L2
open PyProof.Rows hiding St
open Sem (wp)
end DL
namespace DL
open PySem L2
open PyProof.Rows hiding St
open Sem (wp)
end DL
namespace DL
open PySem L2
open PyProof.Rows hiding St
open Sem (wp)
end DL
namespace DL
open PySem PySem.Spec L2
open PyProof.Rows hiding St
def getI (S : Sto) (d : D) : Option (Str × List (Str × D)) := match d with
  | .loc n => (match S[n]? with
    | some (.ins c fs) => some (c, fs)
    | _ => none)
  | _ => none
theorem getI_loc {S : Sto} {n : Nat} {c : Str} {fs : List (Str × D)} (h : S[n]? = some (.ins c fs)) : getI S (.loc n) = some (c, fs) := by
  unfold getI
  simp only [h]
section
variable {K : PySem.W.Frag} {ι : List Addr} {H : Hp}
theorem RepF.lookN {f : Str} : ∀ {fs : List (Str × D)} {vs : List (Str × V)}, RepF K ι H fs vs → fs.lookup f = none → vs.lookup f = none
  | [], _, r, e => by rw [RepF] at r; subst r; rfl
  | (k, x) :: fs, _, r, e => by
    rw [RepF] at r
    obtain ⟨v, vs, rfl, rx, rr⟩ := r
    cases h : f == k with
    | true => simp [List.lookup, h] at e
    | false =>
      simp only [List.lookup, h] at e ⊢
      exact RepF.lookN rr e
def putD (f : Str) (d : D) : List (Str × D) → List (Str × D)
  | [] => [(f, d)]
  | (g, x) :: r => if g = f then (g, d) :: r else (g, x) :: putD f d r
theorem RepF.put {f : Str} {d : D} {v : V} (rv : RepV K ι H d v) : ∀ {fs : List (Str × D)} {vs : List (Str × V)}, RepF K ι H fs vs → RepF K ι H (putD f d fs) (putF f v vs)
  | [], _, r => by
    rw [RepF] at r
    subst r
    exact RepF.one rv
  | (k, x) :: fs, _, r => by
    rw [RepF] at r
    obtain ⟨u, vs, rfl, rx, rr⟩ := r
    unfold putD putF
    by_cases h : k = f
    · rw [if_pos h, if_pos h, RepF]
      exact ⟨v, vs, rfl, rv, rr⟩
    · rw [if_neg h, if_neg h, RepF]
      exact ⟨u, _, rfl, rx, RepF.put rv rr⟩
theorem RepF.len : ∀ {fs : List (Str × D)} {vs : List (Str × V)}, RepF K ι H fs vs → fs.length = vs.length
  | [], _, r => by rw [RepF] at r; subst r; rfl
  | (k, x) :: fs, _, r => by
    rw [RepF] at r
    obtain ⟨v, vs, rfl, rx, rr⟩ := r
    simp [RepF.len rr]
theorem ins_at {S : Sto} {d : D} {x : V} {c : Str} {fs : List (Str × D)} (s : Sim K ι H S) (r : RepV K ι H d x) (e : getI S d = some (c, fs)) :
    ∃ n a C dx vs, d = .loc n ∧ x = .ref a ∧ ι[n]? = some a ∧ S[n]? = some (.ins c fs) ∧ PySem.W.nsIn K mainGlobals c = some (some (.ref C)) ∧ H a = some (.ins C dx vs) ∧ RepF K ι H fs vs := by
  unfold getI at e
  split at e
  · rename_i n
    split at e
    · rename_i c' fs' q
      cases e
      rw [RepV] at r
      obtain ⟨a, ea, rfl⟩ := r
      obtain ⟨C, dx, vs, h1, h2, h3⟩ := s.ob _ _ _ ea q
      exact ⟨n, a, C, dx, vs, rfl, rfl, ea, q, h1, h2, h3⟩
    · cases e
  · cases e
end
def FldOk (K : PySem.W.Frag) (cs : List Str) (f : Str) : Prop := ∀ c, c ∈ cs → ∃ C, PySem.W.nsIn K mainGlobals c = some (some (.ref C)) ∧ Cls K C ∧ NoAttr K C f
theorem fld_nil {K : PySem.W.Frag} {f : Str} : FldOk K [] f := fun c h => by simp at h
theorem fld_cons {K : PySem.W.Frag} {f c : Str} {C : Addr} {cs : List Str} (h1 : PySem.W.nsIn K mainGlobals c = some (some (.ref C))) (h2 : Cls K C) (h3 : NoAttr K C f) (t : FldOk K cs f) : FldOk K (c :: cs) f := fun d h => by
  rcases List.mem_cons.mp h with rfl | h
  · exact ⟨C, h1, h2, h3⟩
  · exact t d h
def dFld (cs : List Str) (f : Str) (d : D) (S : Sto) : R D := match getI S d with
  | some (c, fs) => if cs.contains c = true then (match fs.lookup f with
    | some v => .ok v S
    | none => .stuck) else .stuck
  | none => .stuck
def eFld (cs : List Str) (f : Str) (g : Ev → Sto → R D) : Ev → Sto → R D := fun ρ S => (g ρ S).bind fun d S1 => dFld cs f d S1
theorem mem_of_contains {cs : List Str} {c : Str} (h : cs.contains c = true) : c ∈ cs := by simpa using h
theorem de_fld {X : Cx} {W : WX} {cs : List Str} {e : Expr} {pos : Pos} {f : Str} {g : Ev → Sto → R D} (T : FldOk X.K cs f) (he : DE X W e g) (hb : attributeBase e f X.env (eval e X.env) = eval e X.env := by rfl) :
    DE X W (.Attribute e f pos) (eFld cs f g) := by
  refine PE.imp (pe_fld he hb) fun σ H Q ⟨ι, ρ, S, hE, hS, h⟩ => ⟨ι, ρ, S, hE, hS, (Post.bind h).mono fun d S1 ι1 H1 G1 s1 h1 x rx => ?_⟩
  unfold dFld at h1
  split at h1
  · rename_i c fs e1
    split at h1
    · rename_i hc
      split at h1
      · rename_i v hv
        obtain ⟨n, a, C, dx, vs, rfl, rfl, ea, hs, hn, hH, rf⟩ := ins_at s1 rx e1
        obtain ⟨C', hn', cl, na⟩ := T c (mem_of_contains hc)
        rw [hn] at hn'
        cases hn'
        obtain ⟨u, hu, ru⟩ := RepF.look rf hv
        exact ⟨a, C, dx, vs, u, rfl, hH, cl, na, hu, h1.here s1 _ ru⟩
      · exact h1.elim
    · exact h1.elim
  · exact h1.elim
/-- e.f = v -/
def gAttr (K : PySem.W.Frag) (to : TE) (f : Str) : TG := fun v σ H Q => to σ H fun o H1 => ∃ a C dx fs, o = .ref a ∧ H1 a = some (.ins C dx fs) ∧ Cls K C ∧ NoAttr K C f ∧ fs.length < 1000 ∧ Q σ (upd H1 a (.ins C dx (putF f v fs)))
theorem pg_attr {X : Cx} {o : Expr} {f : Str} {to : TE} {pos : Pos} (ho : PE X o to) : PG X (.Attribute o f pos) (gAttr X.K to f) := by
  refine ⟨fun pins s σ H v u Q I r h => ?_⟩
  rw [arm_assign_Attribute]
  refine wpAny_bind (wpAny_holding (thn (ho.run pins s σ H _ I h) fun ov s1 ⟨x, H1, I1, rx, a, C, dx, fs, ex, ea, c, n, l, q⟩ => ?_))
  subst ex
  obtain rfl : ov = Value.ref a := rx
  refine wpAny_bind (wpAny_standAt (wpAny_bind (wpAny_holding (setattr_ok I1 ea c n l r fun s2 I2 => ?_))))
  exact wpAny_release ⟨σ, _, I2, q⟩
def setI (cs : List Str) (f : Str) (o v : D) (S : Sto) : Option Sto := match o with
  | .loc n => (match S[n]? with
    | some (.ins c fs) => if cs.contains c = true ∧ fs.length < 1000 then some (S.set n (.ins c (putD f v fs))) else none
    | _ => none)
  | _ => none
def tAttr (cs : List Str) (f : Str) (g : Ev → Sto → R D) : Tg := fun v ρ S => match g ρ S with
  | .ok o S1 => (setI cs f o v S1).map fun S2 => (ρ, S2)
  | _ => none
theorem dg_attr {X : Cx} {W : WX} {cs : List Str} {o : Expr} {pos : Pos} {f : Str} {g : Ev → Sto → R D} (T : FldOk X.K cs f) (ho : DE X W o g) : DG X (.Attribute o f pos) (tAttr cs f g) :=
  PG.imp (pg_attr ho) fun v σ H Q ⟨ι, ρ, S, d, ρ', S', hE, hS, r, e, h⟩ => by
    unfold tAttr at e
    cases hf : g ρ S with
    | ok o S1 =>
      simp only [hf] at e
      refine ⟨ι, ρ, S, hE, hS, ?_⟩
      rw [hf]
      intro ι1 H1 G1 s1 x rx
      obtain ⟨S2, hs2, e2⟩ := Option.map_eq_some_iff.mp e
      cases e2
      unfold setI at hs2
      split at hs2
      · rename_i n
        split at hs2
        · rename_i c fs q
          split at hs2
          · rename_i hc
            cases hs2
            obtain ⟨n', a, C, dx, vs, e1, rfl, ea, _, hn, hH, rf⟩ := ins_at (c := c) (fs := fs) s1 rx (getI_loc q)
            cases e1
            obtain ⟨C', hn', cl, na⟩ := T c (mem_of_contains hc.1)
            rw [hn] at hn'
            cases hn'
            refine ⟨a, C, dx, vs, rfl, hH, cl, na, by rw [← RepF.len rf]; exact hc.2, ?_⟩
            have rv := RepV.grow G1 _ _ r
            have G3 : Grow ι1 H1 ι1 (upd H1 a (.ins C dx (putF f v vs))) := Grow.put (List.mem_of_getElem? ea)
            exact h ι1 _ σ (G1.trans G3) (s1.put ea ⟨C, dx, _, hn, upd_same, RepF.put (RepV.grow G3 _ _ rv) (RepF.grow G3 _ _ rf)⟩) ((hE.grow G1).grow G3)
          · cases hs2
        · cases hs2
      · cases hs2
    | er e1 S1 => simp only [hf] at e; cases e
    | stuck => simp only [hf] at e; cases e
def MethOk (gd : Bool) (P : Program) (w : World) (K : PySem.W.Frag) (mg : Str → Option Value) (base : Heap) (k : Nat) (m : Str) (tbl : List (Str × Fn)) : Prop := ∀ c F, (c, F) ∈ tbl → ∃ C f, PySem.W.nsIn K mainGlobals c = some (some (.ref C)) ∧ Cls K C ∧ Meth K C m f ∧ FnD gd P w K mg base k f F
theorem meth_nil {gd : Bool} {P : Program} {w : World} {K : PySem.W.Frag} {mg : Str → Option Value} {base : Heap} {k : Nat} {m : Str} : MethOk gd P w K mg base k m [] := fun n F h => by simp at h
theorem meth_cons {gd : Bool} {P : Program} {w : World} {K : PySem.W.Frag} {mg : Str → Option Value} {base : Heap} {k : Nat} {m : Str} {tbl : List (Str × Fn)} {c : Str} {C f : Addr} {F : Fn} (h1 : PySem.W.nsIn K mainGlobals c = some (some (.ref C))) (h2 : Cls K C) (h3 : Meth K C m f) (h4 : FnD gd P w K mg base k f F) (t : MethOk gd P w K mg base k m tbl) :
    MethOk gd P w K mg base k m ((c, F) :: tbl) := fun n G h => by
  rcases List.mem_cons.mp h with e | h
  · cases e; exact ⟨C, f, h1, h2, h3, h4⟩
  · exact t n G h
/-- the def that a method's name means at an instance -/
def mthOf (m : Str) (tbl : List (Str × Fn)) (d : D) (S : Sto) : Option Fn := match getI S d with
  | some (c, fs) => (match fs.lookup m with
    | none => tbl.lookup c
    | some _ => none)
  | none => none
theorem mthOf_some {m : Str} {tbl : List (Str × Fn)} {d : D} {S : Sto} {F : Fn} (h : mthOf m tbl d S = some F) : ∃ c fs, getI S d = some (c, fs) ∧ tbl.lookup c = some F ∧ fs.lookup m = none := by
  unfold mthOf at h
  split at h
  · rename_i c fs e
    split at h
    · rename_i e2
      exact ⟨c, fs, e, h, e2⟩
    · cases h
  · cases h
def eMth (m : Str) (tbl : List (Str × Fn)) (o : Ev → Sto → R D) (g : Ev → Sto → R (List D)) : Ev → Sto → R D := fun ρ S => (o ρ S).bind fun d S1 => match mthOf m tbl d S1 with
  | some F => (g ρ S1).bind fun ds S2 => F (d :: ds) S2
  | none => .stuck
section
variable {X : Cx} {W : WX} {gd : Bool} {k : Nat} {m : Str} {tbl : List (Str × Fn)} {o e : Expr} {es : List Expr} {og : Ev → Sto → R D} {g : Ev → Sto → R (List D)} {pos apos : Pos}
theorem mth_read (hM : MethOk gd X.prog X.w X.K X.mg X.base k m tbl) {σ : L2.St} {H : Hp} {Q : VK} (h : rdE X.K W (eMth m tbl og g) σ H Q) :
    rdE X.K W og σ H fun x H1 => ∃ a C dx vs F f, x = .ref a ∧ H1 a = some (.ins C dx vs) ∧ Cls X.K C ∧ Meth X.K C m f ∧ FnD gd X.prog X.w X.K X.mg X.base k f F ∧ vs.lookup m = none ∧ rdA X.K W g σ H1 fun us H2 => spD X.K F (.ref a :: us) H2 Q (WE W σ) := by
  obtain ⟨ι, ρ, S, hE, hS, h⟩ := h
  refine ⟨ι, ρ, S, hE, hS, (Post.bind h).mono fun d S1 ι1 H1 G1 s1 h1 v rv => ?_⟩
  cases hm : mthOf m tbl d S1 with
  | none => rw [hm] at h1; exact h1.elim
  | some F =>
    rw [hm] at h1
    obtain ⟨c, fs, e, e1, e2⟩ := mthOf_some hm
    obtain ⟨n, a, C, dx, vs, rfl, rfl, ea, hs, hn, hH, rf⟩ := ins_at s1 rv e
    obtain ⟨C', f, hn', cl, me, fd⟩ := hM c F (lookup_mem e1)
    rw [hn] at hn'
    cases hn'
    refine ⟨a, C, dx, vs, F, f, rfl, hH, cl, me, fd, RepF.lookN rf e2, ι1, ρ, S1, hE.grow G1, s1, (Post.bind h1).mono fun ds S2 ι2 H2 G2 s2 h2 us rs => ?_⟩
    exact ⟨ι2, S2, .loc n :: ds, RepL.cons (RepV.grow G2 _ _ rv) rs, s2, PostX.of h2⟩
theorem de_mth {pl : Sem Bool} (hM : MethOk gd X.prog X.w X.K X.mg X.base k m tbl) (hr : Room k X.A) (hG : gd = true → X.A.guards = some []) (tk : Takes X W) (ho : DE X W o og) (ha : DA X W (e :: es) g)
    (hst : starEach (e :: es) X.env = (false, eval e X.env) :: starEach es X.env := by rfl) (hpl : (backTo pos (starEach es X.env)).any (·.1) = false := by rfl)
    (ht : eval (.Call (.Attribute o m apos) (e :: es) [] pos) X.env = (do
      let ov ← eval o X.env
      standAt apos.atName
      let (f, first) ← holding [ov] (getMethod ov m pl)
      callWith pos f first (backTo pos (starEach (e :: es) X.env)) (backToKw pos (keywordEach [] X.env))) := by rfl) :
    DE X W (.Call (.Attribute o m apos) (e :: es) [] pos) (eMth m tbl og g) := by
  refine ⟨fun pins s σ H Q I h => ?_⟩
  refine PySem.W.methodCall_KW (pl := pl) (thn (ho.run pins s σ H _ I (mth_read hM h)) fun u s1 ⟨x, H1, I1, rx, a, C, dx, vs, F, f, ex, ea, cl, me, fd, l, q⟩ => ?_) ht
  subst ex
  obtain rfl : u = Value.ref a := rx
  refine getmeth_ok I1 ea cl me l ?_
  refine PySem.W.callWith_K (first := [.ref a]) (h₀ := X.base) I.ok.mod.kin me.kp (thn (ha.run pos pins s1 σ H1 _ I1 q) fun us s2 ⟨ws, H2, I2, r, q2⟩ => ⟨I2.kIn, ?_⟩) hst hpl
  exact run_fnD (us := .ref a :: us) (vs := .ref a :: ws) fd hr hG tk I2 (.cons rfl r) q2
theorem de_mth0 {pl : Sem Bool} (hM : MethOk gd X.prog X.w X.K X.mg X.base k m tbl) (hr : Room k X.A) (hG : gd = true → X.A.guards = some []) (tk : Takes X W) (ho : DE X W o og)
    (ht : eval (.Call (.Attribute o m apos) [] [] pos) X.env = (do
      let ov ← eval o X.env
      standAt apos.atName
      let (f, first) ← holding [ov] (getMethod ov m pl)
      callWith pos f first (backTo pos (starEach [] X.env)) (backToKw pos (keywordEach [] X.env))) := by rfl) :
    DE X W (.Call (.Attribute o m apos) [] [] pos) (eMth m tbl og aNil) := by
  refine ⟨fun pins s σ H Q I h => ?_⟩
  refine PySem.W.methodCall_KW (pl := pl) (thn (ho.run pins s σ H _ I (mth_read hM h)) fun u s1 ⟨x, H1, I1, rx, a, C, dx, vs, F, f, ex, ea, cl, me, fd, l, q⟩ => ?_) ht
  subst ex
  obtain rfl : u = Value.ref a := rx
  refine getmeth_ok I1 ea cl me l ?_
  obtain ⟨ι, ρ, S, hE, hS, h⟩ := q
  exact PySem.W.callWith_K0 (first := [.ref a]) I1.kIn me.kp (run_fnD (us := [.ref a]) (vs := [.ref a]) fd hr hG tk I1 (.cons rfl .nil) (h.here hS [] RepL.nil))
end
def eNew (c : Str) (F : Fn) (g : Ev → Sto → R (List D)) : Ev → Sto → R D := fun ρ S => (g ρ S).bind fun ds S1 => match F (.loc S1.length :: ds) (S1 ++ [.ins c []]) with
  | .ok .non S2 => .ok (.loc S1.length) S2
  | .er e S2 => .er e S2
  | _ => .stuck
section
variable {X : Cx} {W : WX} {k : Nat} {x c : Str} {C f : Addr} {F : Fn} {p pos : Pos} {e : Expr} {es : List Expr} {g : Ev → Sto → R (List D)}
theorem run_mkD {pins : List (Addr × Obj)} {σ : L2.St} {H : Hp} {s : Shared} {Q : VK} {us : List Value} {vs : List V} (M : Mk X.K C f) (hF : FnD false X.prog X.w X.K X.mg X.base k f F) (hr : Room (k + 1) X.A) (tk : Takes X W) (I : Inv X pins σ H s) (r : Vals vs us)
    (h : ∀ x dx, H x = none → H dx = none → dx ≠ x → spD X.K F (.ref x :: vs) (upd (upd H dx (.own x)) x (.ins C dx [])) (fun v H2 => v = .non ∧ Q (.ref x) H2) (WE W σ)) :
    wpAny (model X.prog X.w) X.A (call (.ref C) us) (EP X pins σ Q) X.xe s := by
  have hq := h (s.heap.objs.size + 1) s.heap.objs.size (I.hok.fresh (Nat.le_succ _)) (I.hok.fresh (Nat.le_refl _)) (Nat.ne_of_lt (Nat.lt_succ_self _))
  have I2 := Inv.made (C := C) I
  have r2 : Vals (V.ref (s.heap.objs.size + 1) :: vs) (Value.ref (s.heap.objs.size + 1) :: us) := .cons rfl r
  refine wpAny_call (make_map (f := f) I.kIn M.makes M.init (beq_iff_eq.mp M.fn) (codeAny_mono (hF _ X.stack _ _ (Value.ref (s.heap.objs.size + 1) :: us) _ _ (WE W σ) (hr.make C us []) (fun z => nomatch z) (I2.env0.make C us []) r2 hq) fun r s' hq' => ?_))
  cases r with
  | error e => exact passAt tk σ pins _ _ e s' I2 hq'
  | ok fl =>
    cases fl with
    | ret u =>
      obtain ⟨v, H', I3, rv, ev, q3⟩ := I2.after hq'
      subst ev
      exact ⟨rv, ⟨V.ref (s.heap.objs.size + 1), H', I3, rfl, q3⟩⟩
    | next => exact False.elim hq'
    | brk => exact False.elim hq'
    | cont => exact False.elim hq'
theorem new_read (hn : PySem.W.nsIn X.K mainGlobals c = some (some (.ref C))) {σ : L2.St} {H : Hp} {Q : VK} (h : rdE X.K W (eNew c F g) σ H Q) :
    rdA X.K W g σ H fun vs H1 => ∀ x dx, H1 x = none → H1 dx = none → dx ≠ x → spD X.K F (.ref x :: vs) (upd (upd H1 dx (.own x)) x (.ins C dx [])) (fun v H2 => v = .non ∧ Q (.ref x) H2) (WE W σ) := by
  obtain ⟨ι, ρ, S, hE, hS, h⟩ := h
  refine ⟨ι, ρ, S, hE, hS, (Post.bind h).mono fun ds S1 ι1 H1 G1 s1 h1 vs rs x dx hx hd ne => ?_⟩
  have hx' : upd H1 dx (.own x) x = none := by rw [upd_ne (Ne.symm ne)]; exact hx
  have G2 : Grow ι1 H1 (ι1 ++ [x]) (upd (upd H1 dx (.own x)) x (.ins C dx [])) := (Grow.upd hd).trans (Grow.push hx')
  have s2 : Sim X.K (ι1 ++ [x]) (upd (upd H1 dx (.own x)) x (.ins C dx [])) (S1 ++ [.ins c []]) := (s1.upd hd).push hx' ⟨C, dx, [], hn, upd_same, by rw [RepF]⟩
  have rl : RepV X.K (ι1 ++ [x]) (upd (upd H1 dx (.own x)) x (.ins C dx [])) (.loc S1.length) (.ref x) := by
    rw [RepV]
    exact ⟨x, by rw [← s1.len]; simp, rfl⟩
  refine ⟨ι1 ++ [x], S1 ++ [.ins c []], .loc S1.length :: ds, RepL.cons rl (RepL.grow G2 _ _ rs), s2, ?_⟩
  cases hF : F (.loc S1.length :: ds) (S1 ++ [.ins c []]) with
  | ok d S2 =>
    rw [hF] at h1
    cases d with
    | non =>
      intro ι' H' v G s' rv
      rw [RepV] at rv
      exact ⟨rv, h1 ι' H' (G2.trans G) s' (.ref x) (RepV.grow G _ _ rl)⟩
    | _ => exact (show False from h1).elim
  | er e S2 => rw [hF] at h1; exact fun ι' H' cls dd G s' rx => h1 ι' H' cls dd (G2.trans G) s' rx
  | stuck => rw [hF] at h1; exact h1
theorem de_new (M : Mk X.K C f) (hF : FnD false X.prog X.w X.K X.mg X.base k f F) (hr : Room (k + 1) X.A) (tk : Takes X W) (hn : PySem.W.nsIn X.K mainGlobals x = some (some (.ref C))) (hm : X.mg x = some (.ref C)) (ha : DA X W (e :: es) g) (hg : Gl X x := by rfl) (hdb : (x == ("__debug__" : Str)) = false := by decide)
    (he : starEach (e :: es) X.env = (false, eval e X.env) :: starEach es X.env := by rfl) (hpl : (backTo pos (starEach es X.env)).any (·.1) = false := by rfl) : DE X W (.Call (.Name x p) (e :: es) [] pos) (eNew x F g) := by
  refine ⟨fun pins s σ H Q I h => ?_⟩
  refine wpAny_Call_Name_kw (ld_glob I hg hm ?_ hdb)
  exact PySem.W.callWith_K (h₀ := X.base) I.ok.mod.kin M.kp (thn (ha.run pos pins s σ H _ I (new_read hn h)) fun us s1 ⟨vs, H1, I1, r1, q1⟩ => ⟨I1.kIn, run_mkD M hF hr tk I1 r1 q1⟩) he hpl
end
end DL
namespace DL
open PySem PySem.Spec L2
open PyProof.Rows hiding St
structure PCs (X : Cx) (cases : List MatchCase) (t : V → TS) : Prop where
  run : ∀ (first : Bool) (pins : List (Addr × Obj)) (s : Shared) (σ : L2.St) (H : Hp) (v : V) (u : Value) (D : Ends), Inv X pins σ H s → RelV v u → t v D σ H → wpAny (model X.prog X.w) X.A (matchCases cases X.env u first) (SP X pins D) X.xe s
abbrev CF := D → Ev → Sto → SR
def rdC (K : PySem.W.Frag) (W : WX) (F : CF) : V → TS := fun v E σ H => ∃ ι ρ S d, RepE K ι H σ ρ ∧ Sim K ι H S ∧ RepV K ι H d v ∧ PostS K W E ι H (F d ρ S)
abbrev DCs (X : Cx) (W : WX) (cases : List MatchCase) (F : CF) : Prop := PCs X cases (rdC X.K W F)
section
variable {X : Cx} {W : WX}
def cNil : CF := fun _ ρ S => .nx ρ S
def cAny (B : Ev → Sto → SR) : CF := fun _ ρ S => B ρ S
theorem dcs_any {body : List Stmt} {rest : List MatchCase} {p : Pos} {B : Ev → Sto → SR} (hb : DSs X W body B) : DCs X W (⟨.MatchAs none none p, none, body⟩ :: rest) (cAny B) := ⟨fun first pins s σ H v u E I r ⟨ι, ρ, S, d, hE, hS, rv, h⟩ =>
  wpAny_matchCases_cons (wpAny_matchPattern_Capture (wpAny_assignInOrder_none (hb.run pins s σ H E I ⟨ι, ρ, S, hE, hS, h⟩)))⟩
def cText (x : Str) (B : Ev → Sto → SR) (G : CF) : CF := fun d ρ S => match d with
  | .str y => if y = x then B ρ S else G d ρ S
  | _ => .stuck
theorem dcs_text {x : Str} {j : Nat} {p1 p2 : Pos} {body : List Stmt} {rest : List MatchCase} {B : Ev → Sto → SR} {G : CF} (hb : DSs X W body B) (hr : DCs X W rest G) : DCs X W (⟨.MatchValue (.Constant (.str x) j p1) p2, none, body⟩ :: rest) (cText x B G) := by
  refine ⟨fun first pins s σ H v u E I r ⟨ι, ρ, S, d, hE, hS, rv, h⟩ => ?_⟩
  cases d with
  | str y =>
    have hv := str_at rv
    subst hv
    replace h : PostS X.K W E ι H (if y = x then B ρ S else G (.str y) ρ S) := h
    refine wpAny_matchCases_cons (wpAny_matchPattern_Value (thn ((pe_str (X := X) (x := x) (j := j) (pos := p1)).run pins s σ H (fun w H' => w = .str x ∧ H' = H) I ⟨rfl, rfl⟩) fun u2 s2 ⟨w, H2, I2, r2, e1, e2⟩ => ?_))
    subst e1 e2
    refine thn (op_eq pins s2 σ H2 (.str y) (.str x) u u2 (fun w H' => w = .bl (decide (V.str y = V.str x)) ∧ H' = H2) I2 r r2 ⟨rfl, rfl, rfl⟩) fun u3 s3 ⟨w, H3, I3, r3, e3, e4⟩ => ?_
    subst e3 e4
    cases r3
    refine wpAny_truthy_bool ?_
    by_cases e : y = x
    · subst e
      rw [if_pos rfl] at h
      simp only [decide_true, if_true]
      exact wpAny_assignInOrder_none (hb.run pins s3 σ H3 E I3 ⟨ι, ρ, S, hE, hS, h⟩)
    · rw [if_neg e] at h
      have e' : decide (V.str y = V.str x) = false := decide_eq_false fun z => e (V.str.inj z)
      simp only [e', Bool.false_eq_true, if_false]
      exact hr.run false pins s3 σ H3 (.str y) u E I3 r ⟨ι, ρ, S, .str y, hE, hS, rv, h⟩
  | _ => exact (show False from h).elim
def sMatch (f : Ev → Sto → R D) (F : CF) : Ev → Sto → SR := fun ρ S => (f ρ S).toS ρ fun d S1 => F d ρ S1
theorem ds_match {e : Expr} {cases : List MatchCase} {pos : Pos} {f : Ev → Sto → R D} {F : CF} (he : DE X W e f) (hc : DCs X W cases F) : DS X W (.Match e cases pos) (sMatch f F) := by
  refine ⟨fun pins s σ H E I ⟨ι, ρ, S, hE, hS, h⟩ => ?_⟩
  have rd : rdE X.K W f σ H fun v H1 => rdC X.K W F v E σ H1 := ⟨ι, ρ, S, hE, hS, (PostS.bind h hE).mono fun d S1 ι1 H1 G1 s1 h1 v rv => ⟨ι1, ρ, S1, d, hE.grow G1, s1, rv, h1⟩⟩
  exact wpAny_Match (thn (he.run pins s σ H _ I rd) fun u s1 ⟨v, H1, I1, r, q⟩ => hc.run true pins s1 σ H1 v u E I1 r q)
end
def dNotInS (a b : D) (S : Sto) : R D := match a, b with
  | .str i, .str j => .ok (.bl (!(!(Builtin.Str.occurrences j i 0 j.length 1).isEmpty))) S
  | _, _ => .stuck
theorem k_notInS {K : PySem.W.Frag} : OpK K (fun x y H Q => ∃ i j, x = .str i ∧ y = .str j ∧ Q (.bl (!(!(Builtin.Str.occurrences j i 0 j.length 1).isEmpty))) H) dNotInS := by
  intro W σ ι H S x y a b Q s rx ry h
  unfold dNotInS at h
  split at h
  · exact ⟨_, _, str_at rx, str_at ry, h.here s _ bl_rep⟩
  · exact h.elim
section
variable {prog : Program} {w : World} {A : Around} {E : Value → Shared → Prop} {s : Shared}
theorem nextOf_text_end {it : Addr} {x : Str} {t : Tok} {i : Nat} {Q : Value → Shared → Prop} (hh : A.handled = none)
    (hit : s.heap.IsStrIter it (strIterType x) x t i) (hx : x.cps[i]? = none)
    (hE : ∀ h' e, Heap.ExtBut it s.heap h' → (∃ o, h'.get? e = some o ∧ o.cls = .type "StopIteration") → E (.ref e) { s with heap := h' }) :
    wpAny (model prog w) A (Builtin.SmallTypes.nextOf (.ref it)) Q E s := by
  cases ha : x.cps.all (· < 128)
  · simp only [strIterType, ha, Bool.false_eq_true, if_false] at hit
    exact wpAny_nextOf_wide_end hh hit hx hE
  · simp only [strIterType, ha, if_true] at hit
    exact wpAny_nextOf_ascii_end hh hit hx hE
theorem str_enum_end {e it : Addr} {x : Str} {t : Tok} {i : Nat} {old : Value} {Q : Option Value → Shared → Prop} (hh : A.handled = none)
    (he : IsEnum s.heap e it i old) (hit : s.heap.IsStrIter it (strIterType x) x t i) (hx : x.cps[i]? = none)
    (hQ : ∀ h', Heap.ExtBut it s.heap h' → Q none { s with heap := h' }) : wpAny (model prog w) A (pyNext (.ref e)) Q E s := by
  have hT : s.TypeIs (.ref e) "enumerate" := ⟨_, he, rfl⟩
  unfold pyNext
  refine wpAny_bind (wpAny_attempt (wpAny_callSpecial?_slot (name := Str.ofString "__next__") hT F.slot_enumerate_next
    (wpAny_call_entry F.slot_enumerate_next hT F.entry_enumerate_next ?_ (F.args_enumerate_next_1 _))))
  show wpAny _ _ (field (.ref e) 2 >>= _) _ _ _
  refine wpAny_bind (wpAny_field he rfl (x := .ref it) rfl ?_)
  refine wpAny_bind (nextOf_text_end hh hit hx fun h' x he' hx' => ?_)
  obtain ⟨o, ho, hc⟩ := hx'
  refine wpAny_bind (wpAny_isInstance (T := "StopIteration") (b := true) ⟨o, ho, hc⟩ isSubtype_stop ?_)
  exact wpAny_pure (hQ _ he')
end
def ItS (z : Str) : It :=
  ⟨fun i H => i < z.cps.size, fun i H v H' => ∃ T c, v = .ref T ∧ H T = none ∧ H' = upd H T (.tup [.int (i : Nat), .str ⟨#[c]⟩]) ∧ z.cps[i]? = some c, fun i H => z.cps.size ≤ i⟩
theorem turn_enumS {P : Program} {w : World} {K : PySem.W.Frag} {elts : List Expr} {kk : Nat} {tpos : Pos} (z : Str) (t : Tok) (e it : Addr) :
    Turn P w K (.Tuple elts kk tpos) (ItS z) [e, it] e (fun i h => (∃ old, IsEnum h e it ((i : Nat) : Int) old) ∧ h.IsStrIter it (strIterType z) z t i ∧ e ≠ it) where
  mem := by simp
  obj := fun i h st b hb => by
    obtain ⟨⟨old, he⟩, ⟨o, ho, hc, hd⟩, _⟩ := st
    have e' : b = e ∨ b = it := by simpa using hb
    rcases e' with z | z
    · rw [z]; exact ⟨_, he, fun v q => nomatch q⟩
    · rw [z]; exact ⟨o, ho, fun v q => by rw [hd] at q; cases q⟩
  keep := fun i h h' st k => let ⟨⟨old, he⟩, ⟨o, ho, r⟩, hne⟩ := st; ⟨⟨old, k e (by simp) _ he⟩, ⟨o, k it (by simp) o ho, r⟩, hne⟩
  item := by
    intro X hP hw hK hc i pins s σ H E I hf st hg
    subst hP hw hK
    obtain ⟨⟨old, he⟩, hit, hne⟩ := st
    have hel : e < s.heap.objs.size := Heap.lt_size he
    have hil : it < s.heap.objs.size := by obtain ⟨_, q, _⟩ := hit; exact Heap.lt_size q
    have D := Draws.text (prog := X.prog) (w := X.w) (A := X.A.in1) (I.ok.hd hc) it z t
    refine wpAny_pyNext_enum_itemD D he hit hg hne (by simp [hne]) fun y h' tk hP ho hit' hT hsz hk => ?_
    obtain ⟨c, u, hcx, rfl⟩ := hP
    refine ⟨_, rfl, wpAny_letOwnedTupleGo_enum (s := { s with heap := h', toks := tk + 1 }) ho fun h'' he' sb => ?_⟩
    have hT2 : h''.get? s.heap.objs.size = some { cls := .type "tuple", data := .seq #[.int i tk, .str ⟨#[c]⟩ u] } := (sb.2 _ (Nat.ne_of_gt hel)).trans hT
    have new : ObjOk X.prog X.w (upd H s.heap.objs.size (.tup [.int (i : Nat), .str ⟨#[c]⟩])) h'' s.heap.objs.size (.tup [.int (i : Nat), .str ⟨#[c]⟩]) :=
      ⟨by show 2 ≤ sizeLine; decide, [.int i tk, .str ⟨#[c]⟩ u], .cons ⟨_, rfl⟩ (.cons ⟨_, rfl⟩ .nil), ⟨_, hT2, rfl, _, rfl⟩⟩
    have I1 : Inv X pins σ (upd H s.heap.objs.size (.tup [.int (i : Nat), .str ⟨#[c]⟩])) { s with heap := h'', toks := tk + 1 } :=
      I.turnedNew (ch := [e, it]) (fun b ob hb q => (sb.2 b (fun z => hb (by simp [z]))).trans (hk b ob (fun z => hb (by simp [z])) (fun z => hb (by simp [z])) q)) hf (Nat.le_refl _) new
    refine ⟨.ref s.heap.objs.size, _, I1, rfl, ⟨_, c, rfl, I.hok.fresh (Nat.le_refl _), rfl, hcx⟩, ⟨⟨.str ⟨#[c]⟩ u, ?_⟩, ?_, hne⟩, fun b hb => ?_⟩
    · have e1 : ((i + 1 : Nat) : Int) = (i : Int) + 1 := by omega
      rw [e1]; exact he'
    · obtain ⟨o, q, r⟩ := hit'
      exact ⟨o, (sb.2 it (Ne.symm hne)).trans q, r⟩
    · have hb' : b < s.heap.objs.size := by
        have e' : b = e ∨ b = it := by simpa using hb
        rcases e' with z | z
        · rw [z]; exact hel
        · rw [z]; exact hil
      rw [upd_ne (Nat.ne_of_lt hb')]
      exact (hf b hb).1
  done := by
    intro X hP hw hK hc i pins s σ H E I hf st hg
    subst hP hw hK
    obtain ⟨⟨old, he⟩, hit, hne⟩ := st
    obtain ⟨f0, f1, f2, f3, f4, f5⟩ := hf it (by simp)
    have hx : z.cps[i]? = none := Array.getElem?_eq_none hg
    refine str_enum_end (I.ok.hd hc) he hit hx fun h' eb => ⟨rfl, I.turned (t' := s.toks) (fun b o hb q => eb b o hb q) f0 f1 f3 f4 f5⟩
  self := fun A i s Q E st h => let ⟨⟨_, he⟩, _⟩ := st; wpAny_pyIter_enum he h
def tEnumS (te : TA) : TI := fun σ H R => te σ H fun vs H1 => ∃ x, vs = [.str x] ∧ R (ItS x) H1
theorem pi_enumS {X : Cx} {e : Expr} {ta : TA} {p pos tpos : Pos} {elts : List Expr} {kk : Nat} (hg : Gl X "enumerate") (hm : X.mg "enumerate" = none) (ha : PA X [e] ta) (hs : starEach [e] X.env = [(false, eval e X.env)] := by rfl) :
    PI X (.Tuple elts kk tpos) (.Call (.Name "enumerate" p) [e] [] pos) (tEnumS ta) := by
  refine ⟨fun pins s σ H R I h => ?_⟩
  refine Call_ (ld_blt I hg hm boot_enumerate (PyProof.Rows.callWith_type1 (thn (ha.run pos pins s σ H _ I h) fun us s1 ⟨vs, H1, I1, r1, q1⟩ => ?_) hs rfl))
  obtain ⟨x, ex, q⟩ := q1
  subst ex
  cases r1 with
  | cons r rr =>
    cases rr
    obtain ⟨t, rfl⟩ := r
    refine call_enumerate_str fun h' he hit hsz hk => wpAny_pyIter_enum he ?_
    have I2 : Inv X pins σ H1 { s1 with heap := h' } := I1.kept (t' := s1.toks) hk
    refine ⟨s1.heap.objs.size + 1, [s1.heap.objs.size + 1, s1.heap.objs.size], _, _, H1, rfl, I2, turn_enumS x t (s1.heap.objs.size + 1) s1.heap.objs.size, ⟨⟨.none, he⟩, hit, Nat.succ_ne_self _⟩, fun b hb => ?_, q⟩
    have e' : b = s1.heap.objs.size + 1 ∨ b = s1.heap.objs.size := by simpa using hb
    have hle : s1.heap.objs.size ≤ b := by
      rcases e' with z | z
      · rw [z]; exact Nat.le_add_right _ _
      · rw [z]; exact Nat.le_refl _
    exact I1.fpOk hle (I1.hok.fresh hle)
def iEnumS (g : Ev → Sto → R (List D)) : Ev → Sto → R Src := fun ρ S => (g ρ S).bind fun ds S1 => match ds with
  | [.str x] => .ok (enumD 0 (signs x), yes) S1
  | _ => .stuck
theorem ities_ok {K : PySem.W.Frag} {ι : List Addr} {H : Hp} {x : Str} {g : Sto → Prop} : ItOk K (ItS x) ι H (enumD 0 (signs x), g) := fun ι1 H1 S1 G s gs => by
  have sl : (signs x).length = x.cps.size := by unfold signs; rw [List.length_map, Array.length_toList]
  refine ⟨fun i hi => ?_, fun i d e => ?_⟩
  · show x.cps.size ≤ i
    have hi' : (enumD 0 (signs x)).length ≤ i := hi
    rw [enumD_len, sl] at hi'
    exact hi'
  · obtain ⟨y, hy, rfl⟩ := enumD_get e
    unfold signs at hy
    rw [List.getElem?_map] at hy
    obtain ⟨c, hc, rfl⟩ := Option.map_eq_some_iff.mp hy
    have hc' : x.cps[i]? = some c := by rw [← Array.getElem?_toList]; exact hc
    refine ⟨(Array.getElem?_eq_some_iff.mp hc').1, fun v H2 hz => ?_⟩
    obtain ⟨T, c', rfl, hT, rfl, hx'⟩ := hz
    rw [hc'] at hx'
    cases hx'
    rw [Nat.zero_add]
    exact ⟨Grow.upd hT, s.upd hT, rep_tup s hT (RepL.cons int_rep (RepL.one str_rep))⟩
theorem di_enumS {X : Cx} {W : WX} {e : Expr} {g : Ev → Sto → R (List D)} {p pos tpos : Pos} {elts : List Expr} {kk : Nat} (hg : Gl X "enumerate") (hm : X.mg "enumerate" = none) (ha : DA X W [e] g) (hs : starEach [e] X.env = [(false, eval e X.env)] := by rfl) :
    DI X W (.Tuple elts kk tpos) (.Call (.Name "enumerate" p) [e] [] pos) (iEnumS g) := by
  refine PI.imp (pi_enumS hg hm ha hs) fun σ H Rr ⟨ι, ρ, S, hE, hS, q⟩ => ⟨ι, ρ, S, hE, hS, (Post.bind q).mono fun ds S1 ι1 H1 G1 s1 h1 vs rs => ?_⟩
  split at h1
  · rename_i x
    obtain ⟨v, rfl, rv⟩ := RepL.one_inv rs
    exact ⟨x, by rw [str_at rv], h1.here s1 _ ities_ok⟩
  · exact h1.elim
section
variable {prog : Program} {w : World} {A : Around} {E : Value → Shared → Prop} {s : Shared}
theorem max_tup {t : Addr} {its : List Value} {ns : List Int} {Q : Value → Shared → Prop} (hh : A.handled = none) (ht : s.heap.IsTuple t its.toArray) (hi : IntsAre its ns) (hne : 0 < ns.length)
    (h : ∀ h' tk M t', (∀ b o, s.heap.get? b = some o → h'.get? b = some o) → M ∈ ns → (∀ a, a ∈ ns → a ≤ M) → Q (.int M t') { s with heap := h', toks := tk }) : wpAny (model prog w) A (call (.builtin "max") [.ref t]) Q E s := by
  obtain ⟨xs, e⟩ := hi.allInts.items
  have hn : numsOf (intItems xs).toList = ns := by rw [← e]; exact hi.numsOf
  rw [nums_intItems] at hn
  subst hn
  rw [e] at ht
  have hsz : 0 < xs.size := by simpa using hne
  obtain ⟨o, ho, hc, n, hd⟩ := id ht
  have hne : t ≠ s.heap.objs.size := Nat.ne_of_lt (Heap.lt_size ho)
  refine call_max_walk (wpAny_pyIter_tuple ht ?_)
  refine ⟨_, _, _, _, _, _, _, rfl, Walks.tuple (A := A.in1) hh _ t hne (intItems xs), ⟨⟨_, Heap.get?_push_size _ rfl, rfl, rfl⟩, ht.at fun o e => Heap.get?_push_of_some _ e⟩, fun b hb => ?_, by simpa [intItems] using hsz, CmpOf.ints_gt (numAt xs) (fun _ _ => intItems_at), fun v h' tk hP hk => ?_⟩
  · rcases List.mem_cons.mp hb with rfl | hb
    · exact Heap.lt_size (Heap.get?_push_size _ rfl)
    · obtain rfl := List.mem_singleton.mp hb
      exact Heap.lt_size (Heap.get?_push_of_some _ ho)
  · have hsz2 : (intItems xs).size = xs.size := by simp [intItems]
    rw [hsz2] at hP
    obtain ⟨t', rfl⟩ := intItems_at hP
    obtain ⟨h1, h2⟩ := argBest_gt (numAt xs) (xs.size - 1)
    refine h h' tk _ t' (fun b o e => hk b o (fun hb => absurd (Heap.lt_size e) ((List.mem_singleton.mp hb) ▸ Nat.lt_irrefl _)) (Heap.get?_push_of_some _ e)) ?_ fun a ha => ?_
    · rw [numAt_eq]; exact PySem.getD_mem (by rw [List.length_map, Array.length_toList]; omega)
    · obtain ⟨j, hj, rfl⟩ := mem_getD ha
      rw [List.length_map, Array.length_toList] at hj
      rw [← numAt_eq]; exact h2 j (by omega)
end
def rMaxT (K : PySem.W.Frag) : List V → Hp → VK → Prop := fun vs H Q => ∃ (a : Addr) (ns : List Int), vs = [V.ref a] ∧ SqT K H a (ns.map V.int) ∧ 0 < ns.length ∧ ∀ m, m ∈ ns → (∀ y, y ∈ ns → y ≤ m) → Q (.int m) H
theorem cr_maxT {X : Cx} (hc : X.calm = true) : CallR X (.builtin "max") (rMaxT X.K) := by
  intro pins s σ H vs us Q I r h
  obtain ⟨a, ns, rfl, hs, hne, q⟩ := h
  obtain ⟨its, rv, hl, _⟩ := I.tuple hs
  rw [Vals.ref1 r]
  exact max_tup (I.ok.hd hc) hl rv.ints hne fun h' tk m t' hk h1 h2 => ⟨.int _, H, I.kept hk, ⟨_, rfl⟩, q m h1 h2⟩
def bMaxT : Fn := fun ds S => match ds with
  | [.tup xs] => (match intsOf xs with
    | some is => if is = [] then .stuck else .ok (.int (maxL is)) S
    | none => .stuck)
  | ds => bMax ds S
theorem c_maxT {X : Cx} (hc : X.calm = true) : CallR X (.builtin "max") (fun xs H Q => rMaxT X.K xs H Q ∨ ((∃ i j, xs = [.int i, .int j] ∧ Q (.int (if j > i then j else i)) H) ∨ rMax X.K xs H Q)) := CallR.or (cr_maxT hc) (c_max hc)
theorem k_maxT {K : PySem.W.Frag} : CallK K (fun xs H Q => rMaxT K xs H Q ∨ ((∃ i j, xs = [.int i, .int j] ∧ Q (.int (if j > i then j else i)) H) ∨ rMax K xs H Q)) bMaxT := by
  intro W σ ι H S vs ds Q s rl h
  unfold bMaxT at h
  split at h
  · rename_i xs
    obtain ⟨v, rfl, rv⟩ := RepL.one_inv rl
    split at h
    · rename_i is hi
      split at h
      · exact h.elim
      · rename_i hne
        rw [RepV] at rv
        obtain ⟨p, us, rfl, q, ru⟩ := rv
        rw [intsOf_rep _ _ _ ru hi] at q
        obtain ⟨m1, m2⟩ := maxL_spec hne
        refine .inl ⟨p, is, rfl, q.sq, List.length_pos_iff.mpr hne, fun m hm hle => ?_⟩
        have : m = maxL is := by have := hle _ m1; have := m2 _ hm; omega
        rw [this]
        exact h.here s _ int_rep
    · exact h.elim
  · exact .inr (k_max W σ ι H S vs _ Q s rl h)
end DL
namespace DL
open PySem PySem.Spec L2
open PyProof.Rows hiding St
end DL
namespace DL
open PySem PySem.Spec L2
open PyProof.Rows hiding St
def putKD (kvs : List (Key × D)) (k : Key) (v : D) : List (Key × D) :=
  if (kvs.any fun kv => decide (kv.1 = k)) = true then kvs.map (fun kv => if kv.1 = k then (kv.1, v) else kv) else kvs ++ [(k, v)]
theorem RepK.any {K : PySem.W.Frag} {ι : List Addr} {H : Hp} {k : Key} : ∀ {kvs : List (Key × D)} {vs : List (Key × V)}, RepK K ι H kvs vs → (vs.any fun kv => decide (kv.1 = k)) = (kvs.any fun kv => decide (kv.1 = k))
  | [], _, h => by rw [RepK] at h; subst h; rfl
  | (j, x) :: kvs, _, h => by
    rw [RepK] at h
    obtain ⟨v, r, rfl, a, b⟩ := h
    rw [List.any_cons, List.any_cons, RepK.any b]
theorem RepK.repl {K : PySem.W.Frag} {ι : List Addr} {H : Hp} {k : Key} {d : D} {v : V} (rv : RepV K ι H d v) : ∀ {kvs : List (Key × D)} {vs : List (Key × V)}, RepK K ι H kvs vs → RepK K ι H (kvs.map fun kv => if kv.1 = k then (kv.1, d) else kv) (vs.map fun kv => if kv.1 = k then (kv.1, v) else kv)
  | [], _, h => by rw [RepK] at h; subst h; rw [List.map_nil, RepK]; rfl
  | (j, x) :: kvs, _, h => by
    rw [RepK] at h
    obtain ⟨w, r, rfl, a, b⟩ := h
    rw [List.map_cons, List.map_cons]
    by_cases hj : j = k
    · simp only [hj, if_true]
      rw [RepK]
      exact ⟨v, _, rfl, rv, RepK.repl rv b⟩
    · simp only [hj, if_false]
      rw [RepK]
      exact ⟨w, _, rfl, a, RepK.repl rv b⟩
theorem RepK.snoc {K : PySem.W.Frag} {ι : List Addr} {H : Hp} {k : Key} {d : D} {v : V} (rv : RepV K ι H d v) : ∀ {kvs : List (Key × D)} {vs : List (Key × V)}, RepK K ι H kvs vs → RepK K ι H (kvs ++ [(k, d)]) (vs ++ [(k, v)])
  | [], _, h => by rw [RepK] at h; subst h; rw [List.nil_append, RepK]; exact ⟨v, [], rfl, rv, by rw [RepK]⟩
  | (j, x) :: kvs, _, h => by
    rw [RepK] at h
    obtain ⟨w, r, rfl, a, b⟩ := h
    rw [List.cons_append, RepK]
    exact ⟨w, _, rfl, a, RepK.snoc rv b⟩
theorem RepK.put {K : PySem.W.Frag} {ι : List Addr} {H : Hp} {k : Key} {d : D} {v : V} {kvs : List (Key × D)} {vs : List (Key × V)} (h : RepK K ι H kvs vs) (rv : RepV K ι H d v) : RepK K ι H (putKD kvs k d) (putK vs k v) := by
  unfold putKD putK
  rw [RepK.any h]
  split
  · exact RepK.repl rv h
  · exact RepK.snoc rv h
theorem RepK.len {K : PySem.W.Frag} {ι : List Addr} {H : Hp} {kvs : List (Key × D)} {vs : List (Key × V)} (h : RepK K ι H kvs vs) : vs.length = kvs.length := by
  have := congrArg List.length (RepK.keys h)
  simpa using this
end DL
namespace DL
open PySem PySem.Spec L2
open PyProof.Rows hiding St
noncomputable def B__law_odd : Ev → Sto → SR :=
  (sSeq (sSet 1 (eFl (aCons (eC .non) (aCons (eC (.bl true)) (aCons (eC (.bl false)) (aCons (eNeg (eC (.int 1))) (aCons (eC (.int 0)) (aCons (eC (.int 1)) (aCons (eC (.int 2)) (aCons (eC (.int 5)) (aCons (eC (.int 6)) (aCons (eC (.int 24)) (aCons (eOp dPow (eC (.int 10)) (eC (.int 29))) (aCons (eC (.str "")) (aCons (eC (.str "0")) (aCons (eTup aNil) (aCons (eFl aNil) (aCons eDict0 (aCons (eTup (aCons (eC (.int 0)) aNil)) (aCons (eFl (aCons (eC (.int 0)) aNil)) (aCons (eTup (aCons (eC (.bl true)) aNil)) (aCons (eTup (aCons (eTup aNil) aNil)) (aCons (eC (.str "a")) aNil)))))))))))))))))))))))
    (sRet (eOp dIx (eOp dAdd (eVar 1) (eFl (aCons (eTup (aCons (eC (.int 0)) (aCons (eC (.int 2)) aNil))) (aCons (eC (.fd [((Sum.inr "a"), .int 1)])) (aCons (eTup (aCons (eC (.int 0)) (aCons (eC (.int 0)) (aCons (eC (.int 2)) aNil)))) aNil))))) (eCall F__law_draw (aCons (eVar 0) (aCons (eC (.int 24)) aNil))))))
noncomputable def F__law_odd : Fn := fnC close 2 1 B__law_odd
theorem srcOf_tup (ds : List D) (S : Sto) : srcOf (.tup ds) S = .ok (ds, yes) S := rfl
theorem srcOf_fl (ds : List D) (S : Sto) : srcOf (.fl ds) S = .ok (ds, yes) S := rfl
theorem srcOf_kl (ds : List D) (S : Sto) : srcOf (.kl ds) S = .ok (ds, yes) S := rfl
theorem srcOf_ti (l : List Int) (S : Sto) : srcOf (ti l) S = .ok (l.map D.int, yes) S := rfl
theorem forD_pure {T : Tg} {B Z : Ev → Sto → SR} {S : Sto} (I : Ev → Prop) : ∀ (ds : List D) (ρ : Ev), I ρ → (∀ d ∈ ds, ∀ ρ, I ρ → ∃ ρ1 ρ2, T d ρ S = some (ρ1, S) ∧ (B ρ1 S = .nx ρ2 S ∨ B ρ1 S = .ct ρ2 S) ∧ I ρ2) →
    ∃ ρ', I ρ' ∧ forD yes T B Z ds ρ S = Z ρ' S
  | [], ρ, h, _ => ⟨ρ, h, forD_nil trivial⟩
  | d :: ds, ρ, h, step => by
    obtain ⟨ρ1, ρ2, hT, hB, h2⟩ := step d List.mem_cons_self ρ h
    obtain ⟨ρ', h3, e⟩ := forD_pure I ds ρ2 h2 fun d' hd => step d' (List.mem_cons_of_mem _ hd)
    refine ⟨ρ', h3, ?_⟩
    rw [forD, if_pos (show yes S from trivial), hT]
    rcases hB with hB | hB <;> (simp only [hB]; exact e)
theorem forD_strm {T : Tg} {B Z : Ev → Sto → SR} {rest : Sto} (I : Ev → Prop) (cost : Nat) : ∀ (ds : List D) (ρ : Ev) (S : Sto) (n : Nat), I ρ → Strm S n rest → n + ds.length * cost < 2 ^ 60 →
    (∀ d ∈ ds, ∀ ρ S n, I ρ → Strm S n rest → n + cost < 2 ^ 60 → ∃ ρ1 ρ2 S2, T d ρ S = some (ρ1, S) ∧ (B ρ1 S = .nx ρ2 S2 ∨ B ρ1 S = .ct ρ2 S2) ∧ I ρ2 ∧ Strm S2 (n + cost) rest) →
    ∃ ρ' S', I ρ' ∧ Strm S' (n + ds.length * cost) rest ∧ forD yes T B Z ds ρ S = Z ρ' S'
  | [], ρ, S, n, h, hs, _, _ => ⟨ρ, S, h, by simpa using hs, forD_nil trivial⟩
  | d :: ds, ρ, S, n, h, hs, hn, step => by
    have e1 : n + (d :: ds).length * cost = n + cost + ds.length * cost := by simp [Nat.add_mul]; omega
    rw [e1] at hn ⊢
    obtain ⟨ρ1, ρ2, S2, hT, hB, h2, s2⟩ := step d List.mem_cons_self ρ S n h hs (by omega)
    obtain ⟨ρ', S', h3, s3, e⟩ := forD_strm I cost ds ρ2 S2 (n + cost) h2 s2 hn fun d' hd => step d' (List.mem_cons_of_mem _ hd)
    refine ⟨ρ', S', h3, s3, ?_⟩
    rw [forD, if_pos (show yes S from trivial), hT]
    rcases hB with hB | hB <;> (simp only [hB]; exact e)
theorem fnC_er {n m : Nat} {B : Ev → Sto → SR} {ds : List D} {S S' : Sto} {ρ : Ev} {e : Ex} (hm : ds.length = m) (h : B (startD n ds) S = .er e ρ S') (hc : S'.length = S.length) : fnC close n m B ds S = .er e S' := by
  unfold fnC
  rw [if_pos hm, h]
  show closeE S e S' = _
  unfold closeE
  rw [if_pos hc]
theorem fnC_nx {n m : Nat} {B : Ev → Sto → SR} {ds : List D} {S S' : Sto} {ρ : Ev} (hm : ds.length = m) (h : B (startD n ds) S = .nx ρ S') (hc : S'.length = S.length) : fnC close n m B ds S = .ok .non S' := by
  unfold fnC
  rw [if_pos hm, h]
  exact close_same hc
def pl : D → Bool
  | .non => true
  | .bl _ => true
  | .int _ => true
  | .str _ => true
  | .tup _ => true
  | .fl _ => true
  | .fd _ => true
  | _ => false
structure Shw (b k : Nat) (d : D) : Prop where
  ok : rok d = true
  bulk : bulkD d ≤ b
  dep : depD d ≤ k
theorem Shw.mono {b b' k k' : Nat} {d : D} (h : Shw b k d) (hb : b ≤ b') (hk : k ≤ k') : Shw b' k' d := ⟨h.ok, Nat.le_trans h.bulk hb, Nat.le_trans h.dep hk⟩
theorem repr_s {b k : Nat} {d : D} (h : Shw b k d) (hb : b ≤ 8000) (hk : k ≤ 60) (S : Sto) : bRepr [d] S = .ok (.str (shD d)) S := repr_d h.ok (Nat.le_trans h.bulk hb) (Nat.le_trans h.dep hk) S
theorem shwL {b k : Nat} : ∀ {ds : List D}, (∀ d ∈ ds, Shw b k d) → rokL ds = true ∧ bulkL ds ≤ ds.length * (b + 1) ∧ depL ds ≤ k
  | [], _ => ⟨rfl, by simp [bulkL], by simp [depL]⟩
  | d :: ds, h => by
    obtain ⟨h1, h2, h3⟩ := shwL (ds := ds) fun x hx => h x (List.mem_cons_of_mem _ hx)
    have hd := h d List.mem_cons_self
    refine ⟨by rw [rokL, hd.ok, h1]; rfl, ?_, ?_⟩
    · rw [bulkL, List.length_cons, Nat.add_mul]
      have := hd.bulk
      omega
    · rw [depL]
      exact Nat.max_le.mpr ⟨hd.dep, h3⟩
theorem shw_tup {b k : Nat} {ds : List D} (h : ∀ d ∈ ds, Shw b k d) : Shw (ds.length * (b + 1)) (k + 1) (.tup ds) := by
  obtain ⟨h1, h2, h3⟩ := shwL h
  exact ⟨by rw [rok]; exact h1, by rw [bulkD]; exact h2, by rw [depD]; omega⟩
theorem shw_fl {b k : Nat} {ds : List D} (h : ∀ d ∈ ds, Shw b k d) : Shw (ds.length * (b + 1)) (k + 1) (.fl ds) := by
  obtain ⟨h1, h2, h3⟩ := shwL h
  exact ⟨by rw [rok]; exact h1, by rw [bulkD]; exact h2, by rw [depD]; omega⟩
theorem shw_int {i : Int} (h : i.natAbs < 2 ^ 1000) : Shw 0 0 (.int i) := ⟨rok_int 1000 h (by decide) (by decide), by simp [bulkD], by simp [depD]⟩
theorem big9 : (10 ^ 9 : Nat) < 2 ^ 1000 := by decide
theorem shw_nat {i : Int} (h0 : -(10 ^ 9) < i) (h : i < 10 ^ 9) : Shw 0 0 (.int i) := shw_int (by have := big9; omega)
theorem shw_non : Shw 0 0 .non := ⟨rfl, by simp [bulkD], by simp [depD]⟩
theorem shw_ti {l : List Int} (h : ∀ t ∈ l, -(10 ^ 9) < t ∧ t < 10 ^ 9) : Shw l.length 1 (ti l) := by
  unfold ti
  have := shw_tup (b := 0) (k := 0) (ds := l.map D.int) fun d hd => by
    obtain ⟨t, ht, rfl⟩ := List.mem_map.mp hd
    exact shw_nat (h t ht).1 (h t ht).2
  rw [List.length_map] at this
  simpa using this.mono (Nat.le_of_eq (Nat.mul_one _)) (Nat.le_refl _)
def oddL : List D := [.non, .bl true, .bl false, .int (-1), .int 0, .int 1, .int 2, .int 5, .int 6, .int 24, .int (10 ^ 29), .str "", .str "0", .tup [], .fl [], .fd [], .tup [.int 0], .fl [.int 0], .tup [.bl true], .tup [.tup []], .str "a", .tup [.int 0, .int 2], .fd [(.inr "a", .int 1)], .tup [.int 0, .int 0, .int 2]]
theorem odd_pl : ∀ d ∈ oddL, pl d = true := by
  have : oddL.all pl = true := rfl
  exact fun d hd => List.all_eq_true.mp this d hd
theorem odd_ok {S : Sto} {n : Nat} {rest : Sto} (h : Strm S n rest) (hn : n < 2 ^ 60) : ∃ d S', F__law_odd [.loc 1] S = .ok d S' ∧ d ∈ oddL ∧ Strm S' (n + 1) rest := by
  obtain ⟨z, S', h1, h2, h3, h4⟩ := draw_ok h (m := 24) (by decide) (by decide) hn
  have hz : (z.toNat) < oddL.length := by
    show z.toNat < 24
    omega
  refine ⟨oddL[z.toNat], S', ?_, List.getElem_mem hz, h4⟩
  refine fnC_rt rfl ?_ (by rw [h4.len, h.len])
  unfold B__law_odd
  have hp : ∀ S, dPow (.int 10) (.int 29) S = .ok (.int (10 ^ 29)) S := fun S => dPow_ok ⟨by decide, by decide, by decide⟩ S
  have ha : ∀ S, dAdd (.fl [.non, .bl true, .bl false, .int (-1), .int 0, .int 1, .int 2, .int 5, .int 6, .int 24, .int (10 ^ 29), .str "", .str "0", .tup [], .fl [], .fd [], .tup [.int 0], .fl [.int 0], .tup [.bl true], .tup [.tup []], .str "a"]) (.fl [.tup [.int 0, .int 2], .fd [(.inr "a", .int 1)], .tup [.int 0, .int 0, .int 2]]) S = .ok (.fl oddL) S := fun S => ifp_pos (by show 24 ≤ sizeLine; decide)
  have hx : dIx (.fl oddL) (.int z) S' = .ok oddL[z.toNat] S' := dIx_fl (by rw [atI_nn h2 (by show z < 24; omega)]; exact List.getElem?_eq_getElem hz)
  simp only [eVar, eC, eOp, eT, eAnd, eOr, eNot, eIf, eAndV, eOrV, eNotV, eCall, aNil, aCons, aStar, sOf, eTup, eFl, eLoc, eSl, oNone, oSome, iOf, eNeg, eChain, eMt, bOf, eDict0, eRev, eListRg, iZipD, sRaise1, sRaise0, eCallV, List.lookup, R.bind_ok, R.bind_er, R.bind_stuck, R.toS_ok, R.toS_er, R.toS_stuck, SR.next_nx, SR.next_rt, SR.next_er, SR.next_bk, SR.next_ct, SR.next_stuck, sNil, sSeq, sBrk, sCnt, sExp, sRet, sRetN, sIf, sSet, sAsg, sAug, sPar2, sPar3, tN, DL.tTup, DL.tNil, DL.tCons, DL.tSub, iSeq, srcOf, iRange1, iRange2, sFor, startD, List.map_cons, List.map_nil, List.length_cons, List.length_nil, List.replicate, List.cons_append, List.nil_append, List.getElem?_cons_zero, List.getElem?_cons_succ, List.set_cons_zero, List.set_cons_succ, dSub_int, dFdiv_int, dMod_int, dLt_int, dLe_int, dGt_int, dGe_int, dAddI_int, dSubI_int, dIsN_non, isN, dAdd_int, ll0, ll1, ll2, ll3, ll4, ll5, ll6, ll7, ll8, ll9, ll10, ll11, ll12, ll13, ll14, ll15, ll16, ll17, ll18, ll19, ll20, ll21, ll22, ll23, ll24, ll25, ll26, ll27, ll28, ll29, ll30, ll31, ll32, ll33, ll34, ll35, ll36, ll37, ll38, ll39, ll40, Nat.reduceSub, Nat.reduceAdd, Nat.reduceEqDiff, if_true, if_false, ifp_t, ifp_f, reduceIte, Bool.true_eq_false, Bool.false_eq_true, Option.map_some, Option.map_none, Option.bind_some, Option.bind_none, hp, ha, h1, hx]
end DL
namespace DL
open PySem PySem.Spec L2
open PyProof.Rows hiding St
theorem listRg_ok (n : Nat) (hn : n ≤ 10 ^ 6) (S : Sto) : (ifp (RgOk 0 n) (mkFl (rangeD 0 (n : Int).toNat) S) .stuck : R D) = .ok (.fl (rangeD 0 n)) S := by
  rw [ifp_pos (RgOk.of_le (by omega) (by omega) (by omega) (by omega))]
  simp [mkFl]
theorem add_fl (xs ys : List D) (h : xs.length + ys.length ≤ 10 ^ 6) (S : Sto) : dAdd (.fl xs) (.fl ys) S = .ok (.fl (xs ++ ys)) S := by
  show ifp (xs.length + ys.length ≤ sizeLine) (R.ok (D.fl (xs ++ ys)) S) .stuck = _
  exact ifp_pos (Nat.le_trans h (by decide))
theorem rangeD_cons (lo : Int) (n : Nat) : rangeD lo (n + 1) = .int lo :: rangeD (lo + 1) n := by
  unfold rangeD
  rw [List.range_succ_eq_map, List.map_cons, List.map_map]
  congr 1
  · simp
  · apply List.map_congr_left
    intro k _
    simp only [Function.comp_apply, Nat.succ_eq_add_one, Int.natCast_add, Int.natCast_one]
    congr 1
    omega
end DL
namespace DL
open PySem PySem.Spec L2
open PyProof.Rows hiding St
def jn (s e : Int × Int) : Int × Int := (s.1 + max 0 (e.1 - s.2), e.2 + max 0 (s.2 - e.1))
def rp (e : Int × Int) (n : Int) : Int × Int := if n = 0 then (0, 0) else if 0 ≤ (n - 1) * (e.2 - e.1) then (e.1, e.2 + (n - 1) * (e.2 - e.1)) else (e.1 - (n - 1) * (e.2 - e.1), e.2)
def dp (e : Int × Int) : D := .tup [.int e.1, .int e.2]
def wh (v : D) : Bool := match v with
  | .int i => decide (0 ≤ i)
  | _ => false
end DL
namespace DL
open PySem PySem.Spec L2
open PyProof.Rows hiding St
end DL
namespace DL
open PySem PySem.Spec L2
open PyProof.Rows hiding St
/-- beginnings with their gaps; f is the first of all -/
def un (n f : Nat) : List Nat → List (Nat × Nat)
  | [] => []
  | [b] => [(b, n + f - b)]
  | b :: c :: r => (b, c - b) :: un n f (c :: r)
end DL
namespace DL
open PySem PySem.Spec L2
open PyProof.Rows hiding St
structure Run (e : Int × Int) : Prop where
  a0 : 0 ≤ e.1
  a5 : e.1 ≤ 5
  c1 : 1 ≤ e.2
  cM : e.2 ≤ 10 ^ 13
def toks (fs : List (Int × Int)) : List Int := (fs.map fun e => List.replicate e.2.toNat e.1).flatten
def tot (fs : List (Int × Int)) : Int := (fs.map fun e => (1 - e.1) * e.2).sum
def len (fs : List (Int × Int)) : Int := (fs.map fun e => e.2).sum
theorem mulT_int {i j : Int} (h : -(2 ^ 64) < i ∧ i < 2 ^ 64) (S : Sto) : dMulT (.int i) (.int j) S = .ok (.int (i * j)) S := mul_small h S
end DL
namespace DL
open PySem PySem.Spec L2
open PyProof.Rows hiding St
noncomputable def L1__law_parts (ρ : Ev) (S : Sto) : SR :=
  (sSeq (sSet 7 (eCall bMax (aCons (eC (.int 0)) (aCons (eCall bMinT (aCons (eVar 6) (aCons (eOp dSub (eVar 1) (eVar 4)) aNil))) aNil))))
    (sSeq (sSet 2 (eOp dAdd (eVar 2) (eOp dMulT (eFl (aCons (eTup (aCons (eVar 5) (aCons (eVar 7) aNil))) aNil)) (eCall bInt (aCons (eOp dGt (eVar 7) (eC (.int 0))) aNil)))))
    (sSeq (sSet 3 (eOp dAdd (eVar 3) (eOp dMulT (eFl (aCons (eTup (aCons (eVar 5) (aCons (eOp dSub (eVar 6) (eVar 7)) aNil))) aNil)) (eCall bInt (aCons (eOp dLt (eVar 7) (eVar 6)) aNil)))))
    (sSet 4 (eOp dAdd (eVar 4) (eVar 6)))))) ρ S
noncomputable def B__law_parts : Ev → Sto → SR :=
  (sSeq (sPar3 2 3 4 (aCons (eFl aNil) (aCons (eFl aNil) (aCons (eC (.int 0)) aNil))))
    (sSeq (sFor (iSeq (eVar 0)) (tTup 2 (tCons (tN 5) (tCons (tN 6) tNil))) L1__law_parts sNil)
    (sRet (eOp dAdd (eVar 3) (eVar 2)))))
noncomputable def F__law_parts : Fn := fnC close 8 2 B__law_parts
def passed (c d : Int) : Int := min (max d 0) c
def befR : Int → List (Int × Int) → List (Int × Int)
  | _, [] => []
  | d, e :: fs => (if 0 < passed e.2 d then [(e.1, passed e.2 d)] else []) ++ befR (d - e.2) fs
def aftR : Int → List (Int × Int) → List (Int × Int)
  | _, [] => []
  | d, e :: fs => (if passed e.2 d < e.2 then [(e.1, e.2 - passed e.2 d)] else []) ++ aftR (d - e.2) fs
theorem bef_run : ∀ (fs : List (Int × Int)) (d : Int), (∀ e ∈ fs, Run e) → (∀ e ∈ befR d fs, Run e) ∧ (befR d fs).length ≤ fs.length
  | [], d, _ => by simp [befR]
  | e :: fs, d, h => by
    have hr := h e List.mem_cons_self
    obtain ⟨i1, i2⟩ := bef_run fs (d - e.2) fun x hx => h x (List.mem_cons_of_mem _ hx)
    rw [befR]
    by_cases hc : 0 < passed e.2 d
    · rw [if_pos hc]
      refine ⟨fun x hx => ?_, by simp; omega⟩
      rcases List.mem_append.mp hx with hx | hx
      · rw [List.mem_singleton.mp hx]
        have hp : passed e.2 d ≤ e.2 := by unfold passed; omega
        have := hr.cM
        exact ⟨hr.a0, hr.a5, by show 1 ≤ passed e.2 d; omega, by show passed e.2 d ≤ 10 ^ 13; omega⟩
      · exact i1 x hx
    · rw [if_neg hc]
      exact ⟨fun x hx => i1 x (by simpa using hx), by simp; omega⟩
theorem aft_run : ∀ (fs : List (Int × Int)) (d : Int), (∀ e ∈ fs, Run e) → (∀ e ∈ aftR d fs, Run e) ∧ (aftR d fs).length ≤ fs.length
  | [], d, _ => by simp [aftR]
  | e :: fs, d, h => by
    have hr := h e List.mem_cons_self
    obtain ⟨i1, i2⟩ := aft_run fs (d - e.2) fun x hx => h x (List.mem_cons_of_mem _ hx)
    rw [aftR]
    by_cases hc : passed e.2 d < e.2
    · rw [if_pos hc]
      refine ⟨fun x hx => ?_, by simp; omega⟩
      rcases List.mem_append.mp hx with hx | hx
      · rw [List.mem_singleton.mp hx]
        have hp : 0 ≤ passed e.2 d := by have := hr.c1; unfold passed; omega
        have := hr.cM
        exact ⟨hr.a0, hr.a5, by show 1 ≤ e.2 - passed e.2 d; omega, by show e.2 - passed e.2 d ≤ 10 ^ 13; omega⟩
      · exact i1 x hx
    · rw [if_neg hc]
      exact ⟨fun x hx => i1 x (by simpa using hx), by simp; omega⟩
def rdR (p : Int) (fs : List (Int × Int)) : List (Int × Int) := aftR p fs ++ befR p fs
theorem rd_run (fs : List (Int × Int)) (p : Int) (h : ∀ e ∈ fs, Run e) : (∀ e ∈ rdR p fs, Run e) ∧ (rdR p fs).length ≤ 2 * fs.length := by
  obtain ⟨a1, a2⟩ := aft_run fs p h
  obtain ⟨b1, b2⟩ := bef_run fs p h
  refine ⟨fun e he => ?_, by unfold rdR; rw [List.length_append]; omega⟩
  unfold rdR at he
  rcases List.mem_append.mp he with he | he
  · exact a1 e he
  · exact b1 e he
theorem append_at {S : Sto} {n : Nat} {ds : List D} {d : D} (h : getL S n = some ds) (hl : ds.length < 10 ^ 6) : mAppend (.loc n) [d] S = .ok .non (S.set n (.lst (ds ++ [d]))) := by
  show (match getL S n with
    | some xs => ifp (xs.length < sizeLine) (R.ok D.non (S.set n (.lst (xs ++ [d])))) .stuck
    | none => .stuck) = _
  rw [h]
  exact ifp_pos (Nat.lt_of_lt_of_le hl (by decide))
theorem isLst_at {S : Sto} {n : Nat} {ds : List D} (h : getL S n = some ds) : isLst S (.loc n) = true := by
  unfold isLst
  rw [show lstOf S (.loc n) = some ds from h]; rfl
theorem mulL1 (x : D) (b : Bool) (S : Sto) : dMulT (.fl [x]) (.int (if b then 1 else 0)) S = .ok (.fl (if b then [x] else [])) S := by
  show ifp (-(2 ^ 63) ≤ (if b then (1 : Int) else 0) ∧ (if b then (1 : Int) else 0) < 2 ^ 63 ∧ [x].length * (if b then (1 : Int) else 0).toNat ≤ sizeLine) (R.ok (D.fl (List.replicate (if b then (1 : Int) else 0).toNat [x]).flatten) S) .stuck = _
  cases b with
  | true => rw [ifp_pos ⟨by decide, by decide, by show 1 ≤ sizeLine; decide⟩]; rfl
  | false => rw [ifp_pos ⟨by decide, by decide, by show 0 ≤ sizeLine; decide⟩]; rfl
theorem bIntB (b : Bool) (S : Sto) : bInt [.bl b] S = .ok (.int (if b then 1 else 0)) S := rfl
theorem parts_loop (x0 : Option D) (p : Int) (S : Sto) : ∀ (fs B A : List (Int × Int)) (st : Int) (x5 x6 x7 : Option D), (∀ e ∈ fs, Run e) → B.length + fs.length < 1000 → A.length + fs.length < 1000 →
    ∃ y4 y5 y6 y7, forD yes (tTup 2 (tCons (tN 5) (tCons (tN 6) tNil))) L1__law_parts sNil (fs.map dp) [x0, some (.int p), some (.fl (B.map dp)), some (.fl (A.map dp)), some (.int st), x5, x6, x7] S = .nx [x0, some (.int p), some (.fl ((B ++ befR (p - st) fs).map dp)), some (.fl ((A ++ aftR (p - st) fs).map dp)), y4, y5, y6, y7] S
  | [], B, A, st, x5, x6, x7, _, _, _ => by
    refine ⟨some (.int st), x5, x6, x7, ?_⟩
    rw [List.map_nil, forD_nil trivial, befR, aftR, List.append_nil, List.append_nil]
    rfl
  | e :: fs, B, A, st, x5, x6, x7, hr, hB, hA => by
    have h0 := hr e List.mem_cons_self
    have c1 := h0.c1
    rw [List.length_cons] at hB hA
    have k1 : ∀ S, bMinT [.int e.2, .int (p - st)] S = .ok (.int (min e.2 (p - st))) S := fun S => rfl
    have k2 : ∀ S, bMax [.int 0, .int (min e.2 (p - st))] S = .ok (.int (passed e.2 (p - st))) S := fun S => by
      show R.ok (D.int (max 0 (min e.2 (p - st)))) S = _
      have : max 0 (min e.2 (p - st)) = passed e.2 (p - st) := by unfold passed; omega
      rw [this]
    have m1 := mulL1 (dp (e.1, passed e.2 (p - st))) (decide (0 < passed e.2 (p - st)))
    have m2 := mulL1 (dp (e.1, e.2 - passed e.2 (p - st))) (decide (passed e.2 (p - st) < e.2))
    have m1' : ∀ S, dMulT (.fl [.tup [.int e.1, .int (passed e.2 (p - st))]]) (.int (if decide (0 < passed e.2 (p - st)) = true then 1 else 0)) S = .ok (.fl ((if 0 < passed e.2 (p - st) then [(e.1, passed e.2 (p - st))] else []).map dp)) S := fun S => by
      rw [show D.tup [.int e.1, .int (passed e.2 (p - st))] = dp (e.1, passed e.2 (p - st)) from rfl, m1]
      by_cases hc : 0 < passed e.2 (p - st) <;> simp [hc]
    have m2' : ∀ S, dMulT (.fl [.tup [.int e.1, .int (e.2 - passed e.2 (p - st))]]) (.int (if decide (passed e.2 (p - st) < e.2) = true then 1 else 0)) S = .ok (.fl ((if passed e.2 (p - st) < e.2 then [(e.1, e.2 - passed e.2 (p - st))] else []).map dp)) S := fun S => by
      rw [show D.tup [.int e.1, .int (e.2 - passed e.2 (p - st))] = dp (e.1, e.2 - passed e.2 (p - st)) from rfl, m2]
      by_cases hc : passed e.2 (p - st) < e.2 <;> simp [hc]
    obtain ⟨b, hb, hbl⟩ : ∃ b : List (Int × Int), (if 0 < passed e.2 (p - st) then [(e.1, passed e.2 (p - st))] else []) = b ∧ b.length ≤ 1 := ⟨_, rfl, by split <;> simp⟩
    obtain ⟨a, ha, hal⟩ : ∃ a : List (Int × Int), (if passed e.2 (p - st) < e.2 then [(e.1, e.2 - passed e.2 (p - st))] else []) = a ∧ a.length ≤ 1 := ⟨_, rfl, by split <;> simp⟩
    rw [hb] at m1'
    rw [ha] at m2'
    have a1 : ∀ S, dAdd (.fl (B.map dp)) (.fl (b.map dp)) S = .ok (.fl ((B ++ b).map dp)) S := fun S => by rw [List.map_append]; exact add_fl _ _ (by rw [List.length_map, List.length_map]; omega) S
    have a2 : ∀ S, dAdd (.fl (A.map dp)) (.fl (a.map dp)) S = .ok (.fl ((A ++ a).map dp)) S := fun S => by rw [List.map_append]; exact add_fl _ _ (by rw [List.length_map, List.length_map]; omega) S
    obtain ⟨y4, y5, y6, y7, ih⟩ := parts_loop x0 p S fs (B ++ b) (A ++ a) (st + e.2) (some (.int e.1)) (some (.int e.2)) (some (.int (passed e.2 (p - st)))) (fun x hx => hr x (List.mem_cons_of_mem _ hx)) (by rw [List.length_append]; omega) (by rw [List.length_append]; omega)
    refine ⟨y4, y5, y6, y7, ?_⟩
    rw [List.map_cons, forD_cons (ρ1 := [x0, some (.int p), some (.fl (B.map dp)), some (.fl (A.map dp)), some (.int st), some (.int e.1), some (.int e.2), x7]) (S1 := S) (ρ2 := [x0, some (.int p), some (.fl ((B ++ b).map dp)), some (.fl ((A ++ a).map dp)), some (.int (st + e.2)), some (.int e.1), some (.int e.2), some (.int (passed e.2 (p - st)))]) (S2 := S) trivial rfl ?_, ih]
    · rw [befR, aftR, hb, ha, show p - (st + e.2) = p - st - e.2 by omega, List.append_assoc, List.append_assoc]
    · simp only [eVar, eC, eOp, eT, eAnd, eOr, eNot, eIf, eAndV, eOrV, eNotV, eCall, aNil, aCons, aStar, sOf, eTup, eFl, eLoc, eSl, oNone, oSome, iOf, eNeg, eChain, eMt, bOf, eDict0, eRev, eListRg, iZipD, sRaise1, sRaise0, eCallV, List.lookup, R.bind_ok, R.bind_er, R.bind_stuck, R.toS_ok, R.toS_er, R.toS_stuck, SR.next_nx, SR.next_rt, SR.next_er, SR.next_bk, SR.next_ct, SR.next_stuck, sNil, sSeq, sBrk, sCnt, sExp, sRet, sRetN, sIf, sSet, sAsg, sAug, sPar2, sPar3, tN, DL.tTup, DL.tNil, DL.tCons, DL.tSub, iSeq, srcOf_tup, srcOf_fl, srcOf_kl, srcOf_ti, iRange1, iRange2, sFor, startD, List.map_cons, List.map_nil, List.length_cons, List.length_nil, List.replicate, List.cons_append, List.nil_append, List.getElem?_cons_zero, List.getElem?_cons_succ, List.set_cons_zero, List.set_cons_succ, dSub_int, dFdiv_int, dMod_int, dLt_int, dLe_int, dGt_int, dGe_int, dAddI_int, dSubI_int, dIsN_non, isN, dAdd_int, ll0, ll1, ll2, ll3, ll4, ll5, ll6, ll7, ll8, ll9, ll10, ll11, ll12, ll13, ll14, ll15, ll16, ll17, ll18, ll19, ll20, ll21, ll22, ll23, ll24, ll25, ll26, ll27, ll28, ll29, ll30, ll31, ll32, ll33, ll34, ll35, ll36, ll37, ll38, ll39, ll40, Nat.reduceSub, Nat.reduceAdd, Nat.reduceEqDiff, if_true, if_false, ifp_t, ifp_f, reduceIte, Bool.true_eq_false, Bool.false_eq_true, Option.map_some, Option.map_none, Option.bind_some, Option.bind_none, tSq, sSet2, seqOf_fl, seqOf_tup, seqOf_ti, L1__law_parts, k1, k2, bIntB, m1', a1, m2', a2]
theorem parts_ok (fs : List (Int × Int)) (hl : fs.length < 400) (hr : ∀ e ∈ fs, Run e) (p : Int) (S : Sto) : F__law_parts [.tup (fs.map dp), .int p] S = .ok (.fl ((rdR p fs).map dp)) S := by
  have hst : startD 8 [D.tup (fs.map dp), D.int p] = [some (.tup (fs.map dp)), some (.int p), none, none, none, none, none, none] := rfl
  obtain ⟨y4, y5, y6, y7, lp⟩ := parts_loop (some (.tup (fs.map dp))) p S fs [] [] 0 none none none hr (by simp; omega) (by simp; omega)
  rw [Int.sub_zero, List.nil_append, List.nil_append, List.map_nil] at lp
  have a2 : ∀ S, dAdd (.fl ((aftR p fs).map dp)) (.fl ((befR p fs).map dp)) S = .ok (.fl ((rdR p fs).map dp)) S := fun S => by
    unfold rdR
    rw [List.map_append]
    exact add_fl _ _ (by
      have := (rd_run fs p hr).2
      unfold rdR at this
      rw [List.length_append] at this
      rw [List.length_map, List.length_map]; omega) S
  refine fnC_rt rfl ?_ rfl
  rw [hst]
  unfold B__law_parts
  simp only [eVar, eC, eOp, eT, eAnd, eOr, eNot, eIf, eAndV, eOrV, eNotV, eCall, aNil, aCons, aStar, sOf, eTup, eFl, eLoc, eSl, oNone, oSome, iOf, eNeg, eChain, eMt, bOf, eDict0, eRev, eListRg, iZipD, sRaise1, sRaise0, eCallV, List.lookup, R.bind_ok, R.bind_er, R.bind_stuck, R.toS_ok, R.toS_er, R.toS_stuck, SR.next_nx, SR.next_rt, SR.next_er, SR.next_bk, SR.next_ct, SR.next_stuck, sNil, sSeq, sBrk, sCnt, sExp, sRet, sRetN, sIf, sSet, sAsg, sAug, sPar2, sPar3, tN, DL.tTup, DL.tNil, DL.tCons, DL.tSub, iSeq, srcOf_tup, srcOf_fl, srcOf_kl, srcOf_ti, iRange1, iRange2, sFor, startD, List.map_cons, List.map_nil, List.length_cons, List.length_nil, List.replicate, List.cons_append, List.nil_append, List.getElem?_cons_zero, List.getElem?_cons_succ, List.set_cons_zero, List.set_cons_succ, dSub_int, dFdiv_int, dMod_int, dLt_int, dLe_int, dGt_int, dGe_int, dAddI_int, dSubI_int, dIsN_non, isN, dAdd_int, ll0, ll1, ll2, ll3, ll4, ll5, ll6, ll7, ll8, ll9, ll10, ll11, ll12, ll13, ll14, ll15, ll16, ll17, ll18, ll19, ll20, ll21, ll22, ll23, ll24, ll25, ll26, ll27, ll28, ll29, ll30, ll31, ll32, ll33, ll34, ll35, ll36, ll37, ll38, ll39, ll40, Nat.reduceSub, Nat.reduceAdd, Nat.reduceEqDiff, if_true, if_false, ifp_t, ifp_f, reduceIte, Bool.true_eq_false, Bool.false_eq_true, Option.map_some, Option.map_none, Option.bind_some, Option.bind_none, tSq, sSet2, seqOf_fl, seqOf_tup, seqOf_ti, lp, a2]
end DL
namespace DL
open PySem PySem.Spec L2
open PyProof.Rows hiding St
theorem fnC_strm {n m : Nat} {B : Ev → Sto → SR} {ds : List D} {S S6 : Sto} {d : D} {n0 k : Nat} {rest l : Sto} (h : Strm S n0 rest) (h6 : Strm S6 k (rest ++ l)) (hl : l ≠ []) (hm : ds.length = m) (hB : B (startD n ds) S = .rt d S6) (hd : low S.length d = true) :
    fnC close n m B ds S = .ok d (S6.take S.length) ∧ Strm (S6.take S.length) k rest := by
  obtain ⟨q1, q2⟩ := h.trunc h6
  refine ⟨?_, q2⟩
  unfold fnC
  rw [if_pos hm, hB]
  show close S d S6 = _
  unfold close
  have : 0 < l.length := List.length_pos_iff.mpr hl
  rw [if_neg (by rw [h6.len, h.len, List.length_append]; omega), if_pos ⟨q1, hd⟩]
end DL
namespace DL
open PySem PySem.Spec L2
open PyProof.Rows hiding St
def lo : Int → Int → List (Int × Int) → Int
  | _, m, [] => m
  | h, m, e :: r => lo (h + (1 - e.1) * e.2) (min m (h + (1 - e.1) * e.2)) r
def addR (f : List (Int × Int)) (s m : Int) : List (Int × Int) := if 0 < m then (match f.getLast? with
    | some q => if q.2 = s - 1 then f.dropLast ++ [(q.1, s + m - 1)] else f ++ [(s, s + m - 1)]
    | none => [(s, s + m - 1)]) else f
def rg (ps : List Nat) : List (Int × Int) := ps.foldl (fun f (p : Nat) => addR f (p : Int) 1) []
theorem add_tup (a b : List D) (h : a.length + b.length ≤ 10 ^ 6) (S : Sto) : dAdd (.tup a) (.tup b) S = .ok (.tup (a ++ b)) S := by
  show ifp (a.length + b.length ≤ sizeLine) (R.ok (D.tup (a ++ b)) S) .stuck = _
  exact ifp_pos (Nat.le_trans h (by decide))
end DL
namespace DL
open PySem PySem.Spec L2
open PyProof.Rows hiding St
def spr (e : Int × Int) : List Int := (List.range (e.2 - e.1 + 1).toNat).map fun (k : Nat) => e.1 + (k : Int)
theorem mem_spr {e : Int × Int} {x : Int} : x ∈ spr e ↔ e.1 ≤ x ∧ x ≤ e.2 := by
  unfold spr
  rw [List.mem_map]
  constructor
  · rintro ⟨k, hk, rfl⟩
    have := List.mem_range.mp hk
    omega
  · rintro ⟨h1, h2⟩
    exact ⟨(x - e.1).toNat, List.mem_range.mpr (by omega), by omega⟩
theorem spr_len (e : Int × Int) : (spr e).length = (e.2 - e.1 + 1).toNat := by unfold spr; simp
structure Rgs (f : List (Int × Int)) (ps : List Int) : Prop where
  sp : f.flatMap spr = ps
  le : ∀ e ∈ f, e.1 ≤ e.2
  gap : f.Pairwise fun a b => a.2 + 2 ≤ b.1
theorem Rgs.mem {f : List (Int × Int)} {ps : List Int} (h : Rgs f ps) {x : Int} : x ∈ ps ↔ ∃ e ∈ f, e.1 ≤ x ∧ x ≤ e.2 := by
  rw [← h.sp, List.mem_flatMap]
  simp only [mem_spr]
theorem Rgs.len {f : List (Int × Int)} {ps : List Int} (h : Rgs f ps) : (f.map fun e => e.2 - e.1 + 1).sum = (ps.length : Int) := by
  obtain ⟨sp, le, gap⟩ := h
  subst sp
  clear gap
  induction f with
  | nil => rfl
  | cons e f ih =>
    have he := le e List.mem_cons_self
    have := ih fun x hx => le x (List.mem_cons_of_mem _ hx)
    rw [List.map_cons, List.sum_cons, List.flatMap_cons, List.length_append, spr_len, Int.natCast_add, this]
    omega
end DL
namespace DL
open PySem PySem.Spec L2
open PyProof.Rows hiding St
theorem ht_cons (t : Int) (r : List Int) : ht (t :: r) = (1 - t) + ht r := by rw [ht_eq, ht_eq]; simp; omega
theorem ht_app (a b : List Int) : ht (a ++ b) = ht a + ht b := by rw [ht_eq, ht_eq, ht_eq]; simp [List.sum_append]; omega
end DL
namespace DL
open PySem PySem.Spec L2
open PyProof.Rows hiding St
def stk (f : List D) (a : Int) : List D := f.take (f.length - a.toNat) ++ [.tup (f.drop (f.length - a.toNat))]
def trs (l : List Int) : List D := l.foldl stk []
theorem trs_snoc (l : List Int) (a : Int) : trs (l ++ [a]) = stk (trs l) a := by unfold trs; rw [List.foldl_append]; rfl
/-- as many trees as the height, while the row can be read -/
theorem trs_len : ∀ (n : Nat) (l : List Int), (∀ t ∈ l, 0 ≤ t) → ne l = 0 → n ≤ l.length → ((trs (l.take n)).length : Int) = ht (l.take n) ∧ ∀ a, l[n]? = some a → a ≤ ht (l.take n)
  | 0, l, h0, hn, hl => by
    refine ⟨by simp [trs]; rfl, fun a ha => ?_⟩
    have hz := (ne_zero_iff l (0, 0) rfl).mp hn 0 (by have := (List.getElem?_eq_some_iff.mp ha).1; omega)
    rw [take_succ' ha, List.take_zero] at hz
    have e : (([] ++ [a] : List Int).foldl stp (0, 0)).1 = 1 - a := by simp [stp]
    rw [e] at hz
    have : ht (l.take 0) = 0 := by rw [List.take_zero]; rfl
    omega
  | n + 1, l, h0, hn, hl => by
    obtain ⟨a, ha⟩ : ∃ a, l[n]? = some a := ⟨l[n], List.getElem?_eq_getElem (by omega)⟩
    obtain ⟨i1, i2⟩ := trs_len n l h0 hn (by omega)
    have h1 := i2 a ha
    have a0 := h0 a (List.mem_of_getElem? ha)
    have e1 : ht (l.take (n + 1)) = ht (l.take n) + (1 - a) := by
      rw [take_succ' ha, ht_app]
      congr 1
      rw [ht_cons]
      have : ht [] = 0 := rfl
      omega
    refine ⟨?_, fun b hb => ?_⟩
    · rw [take_succ' ha, trs_snoc, ← take_succ' ha, e1]
      unfold stk
      rw [List.length_append, List.length_take, List.length_singleton]
      omega
    · have hz := (ne_zero_iff l (0, 0) rfl).mp hn (n + 1) (by have := (List.getElem?_eq_some_iff.mp hb).1; omega)
      have e2 : ((l.take (n + 1 + 1)).foldl stp (0, 0)).1 = ht (l.take (n + 1)) + (1 - b) := by
        show ht (l.take (n + 1 + 1)) = _
        rw [take_succ' hb, ht_app]
        congr 1
        rw [ht_cons]
        have : ht [] = 0 := rfl
        omega
      rw [e2] at hz
      omega
end DL
namespace DL
open PySem PySem.Spec L2
open PyProof.Rows hiding St
def okS (x : Str) : Prop := ∀ c ∈ x.cps.toList, c < 16 ^ 8
end DL
namespace DL
open PySem PySem.Spec L2
open PyProof.Rows hiding St
/-- what a stack keeps and gives when t are taken -/
def kept (st : List Nat) (t : Nat) : List Nat := st.take (st.length - t)
def mark (N m : Nat) : List (Option Nat) → List (Option Nat) → List (Option Nat)
  | [], fo => fo
  | none :: tk, fo => mark N m tk fo
  | some q :: tk, fo => mark N m tk (if N ≤ q ∧ q < 2 * N then fo.set (q - N) (some (m % N)) else fo)
end DL
namespace DL
open PySem PySem.Spec L2
open PyProof.Rows hiding St
theorem pop_end {S : Sto} {n : Nat} {xs : List D} {y : D} (h : getL S n = some (xs ++ [y])) : mPop (.loc n) [] S = .ok y (S.set n (.lst xs)) := by
  show (match getL S n with
    | some xs => (match xs[xs.length - 1]? with
      | some y => R.ok y (S.set n (.lst xs.dropLast))
      | none => .stuck)
    | none => .stuck) = _
  rw [h]
  simp
end DL
namespace DL
open PySem PySem.Spec L2
open PyProof.Rows hiding St
theorem ix_at {r : List Int} {i : Nat} {x : Int} (h : r[i]? = some x) (S : Sto) : dIx (ti r) (.int (i : Int)) S = .ok (.int x) S := by
  have hl : i < r.length := (List.getElem?_eq_some_iff.mp h).1
  refine dIx_tup ?_
  rw [atI_nn (by omega) (by rw [List.length_map]; omega), Int.toNat_natCast, List.getElem?_map, h]
  rfl
end DL
namespace DL
open PySem PySem.Spec L2
open PyProof.Rows hiding St
end DL
namespace DL
open PySem PySem.Spec L2
open PyProof.Rows hiding St
/-- a comprehension whose parts change nothing and read the store -/
theorem compD_at {T : Tg} {c : Ev → Sto → R Bool} {f : Ev → Sto → R D} {ρ : Ev} (ρd : D → Ev) (p : D → Bool) (e : D → D) (S : Sto) : ∀ (ds acc : List D),
    (∀ d ∈ ds, ∀ a, T d ρ (S ++ [.lst a]) = some (ρd d, S ++ [.lst a]) ∧ c (ρd d) (S ++ [.lst a]) = .ok (p d) (S ++ [.lst a]) ∧ (p d = true → f (ρd d) (S ++ [.lst a]) = .ok (e d) (S ++ [.lst a]))) → acc.length + ds.length ≤ sizeLine →
    compD yes T c f S.length ρ ds (S ++ [.lst acc]) = some (S ++ [.lst (acc ++ (ds.filter p).map e)])
  | [], acc, _, _ => by rw [compD, if_pos (show yes _ from trivial)]; simp
  | d :: ds, acc, h, hl => by
    obtain ⟨h1, h2, h3⟩ := h d List.mem_cons_self acc
    have hl' : acc.length + (ds.length + 1) ≤ sizeLine := hl
    rw [compD, if_pos (show yes _ from trivial), h1]
    simp only [h2]
    cases hp : p d with
    | false =>
      rw [if_neg (by decide)]
      rw [compD_at ρd p e S ds acc (fun x hx => h x (List.mem_cons_of_mem _ hx)) (by omega)]
      simp [List.filter, hp]
    | true =>
      rw [if_pos rfl]
      simp only [h3 hp, getL_end, set_end]
      rw [ifp_pos (by omega)]
      rw [compD_at ρd p e S ds (acc ++ [e d]) (fun x hx => h x (List.mem_cons_of_mem _ hx)) (by simp; omega)]
      simp [List.filter, hp]
theorem eLc_at {src : Ev → Sto → R Src} {T : Tg} {vs : List Nat} {c : Ev → Sto → R Bool} {f : Ev → Sto → R D} {ρ : Ev} {S : Sto} (ds : List D) (ρd : D → Ev) (p : D → Bool) (e : D → D) (hs : src ρ S = .ok (ds, yes) S)
    (h : ∀ d ∈ ds, ∀ a, T d (wipeD ρ vs) (S ++ [.lst a]) = some (ρd d, S ++ [.lst a]) ∧ c (ρd d) (S ++ [.lst a]) = .ok (p d) (S ++ [.lst a]) ∧ (p d = true → f (ρd d) (S ++ [.lst a]) = .ok (e d) (S ++ [.lst a]))) (hl : ds.length ≤ sizeLine) (hlow : ∀ d ∈ ds, p d = true → low S.length (e d) = true) :
    eLc finFl src T vs c f ρ S = .ok (.fl ((ds.filter p).map e)) S := by
  unfold eLc
  rw [hs]
  show (match compD yes T c f S.length (wipeD ρ vs) ds (S ++ [Ob.lst []]) with
    | some S2 => finFl S S2
    | none => .stuck) = _
  rw [compD_at ρd p e S ds [] h (by simpa using hl)]
  simp only [List.nil_append]
  refine finFl_end (lowL_of fun d hd => ?_)
  obtain ⟨x, hx, rfl⟩ := List.mem_map.mp hd
  obtain ⟨h1, h2⟩ := List.mem_filter.mp hx
  exact hlow x h1 h2
end DL
namespace DL
open PySem PySem.Spec L2
open PyProof.Rows hiding St
end DL
namespace DL
open PySem PySem.Spec L2
open PyProof.Rows hiding St
end DL
namespace DL
open PySem PySem.Spec L2
open PyProof.Rows hiding St
end DL
namespace DL
open PySem PySem.Spec L2
open PyProof.Rows hiding St
def tx (p : PyData) : List Nat := p.shown.cps.toList
end DL
namespace DL
open PySem PySem.Spec L2
open PyProof.Rows hiding St
noncomputable def E1__law_names (ρ : Ev) (S : Sto) : R D :=
  (eCall F__law_pick (aCons (eVar 0) (aCons (eVar 2) aNil))) ρ S
noncomputable def L1__law_names (ρ : Ev) (S : Sto) : SR :=
  (sExp (eMt isLst mAppend (eVar 6) (aCons (eOp dIx (eFl (aCons (eOp dAdd (eSl mkFl (eVar 4) oNone (oSome (eC (.int 7)))) (eOp dIx (eVar 2) (eVar 3))) (aCons (eOp dAdd (eOp dIx (eVar 2) (eVar 3)) (eSl mkFl (eVar 4) oNone (oSome (eC (.int 7))))) (aCons (eCall F__law_pick (aCons (eVar 0) (aCons (eSl mkFl (eVar 2) oNone (oSome (eC (.int 4)))) aNil))) aNil)))) (eVar 5)) aNil))) ρ S
noncomputable def B__law_names : Ev → Sto → SR :=
  (sSeq (sSet 2 (eC (.str "abcdefghijklmnopqrstuvwxyz")))
    (sSeq (sSet 4 (eMt isStr mJoin (eC (.str "")) (aCons (eLc finFl (iRange1 (aCons (eCall F__law_draw (aCons (eVar 0) (aCons (eC (.int 8)) aNil))) aNil)) (tN 3) [3] cYes E1__law_names) aNil)))
    (sSeq (sPar2 5 6 (aCons (eCall F__law_draw (aCons (eVar 0) (aCons (eC (.int 3)) aNil))) (aCons (eLoc aNil) aNil)))
    (sSeq (sFor (iRange1 (aCons (eVar 1) aNil)) (tN 3) L1__law_names sNil)
    (sRet (eCall bTuple (aCons (eVar 6) aNil)))))))
noncomputable def F__law_names : Fn := fnC close 7 2 B__law_names
noncomputable def L1__law_term_back (rec : Fn) (ρ : Ev) (S : Sto) : SR :=
  (sSeq (sAsg (eCall rec (aCons (eVar 0) (aCons (eVar 1) (aCons (eOp dSub (eVar 4) (eC (.int 1))) aNil)))) (tSq 2 (tCons (tN 6) (tCons (tN 4) tNil))))
    (sSet 3 (eOp dAdd (eFl (aCons (eVar 6) aNil)) (eVar 3)))) ρ S
noncomputable def B__law_term_back (rec : Fn) : Ev → Sto → SR :=
  (sSeq (sPar2 3 4 (aCons (eFl aNil) (aCons (eVar 2) aNil)))
    (sSeq (sFor (iRange1 (aCons (eOp dIx (eVar 0) (eVar 2)) aNil)) (tN 5) (L1__law_term_back rec) sNil)
    (sRet (eFl (aCons (eOp dAdd (eOp dIx (eVar 1) (eVar 2)) (eOp dMulS (eOp dAdd (eOp dAdd (eC (.str "(")) (eMt isStr mJoin (eC (.str ", ")) (aCons (eVar 3) aNil))) (eC (.str ")"))) (eCall bInt (aCons (eOp (dEqY true) (eVar 3) (eFl aNil)) aNil)))) (aCons (eVar 4) aNil))))))
noncomputable def F__law_term_back : Nat → Fn
  | 0 => fun _ _ => .stuck
  | n + 1 => fnC close 7 3 (B__law_term_back (F__law_term_back n))
noncomputable def C1__law_terms (ρ : Ev) (S : Sto) : R Bool :=
  (eT (eOp dGe (eVar 3) (eC (.int 0)))) ρ S
noncomputable def L1__law_terms (ρ : Ev) (S : Sto) : SR :=
  (sSeq (sAsg (eCall (F__law_term_back 40) (aCons (eVar 0) (aCons (eVar 1) (aCons (eVar 3) aNil)))) (tSq 2 (tCons (tN 4) (tCons (tN 5) tNil))))
    (sPar2 2 3 (aCons (eOp dAdd (eTup (aCons (eVar 4) aNil)) (eVar 2)) (aCons (eOp dSub (eVar 5) (eC (.int 1))) aNil)))) ρ S
noncomputable def B__law_terms : Ev → Sto → SR :=
  (sSeq (sPar2 2 3 (aCons (eTup aNil) (aCons (eOp dSub (eCall bLen (aCons (eVar 0) aNil)) (eC (.int 1))) aNil)))
    (sSeq (whileD C1__law_terms L1__law_terms 4000)
    (sRet (eVar 2))))
noncomputable def F__law_terms : Fn := fnC close 6 2 B__law_terms
def cm : Str := ", "
def po : Str := "("
def pc : Str := ")"
def totS (ws : List Str) : Nat := (ws.map fun w => w.length + 2).sum
theorem tot_app (a b : List Str) : totS (a ++ b) = totS a + totS b := by simp [totS]
theorem tot_take (a : List Str) (k : Nat) : totS (a.take k) + totS (a.drop k) = totS a := by rw [← tot_app, List.take_append_drop]
theorem tot_cons (w : Str) (ws : List Str) : totS (w :: ws) = w.length + 2 + totS ws := by simp [totS]
theorem tot_len : ∀ ws : List Str, 2 * ws.length ≤ totS ws
  | [] => by simp [totS]
  | w :: ws => by rw [tot_cons, List.length_cons]; have := tot_len ws; omega
theorem tot_sum (ws : List Str) : (ws.map (·.length)).sum + 2 * ws.length = totS ws := by
  induction ws with
  | nil => rfl
  | cons w ws ih => rw [List.map_cons, List.sum_cons, List.length_cons, tot_cons]; omega
theorem slen_app (a b : Str) : (a ++ b).length = a.length + b.length := Str.length_append a b
theorem tot_join : ∀ (ws : List Str), (Str.join cm ws).length ≤ totS ws
  | [] => by simp [totS, Str.join, Str.empty]; rfl
  | [x] => by show x.length ≤ _; rw [tot_cons]; omega
  | x :: y :: r => by
    have ih := tot_join (y :: r)
    show (x ++ cm ++ Str.join cm (y :: r)).length ≤ _
    rw [slen_app, slen_app, tot_cons]
    have : cm.length = 2 := by decide
    omega
theorem strs_of : ∀ ys : List Str, strsOf (ys.map D.str) = some ys
  | [] => rfl
  | y :: ys => by
    show (strsOf (ys.map D.str)).map (y :: ·) = _
    rw [strs_of ys]; rfl
theorem join_any {ws : List Str} (h : totS ws ≤ 10 ^ 6) (S : Sto) : mJoin (.str ", ") [.fl (ws.map D.str)] S = .ok (.str (Str.join cm ws)) S := by
  have e : mJoin (.str ", ") [.fl (ws.map D.str)] S = (match strsOf (ws.map D.str) with
    | some ys => ifp ((ys.map (·.length)).sum + ys.length * cm.length ≤ 16777216) (.ok (.str (Txt.join cm ys)) S) .stuck
    | none => .stuck) := rfl
  rw [e, strs_of]
  dsimp only
  have h1 : cm.length = 2 := by decide
  have h2 := tot_sum ws
  rw [ifp_pos (by rw [h1]; omega)]
  rw [show Txt.join cm ws = Str.join cm ws from StrLaws.glued_eq_join cm ws]
def term (nm : Str) (ps : List Str) : Str := if ps.isEmpty = true then nm else nm ++ (po ++ Str.join cm ps ++ pc)
theorem term_len (nm : Str) (ps : List Str) : (term nm ps).length ≤ nm.length + totS ps + 2 := by
  unfold term
  split
  · omega
  · rw [slen_app, slen_app, slen_app]
    have := tot_join ps
    have h1 : po.length = 1 := by decide
    have h2 : pc.length = 1 := by decide
    omega
theorem sz : 10 ^ 6 ≤ sizeLine := by decide
def tstk (f : List Str) (q : Int × Str) : List Str := f.take (f.length - q.1.toNat) ++ [term q.2 (f.drop (f.length - q.1.toNat))]
def tms (z : List (Int × Str)) : List Str := z.foldl tstk []
theorem tms_snoc (z : List (Int × Str)) (q : Int × Str) : tms (z ++ [q]) = tstk (tms z) q := by unfold tms; rw [List.foldl_append]; rfl
theorem tms_len (z : List (Int × Str)) : (tms z).length = (trs (z.map (·.1))).length := by
  have key : ∀ (z : List (Int × Str)) (f : List Str) (g : List D), f.length = g.length → (z.foldl tstk f).length = ((z.map (·.1)).foldl stk g).length := by
    intro z
    induction z with
    | nil => exact fun f g h => h
    | cons q z ih =>
      intro f g h
      rw [List.foldl_cons, List.map_cons, List.foldl_cons]
      refine ih _ _ ?_
      unfold tstk stk
      rw [List.length_append, List.length_append, List.length_take, List.length_take, h]
      rfl
  exact key z [] [] rfl
def cap (z : List (Int × Str)) : Nat := (z.map fun q => q.2.length + 4).sum
theorem tms_tot (z : List (Int × Str)) : totS (tms z) ≤ cap z := by
  have key : ∀ (z : List (Int × Str)) (f : List Str), totS (z.foldl tstk f) ≤ totS f + cap z := by
    intro z
    induction z with
    | nil => intro f; simp [cap]
    | cons q z ih =>
      intro f
      rw [List.foldl_cons]
      have h := ih (tstk f q)
      have h2 : totS (tstk f q) ≤ totS f + (q.2.length + 4) := by
        unfold tstk
        rw [tot_app, tot_cons]
        have h3 := tot_take f (f.length - q.1.toNat)
        have h4 := term_len q.2 (f.drop (f.length - q.1.toNat))
        have h5 : totS [] = 0 := rfl
        omega
      have h6 : cap (q :: z) = q.2.length + 4 + cap z := by simp [cap]
      omega
  have := key z []
  have h5 : totS [] = 0 := rfl
  unfold tms
  omega
structure Zs (z : List (Int × Str)) : Prop where
  nn : ∀ q ∈ z, 0 ≤ q.1
  ne : DL.ne (z.map (·.1)) = 0
  len : z.length ≤ 30
  nm : ∀ q ∈ z, q.2.length ≤ 100
theorem cap_le : ∀ {z : List (Int × Str)}, (∀ q ∈ z, q.2.length ≤ 100) → cap z ≤ 104 * z.length
  | [], _ => by simp [cap]
  | q :: z, h => by
    have h1 := cap_le fun x hx => h x (List.mem_cons_of_mem _ hx)
    have h2 := h q List.mem_cons_self
    have h6 : cap (q :: z) = q.2.length + 4 + cap z := by simp [cap]
    rw [List.length_cons]
    omega
theorem Zs.hts {z : List (Int × Str)} (h : Zs z) (n : Nat) (hn : n ≤ z.length) : ((tms (z.take n)).length : Int) = ht ((z.map (·.1)).take n) ∧ ∀ q, z[n]? = some q → q.1 ≤ ((tms (z.take n)).length : Int) := by
  obtain ⟨h1, h2⟩ := trs_len n (z.map (·.1)) (fun t ht => by obtain ⟨q, hq, rfl⟩ := List.mem_map.mp ht; exact h.nn q hq) h.ne (by simpa using hn)
  have e : (tms (z.take n)).length = (trs ((z.map (·.1)).take n)).length := by rw [tms_len, List.map_take]
  rw [e]
  exact ⟨h1, fun q hq => by rw [h1]; exact h2 q.1 (by rw [List.getElem?_map, hq]; rfl)⟩
theorem Zs.small {z : List (Int × Str)} (h : Zs z) (n : Nat) : totS (tms (z.take n)) ≤ 3120 := by
  have h1 := tms_tot (z.take n)
  have h2 := cap_le (z := z.take n) fun q hq => h.nm q (List.mem_of_mem_take hq)
  have h3 := h.len
  rw [List.length_take] at h2
  have : 104 * min n z.length ≤ 104 * 30 := Nat.mul_le_mul_left _ (by omega)
  omega
def sD (f : List Str) : List D := f.map D.str
def rwD (z : List (Int × Str)) : D := ti (z.map (·.1))
def nmD (z : List (Int × Str)) : D := .tup (sD (z.map (·.2)))
def Bk (z : List (Int × Str)) (e : Nat) (t : Str) (first : Nat) : Prop := first ≤ e ∧ tms (z.take (e + 1)) = tms (z.take first) ++ [t]
theorem mul_text {x : Str} (b : Bool) (S : Sto) : dMulS (.str x) (.int (if b then 1 else 0)) S = .ok (.str (if b then x else Str.empty)) S := by
  show ifp (PySem.MulOk x (if b then 1 else 0)) (R.ok (D.str (Txt.mul x (if b then 1 else 0))) S) .stuck = _
  cases b
  · rw [ifp_pos (by refine ⟨by decide, fun h => absurd (by decide) h, fun h => absurd (by decide) h⟩)]
    rfl
  · rw [ifp_pos (by refine ⟨by decide, fun _ h => by simp at h, fun _ h => by simp at h⟩)]
    rfl
theorem tback_loop {z : List (Int × Str)} (h : Zs z) (e : Nat) (he : e < z.length) {rec : Fn} (ih : ∀ e', e' < e → ∃ t first, Bk z e' t first ∧ ∀ S, rec [rwD z, nmD z, .int (e' : Int)] S = .ok (.fl [.str t, .int (first : Int)]) S) (x2 : Option D) :
    ∀ (n k : Nat) (first : Nat), k + n ≤ (tms (z.take e)).length → first ≤ e → tms (z.take first) = (tms (z.take e)).take ((tms (z.take e)).length - k) →
    ∃ first', first' ≤ e ∧ tms (z.take first') = (tms (z.take e)).take ((tms (z.take e)).length - (k + n)) ∧ ∀ (S : Sto) (x5 x6 : Option D), ∃ y5 y6, forD yes (tN 5) (L1__law_term_back rec) sNil (rangeD k n) [some (rwD z), some (nmD z), x2, some (.fl (sD ((tms (z.take e)).drop ((tms (z.take e)).length - k)))), some (.int (first : Int)), x5, x6] S = .nx [some (rwD z), some (nmD z), x2, some (.fl (sD ((tms (z.take e)).drop ((tms (z.take e)).length - (k + n))))), some (.int (first' : Int)), y5, y6] S
  | 0, k, first, hk, hf, ht' => ⟨first, hf, ht', fun S x5 x6 => ⟨x5, x6, by show forD yes (tN 5) (L1__law_term_back rec) sNil [] _ S = _; rw [forD_nil trivial]; rfl⟩⟩
  | n + 1, k, first, hk, hf, ht' => by
    have sm := h.small e
    have tl := tot_len (tms (z.take e))
    generalize hG : tms (z.take e) = G at *
    have hpos : 0 < first := by
      rcases Nat.eq_zero_or_pos first with hz | hz
      · subst hz
        have : (G.take (G.length - k)).length = 0 := by rw [← ht']; simp [tms]
        rw [List.length_take] at this
        omega
      · exact hz
    obtain ⟨t, f1, ⟨b1, b2⟩, hr⟩ := ih (first - 1) (by omega)
    have e1 : first - 1 + 1 = first := by omega
    rw [e1, ht'] at b2
    have hsplit : G.take (G.length - k) = G.take (G.length - (k + 1)) ++ [G[G.length - (k + 1)]'(by omega)] := by
      have : G.length - k = (G.length - (k + 1)) + 1 := by omega
      rw [this, List.take_succ_eq_append_getElem (by omega)]
    rw [hsplit] at b2
    obtain ⟨q1, q2⟩ := List.append_inj' b2 rfl
    have q2' : G[G.length - (k + 1)]'(by omega) = t := by simpa using q2
    have hd : G.drop (G.length - (k + 1)) = t :: G.drop (G.length - k) := by
      rw [List.drop_eq_getElem_cons (by omega), q2']
      congr 2
      omega
    obtain ⟨first', g1, g2, g3⟩ := tback_loop h e he ih x2 n (k + 1) f1 (by rw [hG]; omega) (by omega) (by rw [hG]; exact q1.symm)
    rw [hG] at g2 g3
    have ekn : k + 1 + n = k + (n + 1) := by omega
    rw [ekn] at g2 g3
    refine ⟨first', g1, g2, fun S x5 x6 => ?_⟩
    obtain ⟨y5, y6, g3⟩ := g3 S (some (.int k)) (some (.str t))
    refine ⟨y5, y6, ?_⟩
    have rg : rangeD (k : Int) (n + 1) = .int (k : Int) :: rangeD ((k + 1 : Nat) : Int) n := by rw [rangeD_cons]; rfl
    have r' : ∀ S, rec [rwD z, nmD z, .int ((first : Int) - 1)] S = .ok (.fl [.str t, .int (f1 : Int)]) S := fun S => by
      have : (first : Int) - 1 = ((first - 1 : Nat) : Int) := by omega
      rw [this]; exact hr S
    have ad : ∀ S, dAdd (.fl [.str t]) (.fl (sD (G.drop (G.length - k)))) S = .ok (.fl (sD (G.drop (G.length - (k + 1))))) S := fun S => by
      rw [add_fl [.str t] _ (by unfold sD; rw [List.length_map, List.length_drop]; simp; omega), hd]; rfl
    have sq : ∀ S, seqOf S (.fl [.str t, .int (f1 : Int)]) = some [.str t, .int (f1 : Int)] := fun S => rfl
    rw [rg, forD_cons (ρ1 := [some (rwD z), some (nmD z), x2, some (.fl (sD (G.drop (G.length - k)))), some (.int (first : Int)), some (.int (k : Int)), x6]) (S1 := S) (ρ2 := [some (rwD z), some (nmD z), x2, some (.fl (sD (G.drop (G.length - (k + 1))))), some (.int (f1 : Int)), some (.int (k : Int)), some (.str t)]) (S2 := S) trivial rfl ?_]
    · exact g3
    · generalize sD (G.drop (G.length - k)) = F1 at *
      generalize sD (G.drop (G.length - (k + 1))) = F2 at *
      simp only [eVar, eC, eOp, eT, eAnd, eOr, eNot, eIf, eAndV, eOrV, eNotV, eCall, aNil, aCons, aStar, sOf, eTup, eFl, eLoc, eSl, oNone, oSome, iOf, eNeg, eChain, eMt, bOf, eDict0, eRev, eListRg, iZipD, sRaise1, sRaise0, eCallV, List.lookup, R.bind_ok, R.bind_er, R.bind_stuck, R.toS_ok, R.toS_er, R.toS_stuck, SR.next_nx, SR.next_rt, SR.next_er, SR.next_bk, SR.next_ct, SR.next_stuck, sNil, sSeq, sBrk, sCnt, sExp, sRet, sRetN, sIf, sSet, sAsg, sAug, sPar2, sPar3, tN, DL.tTup, DL.tNil, DL.tCons, DL.tSub, iSeq, srcOf_tup, srcOf_fl, srcOf_kl, srcOf_ti, iRange1, iRange2, sFor, startD, List.map_cons, List.map_nil, List.length_cons, List.length_nil, List.replicate, List.cons_append, List.nil_append, List.getElem?_cons_zero, List.getElem?_cons_succ, List.set_cons_zero, List.set_cons_succ, dSub_int, dFdiv_int, dMod_int, dLt_int, dLe_int, dGt_int, dGe_int, dAddI_int, dSubI_int, dIsN_non, isN, dAdd_int, ll0, ll1, ll2, ll3, ll4, ll5, ll6, ll7, ll8, ll9, ll10, ll11, ll12, ll13, ll14, ll15, ll16, ll17, ll18, ll19, ll20, ll21, ll22, ll23, ll24, ll25, ll26, ll27, ll28, ll29, ll30, ll31, ll32, ll33, ll34, ll35, ll36, ll37, ll38, ll39, ll40, Nat.reduceSub, Nat.reduceAdd, Nat.reduceEqDiff, if_true, if_false, ifp_t, ifp_f, reduceIte, Bool.true_eq_false, Bool.false_eq_true, Option.map_some, Option.map_none, Option.bind_some, Option.bind_none, tSq, sSet2, seqOf_fl, seqOf_tup, seqOf_ti, L1__law_term_back, r', tSq, sq, ad]
theorem tback_ok {z : List (Int × Str)} (h : Zs z) : ∀ (fuel e : Nat), e < fuel → e < z.length → ∃ t first, Bk z e t first ∧ ∀ S, F__law_term_back fuel [rwD z, nmD z, .int (e : Int)] S = .ok (.fl [.str t, .int (first : Int)]) S
  | 0, e, hf, _ => by omega
  | fuel + 1, e, hf, he => by
    have ih := fun e' (hlt : e' < e) => tback_ok h fuel e' (by omega) (by omega)
    obtain ⟨⟨a, nm⟩, ha⟩ : ∃ q, z[e]? = some q := ⟨z[e], List.getElem?_eq_getElem he⟩
    obtain ⟨i1, i2⟩ := h.hts e (by omega)
    have h1 : a ≤ ((tms (z.take e)).length : Int) := i2 (a, nm) ha
    have a0 : 0 ≤ a := h.nn _ (List.mem_of_getElem? ha)
    have hnm : nm.length ≤ 100 := h.nm _ (List.mem_of_getElem? ha)
    have sm := h.small e
    have tl := tot_len (tms (z.take e))
    obtain ⟨first, f1, f2, f3⟩ := tback_loop h e he ih (some (.int (e : Int))) a.toNat 0 e (by omega) (Nat.le_refl _) (by simp)
    rw [Nat.zero_add] at f2 f3
    have tt := tot_take (tms (z.take e)) ((tms (z.take e)).length - a.toNat)
    have jl := tot_join ((tms (z.take e)).drop ((tms (z.take e)).length - a.toNat))
    refine ⟨term nm ((tms (z.take e)).drop ((tms (z.take e)).length - a.toNat)), first, ⟨f1, ?_⟩, fun S => ?_⟩
    · have et : z.take (e + 1) = z.take e ++ [(a, nm)] := by rw [List.take_succ, ha]; rfl
      rw [et, tms_snoc, f2]; rfl
    · obtain ⟨y5, y6, g3⟩ := f3 S none none
      rw [Nat.sub_zero, List.drop_length] at g3
      have hst : startD 7 [rwD z, nmD z, .int (e : Int)] = [some (rwD z), some (nmD z), some (.int (e : Int)), none, none, none, none] := rfl
      have ix : ∀ S, dIx (rwD z) (.int (e : Int)) S = .ok (.int a) S := fun S => ix_at (by rw [List.getElem?_map, ha]; rfl) S
      have ixn : ∀ S, dIx (nmD z) (.int (e : Int)) S = .ok (.str nm) S := fun S => by
        refine dIx_tup ?_
        unfold sD
        rw [atI_nn (by omega) (by simp; omega), Int.toNat_natCast, List.getElem?_map, List.getElem?_map, ha]
        rfl
      have hr : ((-(2 ^ 62) : Int) ≤ a ∧ a < 2 ^ 62) = True := by simp; omega
      have g3' : forD yes (tN 5) (L1__law_term_back (F__law_term_back fuel)) sNil (rangeD 0 a.toNat) [some (rwD z), some (nmD z), some (.int (e : Int)), some (.fl []), some (.int (e : Int)), none, none] S = .nx [some (rwD z), some (nmD z), some (.int (e : Int)), some (.fl (sD ((tms (z.take e)).drop ((tms (z.take e)).length - a.toNat)))), some (.int (first : Int)), y5, y6] S := g3
      generalize hP : (tms (z.take e)).drop ((tms (z.take e)).length - a.toNat) = ps at *
      have jn := join_any (ws := ps) (by omega)
      have dy : ∀ S, dEqY true (.fl (sD ps)) (.fl []) S = .ok (.bl (!ps.isEmpty)) S := fun S => by
        show R.ok (D.bl (!(sD ps).isEmpty)) S = _
        cases ps <;> rfl
      have jn' : ∀ S, mJoin (.str ", ") [.fl (sD ps)] S = .ok (.str (Str.join cm ps)) S := jn
      have il : ∀ S, isStr S (.str ", ") = true := fun S => rfl
      have zz := sz
      have p1 : po.length = 1 := by decide
      have p2 : pc.length = 1 := by decide
      have ad1 : ∀ S, dAdd (.str "(") (.str (Str.join cm ps)) S = .ok (.str (po ++ Str.join cm ps)) S := fun S => by
        show ifp (po.length + (Str.join cm ps).length ≤ sizeLine) (R.ok (D.str (po ++ Str.join cm ps)) S) .stuck = _
        exact ifp_pos (by omega)
      have ad2 : ∀ S, dAdd (.str (po ++ Str.join cm ps)) (.str ")") S = .ok (.str (po ++ Str.join cm ps ++ pc)) S := fun S => by
        show ifp ((po ++ Str.join cm ps).length + pc.length ≤ sizeLine) (R.ok (D.str (po ++ Str.join cm ps ++ pc)) S) .stuck = _
        exact ifp_pos (by rw [slen_app]; omega)
      have bi : ∀ (b : Bool) S, bInt [.bl b] S = .ok (.int (if b then 1 else 0)) S := fun b S => rfl
      have ml := mul_text (x := po ++ Str.join cm ps ++ pc) (!ps.isEmpty)
      have ad3 : ∀ S, dAdd (.str nm) (.str (if !ps.isEmpty then po ++ Str.join cm ps ++ pc else Str.empty)) S = .ok (.str (term nm ps)) S := fun S => by
        have e0 : nm ++ (if !ps.isEmpty then po ++ Str.join cm ps ++ pc else Str.empty) = term nm ps := by
          unfold term
          cases ps.isEmpty
          · rfl
          · exact Str.append_empty nm
        show ifp (nm.length + (if !ps.isEmpty then po ++ Str.join cm ps ++ pc else Str.empty : Str).length ≤ sizeLine) (R.ok (D.str (nm ++ (if !ps.isEmpty then po ++ Str.join cm ps ++ pc else Str.empty))) S) .stuck = _
        rw [e0]
        refine ifp_pos ?_
        cases ps.isEmpty
        · show nm.length + (po ++ Str.join cm ps ++ pc).length ≤ _
          rw [slen_app, slen_app]; omega
        · show nm.length + Str.empty.length ≤ _
          have : Str.empty.length = 0 := rfl
          omega
      show fnC close 7 3 (B__law_term_back (F__law_term_back fuel)) [rwD z, nmD z, .int (e : Int)] S = _
      refine fnC_rt rfl ?_ rfl
      rw [hst]
      unfold B__law_term_back
      generalize L1__law_term_back (F__law_term_back fuel) = LL at g3' ⊢
      generalize sD ps = PS at *
      generalize (!ps.isEmpty) = bb at *
      generalize (if bb = true then po ++ Str.join cm ps ++ pc else Str.empty) = b2 at *
      generalize po ++ Str.join cm ps ++ pc = J3 at *
      generalize po ++ Str.join cm ps = J2 at *
      simp only [eVar, eC, eOp, eT, eAnd, eOr, eNot, eIf, eAndV, eOrV, eNotV, eCall, aNil, aCons, aStar, sOf, eTup, eFl, eLoc, eSl, oNone, oSome, iOf, eNeg, eChain, eMt, bOf, eDict0, eRev, eListRg, iZipD, sRaise1, sRaise0, eCallV, List.lookup, R.bind_ok, R.bind_er, R.bind_stuck, R.toS_ok, R.toS_er, R.toS_stuck, SR.next_nx, SR.next_rt, SR.next_er, SR.next_bk, SR.next_ct, SR.next_stuck, sNil, sSeq, sBrk, sCnt, sExp, sRet, sRetN, sIf, sSet, sAsg, sAug, sPar2, sPar3, tN, DL.tTup, DL.tNil, DL.tCons, DL.tSub, iSeq, srcOf_tup, srcOf_fl, srcOf_kl, srcOf_ti, iRange1, iRange2, sFor, startD, List.map_cons, List.map_nil, List.length_cons, List.length_nil, List.replicate, List.cons_append, List.nil_append, List.getElem?_cons_zero, List.getElem?_cons_succ, List.set_cons_zero, List.set_cons_succ, dSub_int, dFdiv_int, dMod_int, dLt_int, dLe_int, dGt_int, dGe_int, dAddI_int, dSubI_int, dIsN_non, isN, dAdd_int, ll0, ll1, ll2, ll3, ll4, ll5, ll6, ll7, ll8, ll9, ll10, ll11, ll12, ll13, ll14, ll15, ll16, ll17, ll18, ll19, ll20, ll21, ll22, ll23, ll24, ll25, ll26, ll27, ll28, ll29, ll30, ll31, ll32, ll33, ll34, ll35, ll36, ll37, ll38, ll39, ll40, Nat.reduceSub, Nat.reduceAdd, Nat.reduceEqDiff, if_true, if_false, ifp_t, ifp_f, reduceIte, Bool.true_eq_false, Bool.false_eq_true, Option.map_some, Option.map_none, Option.bind_some, Option.bind_none, tSq, sSet2, seqOf_fl, seqOf_tup, seqOf_ti, ix, hr, g3', ixn, il, jn', ad1, ad2, dy, bi, ml, ad3]
theorem terms_while {z : List (Int × Str)} (h : Zs z) (S : Sto) : ∀ (fuel e : Nat) (found : List Str) (x4 x5 : Option D), e < fuel → e ≤ z.length → tms z = tms (z.take e) ++ found →
    ∃ y4 y5, whileD C1__law_terms L1__law_terms fuel [some (rwD z), some (nmD z), some (.tup (sD found)), some (.int ((e : Int) - 1)), x4, x5] S = .nx [some (rwD z), some (nmD z), some (.tup (sD (tms z))), some (.int (-1)), y4, y5] S
  | 0, e, found, x4, x5, hf, _, _ => by omega
  | fuel + 1, 0, found, x4, x5, hf, he, ht' => by
    refine ⟨x4, x5, ?_⟩
    have : tms z = found := by rw [ht']; simp [tms]
    rw [this]
    have hz : ((0 : Nat) : Int) - 1 = -1 := by omega
    rw [hz]
    refine whileD_end ?_
    have : ¬ ((0 : Int) ≤ -1) := by omega
    simp only [eVar, eC, eOp, eT, eAnd, eOr, eNot, eIf, eAndV, eOrV, eNotV, eCall, aNil, aCons, aStar, sOf, eTup, eFl, eLoc, eSl, oNone, oSome, iOf, eNeg, eChain, eMt, bOf, eDict0, eRev, eListRg, iZipD, sRaise1, sRaise0, eCallV, List.lookup, R.bind_ok, R.bind_er, R.bind_stuck, R.toS_ok, R.toS_er, R.toS_stuck, SR.next_nx, SR.next_rt, SR.next_er, SR.next_bk, SR.next_ct, SR.next_stuck, sNil, sSeq, sBrk, sCnt, sExp, sRet, sRetN, sIf, sSet, sAsg, sAug, sPar2, sPar3, tN, DL.tTup, DL.tNil, DL.tCons, DL.tSub, iSeq, srcOf_tup, srcOf_fl, srcOf_kl, srcOf_ti, iRange1, iRange2, sFor, startD, List.map_cons, List.map_nil, List.length_cons, List.length_nil, List.replicate, List.cons_append, List.nil_append, List.getElem?_cons_zero, List.getElem?_cons_succ, List.set_cons_zero, List.set_cons_succ, dSub_int, dFdiv_int, dMod_int, dLt_int, dLe_int, dGt_int, dGe_int, dAddI_int, dSubI_int, dIsN_non, isN, dAdd_int, ll0, ll1, ll2, ll3, ll4, ll5, ll6, ll7, ll8, ll9, ll10, ll11, ll12, ll13, ll14, ll15, ll16, ll17, ll18, ll19, ll20, ll21, ll22, ll23, ll24, ll25, ll26, ll27, ll28, ll29, ll30, ll31, ll32, ll33, ll34, ll35, ll36, ll37, ll38, ll39, ll40, Nat.reduceSub, Nat.reduceAdd, Nat.reduceEqDiff, if_true, if_false, ifp_t, ifp_f, reduceIte, Bool.true_eq_false, Bool.false_eq_true, Option.map_some, Option.map_none, Option.bind_some, Option.bind_none, tSq, sSet2, seqOf_fl, seqOf_tup, seqOf_ti, C1__law_terms, this, decide_false]
  | fuel + 1, e + 1, found, x4, x5, hf, he, ht' => by
    have hz30 := h.len
    obtain ⟨t, first, ⟨b1, b2⟩, hr⟩ := tback_ok h 40 e (by omega) (by omega)
    have ht2 : tms z = tms (z.take first) ++ (t :: found) := by rw [ht', b2]; simp
    have hfl : (t :: found).length ≤ 10 ^ 4 := by
      have h1 : (t :: found).length ≤ (tms z).length := by rw [ht2, List.length_append]; omega
      have h2 := tot_len (tms z)
      have h3 := h.small z.length
      rw [List.take_length] at h3
      omega
    obtain ⟨y4, y5, ih⟩ := terms_while h S fuel first (t :: found) (some (.str t)) (some (.int first)) (by omega) (by omega) ht2
    refine ⟨y4, y5, ?_⟩
    have e1 : ((e + 1 : Nat) : Int) - 1 = (e : Int) := by omega
    rw [e1, whileD_next (ρ2 := [some (rwD z), some (nmD z), some (.tup (sD (t :: found))), some (.int ((first : Int) - 1)), some (.str t), some (.int first)]) (S1 := S) (S2 := S) ?_ ?_]
    · exact ih
    · have : (0 : Int) ≤ (e : Int) := by omega
      simp only [eVar, eC, eOp, eT, eAnd, eOr, eNot, eIf, eAndV, eOrV, eNotV, eCall, aNil, aCons, aStar, sOf, eTup, eFl, eLoc, eSl, oNone, oSome, iOf, eNeg, eChain, eMt, bOf, eDict0, eRev, eListRg, iZipD, sRaise1, sRaise0, eCallV, List.lookup, R.bind_ok, R.bind_er, R.bind_stuck, R.toS_ok, R.toS_er, R.toS_stuck, SR.next_nx, SR.next_rt, SR.next_er, SR.next_bk, SR.next_ct, SR.next_stuck, sNil, sSeq, sBrk, sCnt, sExp, sRet, sRetN, sIf, sSet, sAsg, sAug, sPar2, sPar3, tN, DL.tTup, DL.tNil, DL.tCons, DL.tSub, iSeq, srcOf_tup, srcOf_fl, srcOf_kl, srcOf_ti, iRange1, iRange2, sFor, startD, List.map_cons, List.map_nil, List.length_cons, List.length_nil, List.replicate, List.cons_append, List.nil_append, List.getElem?_cons_zero, List.getElem?_cons_succ, List.set_cons_zero, List.set_cons_succ, dSub_int, dFdiv_int, dMod_int, dLt_int, dLe_int, dGt_int, dGe_int, dAddI_int, dSubI_int, dIsN_non, isN, dAdd_int, ll0, ll1, ll2, ll3, ll4, ll5, ll6, ll7, ll8, ll9, ll10, ll11, ll12, ll13, ll14, ll15, ll16, ll17, ll18, ll19, ll20, ll21, ll22, ll23, ll24, ll25, ll26, ll27, ll28, ll29, ll30, ll31, ll32, ll33, ll34, ll35, ll36, ll37, ll38, ll39, ll40, Nat.reduceSub, Nat.reduceAdd, Nat.reduceEqDiff, if_true, if_false, ifp_t, ifp_f, reduceIte, Bool.true_eq_false, Bool.false_eq_true, Option.map_some, Option.map_none, Option.bind_some, Option.bind_none, tSq, sSet2, seqOf_fl, seqOf_tup, seqOf_ti, C1__law_terms, this, decide_true]
    · have ad : ∀ S, dAdd (.tup [.str t]) (.tup (sD found)) S = .ok (.tup (sD (t :: found))) S := fun S => add_tup [.str t] (sD found) (by unfold sD; simp at hfl ⊢; omega) S
      have sq : ∀ S, seqOf S (.fl [.str t, .int (first : Int)]) = some [.str t, .int (first : Int)] := fun S => rfl
      generalize sD found = F1 at *
      generalize sD (t :: found) = F2 at *
      simp only [eVar, eC, eOp, eT, eAnd, eOr, eNot, eIf, eAndV, eOrV, eNotV, eCall, aNil, aCons, aStar, sOf, eTup, eFl, eLoc, eSl, oNone, oSome, iOf, eNeg, eChain, eMt, bOf, eDict0, eRev, eListRg, iZipD, sRaise1, sRaise0, eCallV, List.lookup, R.bind_ok, R.bind_er, R.bind_stuck, R.toS_ok, R.toS_er, R.toS_stuck, SR.next_nx, SR.next_rt, SR.next_er, SR.next_bk, SR.next_ct, SR.next_stuck, sNil, sSeq, sBrk, sCnt, sExp, sRet, sRetN, sIf, sSet, sAsg, sAug, sPar2, sPar3, tN, DL.tTup, DL.tNil, DL.tCons, DL.tSub, iSeq, srcOf_tup, srcOf_fl, srcOf_kl, srcOf_ti, iRange1, iRange2, sFor, startD, List.map_cons, List.map_nil, List.length_cons, List.length_nil, List.replicate, List.cons_append, List.nil_append, List.getElem?_cons_zero, List.getElem?_cons_succ, List.set_cons_zero, List.set_cons_succ, dSub_int, dFdiv_int, dMod_int, dLt_int, dLe_int, dGt_int, dGe_int, dAddI_int, dSubI_int, dIsN_non, isN, dAdd_int, ll0, ll1, ll2, ll3, ll4, ll5, ll6, ll7, ll8, ll9, ll10, ll11, ll12, ll13, ll14, ll15, ll16, ll17, ll18, ll19, ll20, ll21, ll22, ll23, ll24, ll25, ll26, ll27, ll28, ll29, ll30, ll31, ll32, ll33, ll34, ll35, ll36, ll37, ll38, ll39, ll40, Nat.reduceSub, Nat.reduceAdd, Nat.reduceEqDiff, if_true, if_false, ifp_t, ifp_f, reduceIte, Bool.true_eq_false, Bool.false_eq_true, Option.map_some, Option.map_none, Option.bind_some, Option.bind_none, tSq, sSet2, seqOf_fl, seqOf_tup, seqOf_ti, L1__law_terms, hr, tSq, sq, ad]
theorem law_terms_ok {z : List (Int × Str)} (h : Zs z) (S : Sto) : F__law_terms [rwD z, nmD z] S = .ok (.tup (sD (tms z))) S := by
  have hst : startD 6 [rwD z, nmD z] = [some (rwD z), some (nmD z), none, none, none, none] := rfl
  have hz30 := h.len
  obtain ⟨y4, y5, w⟩ := terms_while h S 4000 z.length [] none none (by omega) (Nat.le_refl _) (by rw [List.take_length, List.append_nil])
  have ln : ∀ S, bLen [rwD z] S = .ok (.int (z.length : Int)) S := fun S => by
    show R.ok (D.int (((z.map (·.1)).map D.int).length : Nat)) S = _
    simp
  have w' : whileD C1__law_terms L1__law_terms 4000 [some (rwD z), some (nmD z), some (.tup []), some (.int ((z.length : Int) - 1)), none, none] S = .nx [some (rwD z), some (nmD z), some (.tup (sD (tms z))), some (.int (-1)), y4, y5] S := w
  refine fnC_rt rfl ?_ rfl
  rw [hst]
  unfold B__law_terms
  generalize sD (tms z) = F1 at *
  simp only [eVar, eC, eOp, eT, eAnd, eOr, eNot, eIf, eAndV, eOrV, eNotV, eCall, aNil, aCons, aStar, sOf, eTup, eFl, eLoc, eSl, oNone, oSome, iOf, eNeg, eChain, eMt, bOf, eDict0, eRev, eListRg, iZipD, sRaise1, sRaise0, eCallV, List.lookup, R.bind_ok, R.bind_er, R.bind_stuck, R.toS_ok, R.toS_er, R.toS_stuck, SR.next_nx, SR.next_rt, SR.next_er, SR.next_bk, SR.next_ct, SR.next_stuck, sNil, sSeq, sBrk, sCnt, sExp, sRet, sRetN, sIf, sSet, sAsg, sAug, sPar2, sPar3, tN, DL.tTup, DL.tNil, DL.tCons, DL.tSub, iSeq, srcOf_tup, srcOf_fl, srcOf_kl, srcOf_ti, iRange1, iRange2, sFor, startD, List.map_cons, List.map_nil, List.length_cons, List.length_nil, List.replicate, List.cons_append, List.nil_append, List.getElem?_cons_zero, List.getElem?_cons_succ, List.set_cons_zero, List.set_cons_succ, dSub_int, dFdiv_int, dMod_int, dLt_int, dLe_int, dGt_int, dGe_int, dAddI_int, dSubI_int, dIsN_non, isN, dAdd_int, ll0, ll1, ll2, ll3, ll4, ll5, ll6, ll7, ll8, ll9, ll10, ll11, ll12, ll13, ll14, ll15, ll16, ll17, ll18, ll19, ll20, ll21, ll22, ll23, ll24, ll25, ll26, ll27, ll28, ll29, ll30, ll31, ll32, ll33, ll34, ll35, ll36, ll37, ll38, ll39, ll40, Nat.reduceSub, Nat.reduceAdd, Nat.reduceEqDiff, if_true, if_false, ifp_t, ifp_f, reduceIte, Bool.true_eq_false, Bool.false_eq_true, Option.map_some, Option.map_none, Option.bind_some, Option.bind_none, tSq, sSet2, seqOf_fl, seqOf_tup, seqOf_ti, ln, w']
theorem shw_sD : ∀ {ws : List Str}, (∀ w ∈ ws, okS w) → rokL (sD ws) = true ∧ bulkL (sD ws) ≤ totS ws ∧ depL (sD ws) ≤ 0
  | [], _ => ⟨rfl, by simp [sD, bulkL], by simp [sD, depL]⟩
  | w :: ws, h => by
    obtain ⟨h1, h2, h3⟩ := shw_sD (ws := ws) fun x hx => h x (List.mem_cons_of_mem _ hx)
    have hw := h w List.mem_cons_self
    have r1 : rok (.str w) = true := by
      rw [rok]
      exact List.all_eq_true.mpr fun c hc => decide_eq_true (hw c hc)
    refine ⟨?_, ?_, ?_⟩
    · show rokL (.str w :: sD ws) = true
      rw [rokL, r1, h1]; rfl
    · show bulkL (.str w :: sD ws) ≤ _
      rw [bulkL, tot_cons, bulkD]
      show w.length + 1 + bulkL (sD ws) ≤ _
      omega
    · show depL (.str w :: sD ws) ≤ 0
      rw [depL, depD]; omega
theorem shw_names {ws : List Str} (h : ∀ w ∈ ws, okS w) : Shw (totS ws) 1 (.tup (sD ws)) := by
  obtain ⟨h1, h2, h3⟩ := shw_sD h
  exact ⟨by rw [rok]; exact h1, by rw [bulkD]; exact h2, by rw [depD]; omega⟩
theorem cutS_len (w : Str) (lo hi : Option Int) : (cutS w lo hi).length ≤ w.length := by
  have : (cutS w lo hi).length = ((w.cps.toList.drop (HT.sIx w.length 0 lo)).take (HT.sIx w.length w.length hi - HT.sIx w.length 0 lo)).length := by
    unfold cutS Str.length
    simp
  rw [this, List.length_take, List.length_drop]
  have : w.length = w.cps.toList.length := by simp [Str.length]
  omega
theorem sl_str {w : Str} (h : w.length ≤ 10 ^ 6) (lo hi : Option Int) (S : Sto) : dSl mkFl (.str w) lo hi S = .ok (.str (cutS w lo hi)) S := ifp_pos (Nat.le_trans h (by decide))
/-- letters alone -/
def ltS (w : Str) : Prop := ∀ c ∈ w.cps.toList, 97 ≤ c ∧ c ≤ 122
theorem ltS_app {a b : Str} (ha : ltS a) (hb : ltS b) : ltS (a ++ b) := fun c hc => by
  have hc' : c ∈ a.cps.toList ++ b.cps.toList := by rw [← Array.toList_append]; exact hc
  rcases List.mem_append.mp hc' with h | h
  · exact ha c h
  · exact hb c h
theorem ltS_cut {w : Str} (h : ltS w) (lo hi : Option Int) : ltS (cutS w lo hi) := fun c hc => by
  have hc' : c ∈ (w.cps.toList.drop (HT.sIx w.length 0 lo)).take (HT.sIx w.length w.length hi - HT.sIx w.length 0 lo) := by
    unfold cutS at hc
    simpa using hc
  exact h c (List.mem_of_mem_drop (List.mem_of_mem_take hc'))
theorem ltS.ok {w : Str} (h : ltS w) : okS w := fun c hc => Nat.lt_of_le_of_lt (h c hc).2 (by decide)
structure Gt (n : Nat) (w : Str) : Prop where
  lt : ltS w
  len : w.length ≤ n
theorem Gt.ok {n : Nat} {w : Str} (h : Gt n w) : okS w := h.lt.ok
/-- a name: one letter or more -/
structure Nm (w : Str) : Prop where
  gt : Gt 8 w
  pos : 0 < w.length
theorem ix_str {w : Str} (ho : ltS w) (h : w.length ≤ 10 ^ 6) {k : Nat} (hk : k < w.length) : ∃ x : Str, Gt 1 x ∧ 0 < x.length ∧ ∀ S, dIx (.str w) (.int (k : Int)) S = .ok (.str x) S := by
  have hk' : k < w.cps.toList.length := by simpa [Str.length] using hk
  refine ⟨⟨#[w.cps.toList[k]]⟩, ⟨fun c hc => ?_, by simp [Str.length]⟩, by simp [Str.length], fun S => ?_⟩
  · have : c = w.cps.toList[k] := by simpa using hc
    rw [this]
    exact ho _ (List.getElem_mem hk')
  · have e : dIx (.str w) (.int (k : Int)) S = ifp (w.length ≤ sizeLine) (match atI w.cps.toList (k : Int) with
      | some c => R.ok (D.str ⟨#[c]⟩) S
      | none => .stuck) .stuck := rfl
    rw [e, ifp_pos (Nat.le_trans h (by decide)), atI_nn (by omega) (by omega), Int.toNat_natCast, List.getElem?_eq_getElem hk']
theorem pick_str {S : Sto} {n : Nat} {rest : Sto} (h : Strm S n rest) {w : Str} (ho : ltS w) (hw : 0 < w.length) (hs : w.length ≤ 100) (hn : n < 2 ^ 60) :
    ∃ x S', F__law_pick [.loc 1, .str w] S = .ok (.str x) S' ∧ Gt 1 x ∧ 0 < x.length ∧ Strm S' (n + 1) rest := by
  obtain ⟨r, S', h1, h2, h3, h4⟩ := draw_ok h (m := (w.length : Int)) (by omega) (log2_small 60 (by omega) (by decide) (by decide)) hn
  obtain ⟨k, rfl⟩ : ∃ k : Nat, r = (k : Int) := ⟨r.toNat, by omega⟩
  obtain ⟨x, gx, px, ix⟩ := ix_str ho (by omega) (show k < w.length by omega)
  have ln : ∀ S, bLen [.str w] S = .ok (.int (w.length : Int)) S := fun S => ifp_pos (Nat.le_trans (show w.length ≤ 100 from hs) (by decide))
  refine ⟨x, S', ?_, gx, px, h4⟩
  refine fnC_rt rfl ?_ (by rw [h.len, h4.len])
  unfold B__law_pick
  have hst : startD 2 [D.loc 1, .str w] = [some (.loc 1), some (.str w)] := rfl
  rw [hst]
  simp only [eVar, eC, eOp, eT, eAnd, eOr, eNot, eIf, eAndV, eOrV, eNotV, eCall, aNil, aCons, aStar, sOf, eTup, eFl, eLoc, eSl, oNone, oSome, iOf, eNeg, eChain, eMt, bOf, eDict0, eRev, eListRg, iZipD, sRaise1, sRaise0, eCallV, List.lookup, R.bind_ok, R.bind_er, R.bind_stuck, R.toS_ok, R.toS_er, R.toS_stuck, SR.next_nx, SR.next_rt, SR.next_er, SR.next_bk, SR.next_ct, SR.next_stuck, sNil, sSeq, sBrk, sCnt, sExp, sRet, sRetN, sIf, sSet, sAsg, sAug, sPar2, sPar3, tN, DL.tTup, DL.tNil, DL.tCons, DL.tSub, iSeq, srcOf_tup, srcOf_fl, srcOf_kl, srcOf_ti, iRange1, iRange2, sFor, startD, List.map_cons, List.map_nil, List.length_cons, List.length_nil, List.replicate, List.cons_append, List.nil_append, List.getElem?_cons_zero, List.getElem?_cons_succ, List.set_cons_zero, List.set_cons_succ, dSub_int, dFdiv_int, dMod_int, dLt_int, dLe_int, dGt_int, dGe_int, dAddI_int, dSubI_int, dIsN_non, isN, dAdd_int, ll0, ll1, ll2, ll3, ll4, ll5, ll6, ll7, ll8, ll9, ll10, ll11, ll12, ll13, ll14, ll15, ll16, ll17, ll18, ll19, ll20, ll21, ll22, ll23, ll24, ll25, ll26, ll27, ll28, ll29, ll30, ll31, ll32, ll33, ll34, ll35, ll36, ll37, ll38, ll39, ll40, Nat.reduceSub, Nat.reduceAdd, Nat.reduceEqDiff, if_true, if_false, ifp_t, ifp_f, reduceIte, Bool.true_eq_false, Bool.false_eq_true, Option.map_some, Option.map_none, Option.bind_some, Option.bind_none, tSq, sSet2, seqOf_fl, seqOf_tup, seqOf_ti, ln, h1, ix]
def abc : Str := "abcdefghijklmnopqrstuvwxyz"
theorem ltS_abc : ltS abc := fun c hc => by
  have h : (abc.cps.toList.all fun c => decide (97 ≤ c) && decide (c ≤ 122)) = true := by decide +kernel
  have := List.all_eq_true.mp h c hc
  simpa using this
theorem add_str {a b : Str} (h : a.length + b.length ≤ 10 ^ 6) (S : Sto) : dAdd (.str a) (.str b) S = .ok (.str (a ++ b)) S := ifp_pos (Nat.le_trans h (by decide))
theorem name_step {S : Sto} {n : Nat} {rest : Sto} {ws : List Str} (h : Strm S n (rest ++ [.lst (sD ws)])) (hl : ws.length ≤ 100) {hd : Str} (gh : Gt 7 hd) {way : Int} (w0 : 0 ≤ way) (w3 : way < 3) {k : Nat} (hk : k < 26) (hn : n + 1 < 2 ^ 60) (x1 : Option D) :
    ∃ (x : Str) (S' : Sto), Nm x ∧ L1__law_names [some (.loc 1), x1, some (.str abc), some (.int (k : Int)), some (.str hd), some (.int way), some (.loc (rest.length + 2))] S = .nx [some (.loc 1), x1, some (.str abc), some (.int (k : Int)), some (.str hd), some (.int way), some (.loc (rest.length + 2))] S' ∧ Strm S' (n + 1) (rest ++ [.lst (sD (ws ++ [x]))]) := by
  have oa : ltS abc := ltS_abc
  have la : abc.length = 26 := by decide
  obtain ⟨c, gc, pc, ic⟩ := ix_str oa (by omega) (show k < abc.length by omega)
  have s7 : ∀ S, dSl mkFl (.str hd) none (some 7) S = .ok (.str (cutS hd none (some 7))) S := fun S => sl_str (by have := gh.len; omega) _ _ S
  have s4 : ∀ S, dSl mkFl (.str abc) none (some 4) S = .ok (.str (cutS abc none (some 4))) S := fun S => sl_str (by omega) _ _ S
  have c7 := cutS_len hd none (some 7)
  have o7 := ltS_cut gh.lt none (some 7)
  have hl7 := gh.len
  have lc := gc.len
  generalize cutS hd none (some 7) = h7 at *
  have o4 := ltS_cut oa none (some 4)
  have l4 : (cutS abc none (some 4)).length = 4 := by decide
  obtain ⟨y, S1, y1, gy, py, s1⟩ := pick_str h (w := cutS abc none (some 4)) o4 (by omega) (by omega) (by omega)
  have ly := gy.len
  generalize cutS abc none (some 4) = a4 at *
  have a1 : ∀ S, dAdd (.str h7) (.str c) S = .ok (.str (h7 ++ c)) S := fun S => add_str (by omega) S
  have a2 : ∀ S, dAdd (.str c) (.str h7) S = .ok (.str (c ++ h7)) S := fun S => add_str (by omega) S
  have il := isLst_at h.getL_end
  obtain ⟨x, gx, ix⟩ : ∃ x : Str, Nm x ∧ ∀ S, dIx (.fl [.str (h7 ++ c), .str (c ++ h7), .str y]) (.int way) S = .ok (.str x) S := by
    rcases (show way = 0 ∨ way = 1 ∨ way = 2 by omega) with rfl | rfl | rfl
    · exact ⟨_, ⟨⟨ltS_app o7 gc.lt, by rw [slen_app]; omega⟩, by rw [slen_app]; omega⟩, fun S => rfl⟩
    · exact ⟨_, ⟨⟨ltS_app gc.lt o7, by rw [slen_app]; omega⟩, by rw [slen_app]; omega⟩, fun S => rfl⟩
    · exact ⟨_, ⟨⟨gy.lt, by omega⟩, py⟩, fun S => rfl⟩
  have ap := append_at (d := .str x) s1.getL_end (by unfold sD; rw [List.length_map]; omega)
  have s2 := s1.set_end (.lst (sD ws ++ [.str x]))
  have es : sD ws ++ [.str x] = sD (ws ++ [x]) := by simp [sD]
  refine ⟨x, _, gx, ?_, by rw [← es]; exact s2⟩
  simp only [eVar, eC, eOp, eT, eAnd, eOr, eNot, eIf, eAndV, eOrV, eNotV, eCall, aNil, aCons, aStar, sOf, eTup, eFl, eLoc, eSl, oNone, oSome, iOf, eNeg, eChain, eMt, bOf, eDict0, eRev, eListRg, iZipD, sRaise1, sRaise0, eCallV, List.lookup, R.bind_ok, R.bind_er, R.bind_stuck, R.toS_ok, R.toS_er, R.toS_stuck, SR.next_nx, SR.next_rt, SR.next_er, SR.next_bk, SR.next_ct, SR.next_stuck, sNil, sSeq, sBrk, sCnt, sExp, sRet, sRetN, sIf, sSet, sAsg, sAug, sPar2, sPar3, tN, DL.tTup, DL.tNil, DL.tCons, DL.tSub, iSeq, srcOf_tup, srcOf_fl, srcOf_kl, srcOf_ti, iRange1, iRange2, sFor, startD, List.map_cons, List.map_nil, List.length_cons, List.length_nil, List.replicate, List.cons_append, List.nil_append, List.getElem?_cons_zero, List.getElem?_cons_succ, List.set_cons_zero, List.set_cons_succ, dSub_int, dFdiv_int, dMod_int, dLt_int, dLe_int, dGt_int, dGe_int, dAddI_int, dSubI_int, dIsN_non, isN, dAdd_int, ll0, ll1, ll2, ll3, ll4, ll5, ll6, ll7, ll8, ll9, ll10, ll11, ll12, ll13, ll14, ll15, ll16, ll17, ll18, ll19, ll20, ll21, ll22, ll23, ll24, ll25, ll26, ll27, ll28, ll29, ll30, ll31, ll32, ll33, ll34, ll35, ll36, ll37, ll38, ll39, ll40, Nat.reduceSub, Nat.reduceAdd, Nat.reduceEqDiff, if_true, if_false, ifp_t, ifp_f, reduceIte, Bool.true_eq_false, Bool.false_eq_true, Option.map_some, Option.map_none, Option.bind_some, Option.bind_none, tSq, sSet2, seqOf_fl, seqOf_tup, seqOf_ti, L1__law_names, il, s7, ic, a1, a2, s4, y1, ix, ap]
def em : Str := ""
theorem join_em : ∀ (ws : List Str), (∀ w ∈ ws, Gt 1 w) → Gt ws.length (Str.join em ws)
  | [], _ => ⟨fun c hc => by simp [Str.join, Str.empty] at hc, by simp [Str.join, Str.empty, Str.length]⟩
  | [x], h => h x List.mem_cons_self
  | x :: y :: r, h => by
    have ih := join_em (y :: r) fun w hw => h w (List.mem_cons_of_mem _ hw)
    have hx := h x List.mem_cons_self
    show Gt _ (x ++ em ++ Str.join em (y :: r))
    refine ⟨ltS_app (ltS_app hx.lt (fun c hc => absurd hc (by rw [show em.cps.toList = [] from by decide +kernel]; simp))) ih.lt, ?_⟩
    rw [slen_app, slen_app, List.length_cons]
    have h1 := hx.len
    have h2 := ih.len
    have h3 : em.length = 0 := by decide
    omega
theorem joinE_any {ws : List Str} (h : totS ws ≤ 10 ^ 6) (S : Sto) : mJoin (.str "") [.fl (ws.map D.str)] S = .ok (.str (Str.join em ws)) S := by
  have e : mJoin (.str "") [.fl (ws.map D.str)] S = (match strsOf (ws.map D.str) with
    | some ys => ifp ((ys.map (·.length)).sum + ys.length * em.length ≤ 16777216) (.ok (.str (Txt.join em ys)) S) .stuck
    | none => .stuck) := rfl
  rw [e, strs_of]
  dsimp only
  have h1 : em.length = 0 := by decide
  have h2 := tot_sum ws
  rw [ifp_pos (by rw [h1]; omega)]
  rw [show Txt.join em ws = Str.join em ws from StrLaws.glued_eq_join em ws]
theorem tot_gt : ∀ {ws : List Str}, (∀ w ∈ ws, Gt 1 w) → totS ws ≤ 3 * ws.length
  | [], _ => by simp [totS]
  | w :: ws, h => by
    have h1 := tot_gt fun x hx => h x (List.mem_cons_of_mem _ hx)
    have h2 := (h w List.mem_cons_self).len
    rw [tot_cons, List.length_cons]
    omega
theorem strs_from : ∀ {ys : List D}, (∀ y ∈ ys, ∃ x : Str, y = .str x ∧ Gt 1 x) → ∃ ws : List Str, ys = ws.map D.str ∧ ∀ w ∈ ws, Gt 1 w
  | [], _ => ⟨[], rfl, by simp⟩
  | y :: ys, h => by
    obtain ⟨x, rfl, gx⟩ := h y List.mem_cons_self
    obtain ⟨ws, rfl, gw⟩ := strs_from (ys := ys) fun z hz => h z (List.mem_cons_of_mem _ hz)
    refine ⟨x :: ws, rfl, fun w hw => ?_⟩
    rcases List.mem_cons.mp hw with rfl | hw
    · exact gx
    · exact gw w hw
theorem names_ok {S : Sto} {n : Nat} (h : Strm S n []) {m : Nat} (hm : m ≤ 24) (hn : n + 100 < 2 ^ 60) : ∃ (ws : List Str) (S' : Sto), F__law_names [.loc 1, .int (m : Int)] S = .ok (.tup (sD ws)) S' ∧ ws.length = m ∧ (∀ w ∈ ws, Nm w) ∧ Strm S' (n + 100) [] := by
  have oa : ltS abc := ltS_abc
  have la : abc.length = 26 := by decide
  obtain ⟨z, S1, z1, z2, z3, s1⟩ := draw_ok h (m := 8) (by decide) (by decide) (by omega)
  obtain ⟨j, rfl⟩ : ∃ j : Nat, z = (j : Int) := ⟨z.toNat, by omega⟩
  have hrj : ((-(2 ^ 62) : Int) ≤ (j : Int) ∧ (j : Int) < 2 ^ 62) = True := by simp; omega
  obtain ⟨ys, S2, e1, e2, e3, s2⟩ := eLc_strm (src := iRange1 (aCons (eCall F__law_draw (aCons (eVar 0) (aCons (eC (.int 8)) aNil))) aNil)) (T := tN 3) (vs := [3]) (f := E1__law_names) (ρ := [some (.loc 1), some (.int (m : Int)), some (.str abc), none, none, none, none]) (S := S1) (S0 := S) (n := n + 1) (rest := [])
    (rangeD 0 j) (fun d => [some (.loc 1), some (.int (m : Int)), some (.str abc), some d, none, none, none]) 1 (fun y => ∃ x : Str, y = .str x ∧ Gt 1 x) (by
      simp only [eVar, eC, eOp, eT, eAnd, eOr, eNot, eIf, eAndV, eOrV, eNotV, eCall, aNil, aCons, aStar, sOf, eTup, eFl, eLoc, eSl, oNone, oSome, iOf, eNeg, eChain, eMt, bOf, eDict0, eRev, eListRg, iZipD, sRaise1, sRaise0, eCallV, List.lookup, R.bind_ok, R.bind_er, R.bind_stuck, R.toS_ok, R.toS_er, R.toS_stuck, SR.next_nx, SR.next_rt, SR.next_er, SR.next_bk, SR.next_ct, SR.next_stuck, sNil, sSeq, sBrk, sCnt, sExp, sRet, sRetN, sIf, sSet, sAsg, sAug, sPar2, sPar3, tN, DL.tTup, DL.tNil, DL.tCons, DL.tSub, iSeq, srcOf_tup, srcOf_fl, srcOf_kl, srcOf_ti, iRange1, iRange2, sFor, startD, List.map_cons, List.map_nil, List.length_cons, List.length_nil, List.replicate, List.cons_append, List.nil_append, List.getElem?_cons_zero, List.getElem?_cons_succ, List.set_cons_zero, List.set_cons_succ, dSub_int, dFdiv_int, dMod_int, dLt_int, dLe_int, dGt_int, dGe_int, dAddI_int, dSubI_int, dIsN_non, isN, dAdd_int, ll0, ll1, ll2, ll3, ll4, ll5, ll6, ll7, ll8, ll9, ll10, ll11, ll12, ll13, ll14, ll15, ll16, ll17, ll18, ll19, ll20, ll21, ll22, ll23, ll24, ll25, ll26, ll27, ll28, ll29, ll30, ll31, ll32, ll33, ll34, ll35, ll36, ll37, ll38, ll39, ll40, Nat.reduceSub, Nat.reduceAdd, Nat.reduceEqDiff, if_true, if_false, ifp_t, ifp_f, reduceIte, Bool.true_eq_false, Bool.false_eq_true, Option.map_some, Option.map_none, Option.bind_some, Option.bind_none, tSq, sSet2, seqOf_fl, seqOf_tup, seqOf_ti, z1, hrj, Int.toNat_natCast]) s1 (by intro d hd S'; rfl) (by
      intro d hd S' k r hk hS'
      rw [rangeD_len] at hk
      obtain ⟨x, S'', p1, p2, _, p3⟩ := pick_str hS' oa (by omega) (by omega) (by omega)
      refine ⟨.str x, S'', ?_, ⟨x, rfl, p2⟩, p3⟩
      simp only [eVar, eC, eOp, eT, eAnd, eOr, eNot, eIf, eAndV, eOrV, eNotV, eCall, aNil, aCons, aStar, sOf, eTup, eFl, eLoc, eSl, oNone, oSome, iOf, eNeg, eChain, eMt, bOf, eDict0, eRev, eListRg, iZipD, sRaise1, sRaise0, eCallV, List.lookup, R.bind_ok, R.bind_er, R.bind_stuck, R.toS_ok, R.toS_er, R.toS_stuck, SR.next_nx, SR.next_rt, SR.next_er, SR.next_bk, SR.next_ct, SR.next_stuck, sNil, sSeq, sBrk, sCnt, sExp, sRet, sRetN, sIf, sSet, sAsg, sAug, sPar2, sPar3, tN, DL.tTup, DL.tNil, DL.tCons, DL.tSub, iSeq, srcOf_tup, srcOf_fl, srcOf_kl, srcOf_ti, iRange1, iRange2, sFor, startD, List.map_cons, List.map_nil, List.length_cons, List.length_nil, List.replicate, List.cons_append, List.nil_append, List.getElem?_cons_zero, List.getElem?_cons_succ, List.set_cons_zero, List.set_cons_succ, dSub_int, dFdiv_int, dMod_int, dLt_int, dLe_int, dGt_int, dGe_int, dAddI_int, dSubI_int, dIsN_non, isN, dAdd_int, ll0, ll1, ll2, ll3, ll4, ll5, ll6, ll7, ll8, ll9, ll10, ll11, ll12, ll13, ll14, ll15, ll16, ll17, ll18, ll19, ll20, ll21, ll22, ll23, ll24, ll25, ll26, ll27, ll28, ll29, ll30, ll31, ll32, ll33, ll34, ll35, ll36, ll37, ll38, ll39, ll40, Nat.reduceSub, Nat.reduceAdd, Nat.reduceEqDiff, if_true, if_false, ifp_t, ifp_f, reduceIte, Bool.true_eq_false, Bool.false_eq_true, Option.map_some, Option.map_none, Option.bind_some, Option.bind_none, tSq, sSet2, seqOf_fl, seqOf_tup, seqOf_ti, E1__law_names, p1]) (by rw [rangeD_len]; exact Nat.le_trans (show j ≤ 10 by omega) (by decide)) (by rintro y ⟨x, rfl, _⟩; rfl)
  obtain ⟨hs, rfl, gh⟩ := strs_from e3
  rw [rangeD_len, List.length_map] at e2
  rw [rangeD_len] at s2
  have jt := tot_gt gh
  have jn := joinE_any (ws := hs) (by omega)
  have gj := join_em hs gh
  have g7 : Gt 7 (Str.join em hs) := ⟨gj.lt, by have := gj.len; omega⟩
  obtain ⟨way, S3, w1, w2, w3, s3⟩ := draw_ok s2 (m := 3) (by decide) (by decide) (by omega)
  have sA := s3.app [.lst []]
  have k3 : S3.length = 2 := by rw [s3.len]; rfl
  have hrm : ((-(2 ^ 62) : Int) ≤ (m : Int) ∧ (m : Int) < 2 ^ 62) = True := by simp; omega
  generalize hH : Str.join em hs = hd at *
  obtain ⟨ρ', S4, ⟨⟨x3, rfl⟩, ws, s4, l4, g4⟩, hf⟩ := forD_all (T := tN 3) (B := L1__law_names) (Z := sNil) (fun i ρ S => (∃ x3, ρ = [some (.loc 1), some (.int (m : Int)), some (.str abc), x3, some (.str hd), some (.int way), some (.loc 2)]) ∧ ∃ ws : List Str, Strm S (n + 1 + j * 1 + 1 + i) [.lst (sD ws)] ∧ ws.length = i ∧ ∀ w ∈ ws, Nm w)
    (rangeD 0 m) 0 [some (.loc 1), some (.int (m : Int)), some (.str abc), none, some (.str hd), some (.int way), some (.loc 2)] (S3 ++ [.lst []]) ⟨⟨_, rfl⟩, [], sA, rfl, by simp⟩ (by
      rintro i d ρ S' hi ⟨⟨x3, rfl⟩, ws, si, li, gi⟩
      obtain ⟨hi', rfl⟩ := rangeD_get hi
      rw [Nat.zero_add] at si li ⊢
      obtain ⟨x, S'', gx, t1, t2⟩ := name_step (rest := []) si (by omega) g7 w2 w3 (show i < 26 by omega) (by omega) (some (.int (m : Int)))
      rw [Int.zero_add]
      refine ⟨_, _, _, S'', rfl, .inl t1, ⟨_, rfl⟩, ws ++ [x], t2, by simp; omega, fun w hw => ?_⟩
      rcases List.mem_append.mp hw with hw | hw
      · exact gi w hw
      · rw [List.mem_singleton.mp hw]; exact gx)
  rw [rangeD_len, Nat.zero_add] at l4 s4
  have tp : bTuple [.loc 2] S4 = .ok (.tup (sD ws)) S4 := bTuple_loc (s4.getQ_end (rest := []))
  have lw : lowL S.length (sD ws) = true := lowL_of fun d hd => by
    obtain ⟨w, _, rfl⟩ := List.mem_map.mp hd
    rfl
  have key := fnC_strm (n := 7) (m := 2) (B := B__law_names) (ds := [D.loc 1, .int (m : Int)]) (S := S) (S6 := S4) (d := .tup (sD ws)) h (l := [.lst (sD ws)]) s4 (by simp) rfl ?_ (by rw [low]; exact lw)
  · exact ⟨ws, _, key.1, l4, g4, key.2.mono (by omega)⟩
  · have hst : startD 7 [D.loc 1, .int (m : Int)] = [some (.loc 1), some (.int (m : Int)), none, none, none, none, none] := rfl
    rw [hst]
    unfold B__law_names
    have pa : (("abcdefghijklmnopqrstuvwxyz" : String) : Str) = abc := rfl
    have il : ∀ S, isStr S (.str "") = true := fun S => rfl
    rw [pa]
    generalize hs.map D.str = HS at *
    simp only [eVar, eC, eOp, eT, eAnd, eOr, eNot, eIf, eAndV, eOrV, eNotV, eCall, aNil, aCons, aStar, sOf, eTup, eFl, eLoc, eSl, oNone, oSome, iOf, eNeg, eChain, eMt, bOf, eDict0, eRev, eListRg, iZipD, sRaise1, sRaise0, eCallV, List.lookup, R.bind_ok, R.bind_er, R.bind_stuck, R.toS_ok, R.toS_er, R.toS_stuck, SR.next_nx, SR.next_rt, SR.next_er, SR.next_bk, SR.next_ct, SR.next_stuck, sNil, sSeq, sBrk, sCnt, sExp, sRet, sRetN, sIf, sSet, sAsg, sAug, sPar2, sPar3, tN, DL.tTup, DL.tNil, DL.tCons, DL.tSub, iSeq, srcOf_tup, srcOf_fl, srcOf_kl, srcOf_ti, iRange1, iRange2, sFor, startD, List.map_cons, List.map_nil, List.length_cons, List.length_nil, List.replicate, List.cons_append, List.nil_append, List.getElem?_cons_zero, List.getElem?_cons_succ, List.set_cons_zero, List.set_cons_succ, dSub_int, dFdiv_int, dMod_int, dLt_int, dLe_int, dGt_int, dGe_int, dAddI_int, dSubI_int, dIsN_non, isN, dAdd_int, ll0, ll1, ll2, ll3, ll4, ll5, ll6, ll7, ll8, ll9, ll10, ll11, ll12, ll13, ll14, ll15, ll16, ll17, ll18, ll19, ll20, ll21, ll22, ll23, ll24, ll25, ll26, ll27, ll28, ll29, ll30, ll31, ll32, ll33, ll34, ll35, ll36, ll37, ll38, ll39, ll40, Nat.reduceSub, Nat.reduceAdd, Nat.reduceEqDiff, if_true, if_false, ifp_t, ifp_f, reduceIte, Bool.true_eq_false, Bool.false_eq_true, Option.map_some, Option.map_none, Option.bind_some, Option.bind_none, tSq, sSet2, seqOf_fl, seqOf_tup, seqOf_ti, il, e1, jn, w1, k3, hrm, Int.toNat_natCast, hf, tp]
end DL
namespace DL
open PySem PySem.Spec L2
open PyProof.Rows hiding St
noncomputable def L1__law_tree_row (rec : Fn) (ρ : Ev) (S : Sto) : SR :=
  (sSet 1 (eOp dAdd (eVar 1) (eCall rec (aCons (eVar 2) aNil)))) ρ S
noncomputable def B__law_tree_row (rec : Fn) : Ev → Sto → SR :=
  (sSeq (sSet 1 (eTup aNil))
    (sSeq (sFor (iSeq (eVar 0)) (tN 2) (L1__law_tree_row rec) sNil)
    (sRet (eOp dAdd (eVar 1) (eTup (aCons (eCall bLen (aCons (eVar 0) aNil)) aNil))))))
noncomputable def F__law_tree_row : Nat → Fn
  | 0 => fun _ _ => .stuck
  | n + 1 => fnC close 3 1 (B__law_tree_row (F__law_tree_row n))
noncomputable def E1__law_nested (rec : Fn) (ρ : Ev) (S : Sto) : R D :=
  (eCall rec (aCons (eVar 0) (aCons (eVar 2) aNil))) ρ S
noncomputable def B__law_nested (rec : Fn) : Ev → Sto → SR :=
  (sRet (eCall bTuple (aCons (eLc finFl (iSeq (eOp dIx (eVar 0) (eVar 1))) (tN 2) [2] cYes (E1__law_nested rec)) aNil)))
noncomputable def F__law_nested : Nat → Fn
  | 0 => fun _ _ => .stuck
  | n + 1 => fnC close 3 2 (B__law_nested (F__law_nested n))
noncomputable def E1__law_tree (ρ : Ev) (S : Sto) : R D :=
  (eLoc aNil) ρ S
noncomputable def E2__law_tree (ρ : Ev) (S : Sto) : R D :=
  (eVar 8) ρ S
noncomputable def Q1__law_tree (ρ : Ev) (S : Sto) : R Bool :=
  (eT (eOp dLt (eCall bLen (aCons (eOp dIx (eVar 5) (eVar 8)) aNil)) (eC (.int 5)))) ρ S
noncomputable def L1__law_tree (ρ : Ev) (S : Sto) : SR :=
  (sSeq (sSet 6 (eOp dIx (eFl (aCons (eOp dSub (eVar 4) (eC (.int 1))) (aCons (eC (.int 0)) (aCons (eCall F__law_draw (aCons (eVar 0) (aCons (eVar 4) aNil))) (aCons (eCall bMax (aCons (eC (.int 0)) (aCons (eOp dSub (eOp dSub (eVar 4) (eC (.int 1))) (eCall F__law_draw (aCons (eVar 0) (aCons (eC (.int 3)) aNil)))) aNil))) aNil))))) (eVar 3)))
    (sSeq (sSet 7 (eLc finFl (iSeq (eOp dAdd (eFl (aCons (eVar 6) aNil)) (eListRg mkFl (eVar 4)))) (tN 8) [8] Q1__law_tree E2__law_tree))
    (sExp (eMt isLst mAppend (eOp dIx (eVar 5) (eOp dIx (eVar 7) (eC (.int 0)))) (aCons (eVar 4) aNil))))) ρ S
noncomputable def B__law_tree : Ev → Sto → SR :=
  (sSeq (sPar2 2 3 (aCons (eOp dAdd (eC (.int 1)) (eCall F__law_draw (aCons (eVar 0) (aCons (eVar 1) aNil)))) (aCons (eCall F__law_draw (aCons (eVar 0) (aCons (eC (.int 4)) aNil))) aNil)))
    (sSeq (sSet 5 (eLc finLoc (iRange1 (aCons (eVar 2) aNil)) (tN 4) [4] cYes E1__law_tree))
    (sSeq (sFor (iRange2 (aCons (eC (.int 1)) (aCons (eVar 2) aNil))) (tN 4) L1__law_tree sNil)
    (sRet (eCall (F__law_nested 40) (aCons (eVar 5) (aCons (eC (.int 0)) aNil)))))))
noncomputable def F__law_tree : Fn := fnC close 9 2 B__law_tree
theorem Strm.get_mid {S : Sto} {n : Nat} {rest l : Sto} {j : Nat} {ds : List D} (h : Strm S n (rest ++ l)) (e : l[j]? = some (.lst ds)) : getL S (rest.length + 2 + j) = some ds := by
  obtain ⟨b, c, t, rfl, o⟩ := h
  refine getL_of ?_
  have : rest.length + 2 + j = (rest.length + j) + 2 := by omega
  rw [this]
  show (rest ++ l)[rest.length + j]? = _
  rw [List.getElem?_append_right (by omega)]
  rw [show rest.length + j - rest.length = j by omega]
  exact e
theorem Strm.getQ_mid {S : Sto} {n : Nat} {rest l : Sto} {j : Nat} {ds : List D} (h : Strm S n (rest ++ l)) (e : l[j]? = some (.lst ds)) : getQ S (rest.length + 2 + j) = some ds := getQ_of (getL_some (h.get_mid e))
theorem Strm.set_mid {S : Sto} {n : Nat} {rest l : Sto} (h : Strm S n (rest ++ l)) (j : Nat) (o : Ob) : Strm (S.set (rest.length + 2 + j) o) n (rest ++ l.set j o) := by
  obtain ⟨b, c, t, rfl, k⟩ := h
  refine ⟨b, c, t, ?_, k⟩
  have : rest.length + 2 + j = (rest.length + j) + 2 := by omega
  rw [this]
  show Ob.lst _ :: Ob.lst _ :: (rest ++ l).set (rest.length + j) o = _
  rw [List.set_append_right _ _ (by omega)]
  rw [show rest.length + j - rest.length = j by omega]
  rfl
inductive Tre where
  | nd (cs : List Tre)
mutual
def Tre.d : Tre → D
  | .nd cs => .tup (Tre.ds cs)
def Tre.ds : List Tre → List D
  | [] => []
  | t :: ts => t.d :: Tre.ds ts
end
mutual
def Tre.sz : Tre → Nat
  | .nd cs => 1 + Tre.szs cs
def Tre.szs : List Tre → Nat
  | [] => 0
  | t :: ts => t.sz + Tre.szs ts
end
mutual
def Tre.row : Tre → List Int
  | .nd cs => Tre.rows cs ++ [(cs.length : Int)]
def Tre.rows : List Tre → List Int
  | [] => []
  | t :: ts => t.row ++ Tre.rows ts
end
mutual
def Tre.ok : Tre → Prop
  | .nd cs => cs.length ≤ 5 ∧ Tre.oks cs
def Tre.oks : List Tre → Prop
  | [] => True
  | t :: ts => t.ok ∧ Tre.oks ts
end
theorem Tre.ds_eq : ∀ cs : List Tre, Tre.ds cs = cs.map Tre.d
  | [] => rfl
  | t :: ts => by rw [Tre.ds, Tre.ds_eq ts]; rfl
theorem Tre.szs_eq : ∀ cs : List Tre, Tre.szs cs = (cs.map Tre.sz).sum
  | [] => rfl
  | t :: ts => by rw [Tre.szs, Tre.szs_eq ts]; rfl
theorem Tre.oks_of : ∀ {cs : List Tre}, (∀ t ∈ cs, t.ok) → Tre.oks cs
  | [], _ => by rw [Tre.oks]; trivial
  | t :: ts, h => by
    rw [Tre.oks]
    exact ⟨h t List.mem_cons_self, Tre.oks_of fun x hx => h x (List.mem_cons_of_mem _ hx)⟩
theorem Tre.ds_len (cs : List Tre) : (Tre.ds cs).length = cs.length := by rw [Tre.ds_eq, List.length_map]
mutual
theorem Tre.row_len : ∀ t : Tre, t.row.length = t.sz
  | .nd cs => by rw [Tre.row, Tre.sz, List.length_append, Tre.rows_len cs, List.length_singleton]; omega
theorem Tre.rows_len : ∀ ts : List Tre, (Tre.rows ts).length = Tre.szs ts
  | [] => rfl
  | t :: ts => by rw [Tre.rows, Tre.szs, List.length_append, Tre.row_len t, Tre.rows_len ts]
end
theorem Tre.sz_pos (t : Tre) : 0 < t.sz := by cases t; rw [Tre.sz]; omega
mutual
theorem Tre.row_ar : ∀ t : Tre, t.ok → ∀ a ∈ t.row, Arity a
  | .nd cs, h, a, ha => by
    rw [Tre.ok] at h
    rw [Tre.row] at ha
    rcases List.mem_append.mp ha with ha | ha
    · exact Tre.rows_ar cs h.2 a ha
    · rw [List.mem_singleton.mp ha]
      exact ⟨by omega, by have := h.1; omega⟩
theorem Tre.rows_ar : ∀ ts : List Tre, Tre.oks ts → ∀ a ∈ Tre.rows ts, Arity a
  | [], _, a, ha => by simp [Tre.rows] at ha
  | t :: ts, h, a, ha => by
    rw [Tre.oks] at h
    rw [Tre.rows] at ha
    rcases List.mem_append.mp ha with ha | ha
    · exact Tre.row_ar t h.1 a ha
    · exact Tre.rows_ar ts h.2 a ha
end
mutual
theorem Tre.stp_row : ∀ (t : Tre) (h m : Int), 0 ≤ h → 0 ≤ m → t.row.foldl stp (h, m) = (h + 1, m)
  | .nd cs, h, m, h0, m0 => by
    rw [Tre.row, List.foldl_append, Tre.stp_rows cs h m h0 m0]
    show stp (h + (cs.length : Int), m) (cs.length : Int) = _
    unfold stp
    simp only
    congr 1
    · omega
    · omega
theorem Tre.stp_rows : ∀ (ts : List Tre) (h m : Int), 0 ≤ h → 0 ≤ m → (Tre.rows ts).foldl stp (h, m) = (h + (ts.length : Int), m)
  | [], h, m, _, _ => by rw [Tre.rows]; simp
  | t :: ts, h, m, h0, m0 => by
    rw [Tre.rows, List.foldl_append, Tre.stp_row t h m h0 m0, Tre.stp_rows ts (h + 1) m (by omega) m0]
    congr 1
    rw [List.length_cons]; omega
end
theorem Tre.ne_row (t : Tre) : ne t.row = 0 := by unfold ne; rw [Tre.stp_row t 0 0 (by omega) (by omega)]
mutual
theorem Tre.bulk : ∀ t : Tre, bulkD t.d + 1 = t.sz
  | .nd cs => by rw [Tre.d, Tre.sz, bulkD, Tre.bulks cs]; omega
theorem Tre.bulks : ∀ ts : List Tre, bulkL (Tre.ds ts) = Tre.szs ts
  | [] => by rw [Tre.ds, Tre.szs, bulkL]
  | t :: ts => by rw [Tre.ds, Tre.szs, bulkL, Tre.bulk t, Tre.bulks ts]
end
mutual
theorem Tre.dep : ∀ t : Tre, depD t.d ≤ t.sz
  | .nd cs => by
    rw [Tre.d, Tre.sz, depD]
    have := Tre.deps cs
    omega
theorem Tre.deps : ∀ ts : List Tre, depL (Tre.ds ts) ≤ Tre.szs ts
  | [] => by rw [Tre.ds, depL]; omega
  | t :: ts => by
    rw [Tre.ds, Tre.szs, depL]
    have := Tre.dep t
    have := Tre.deps ts
    omega
end
mutual
theorem Tre.low : ∀ (n : Nat) (t : Tre), DL.low n t.d = true
  | n, .nd cs => by rw [Tre.d, DL.low, Tre.lows n cs]
theorem Tre.lows : ∀ (n : Nat) (ts : List Tre), lowL n (Tre.ds ts) = true
  | n, [] => by rw [Tre.ds]; rfl
  | n, t :: ts => by rw [Tre.ds, lowL, Tre.low n t, Tre.lows n ts]; rfl
end
def bt (B : List (List Nat)) : Nat → Nat → Tre
  | 0, _ => .nd []
  | f + 1, i => .nd ((B.getD i []).map (bt B f))
structure Blw (B : List (List Nat)) (m : Nat) : Prop where
  up : ∀ (i : Nat) (b : List Nat), B[i]? = some b → ∀ c ∈ b, i < c ∧ c < m
  wide : ∀ b ∈ B, b.length ≤ 5
  perm : B.flatten.Perm (List.range' 1 (m - 1))
  pos : 1 ≤ m
  len : m ≤ B.length
theorem bt_ok {B : List (List Nat)} (hw : ∀ b ∈ B, b.length ≤ 5) : ∀ (f i : Nat), (bt B f i).ok
  | 0, _ => by rw [bt, Tre.ok]; exact ⟨by simp, by rw [Tre.oks]; trivial⟩
  | f + 1, i => by
    rw [bt, Tre.ok]
    refine ⟨?_, Tre.oks_of fun t ht => ?_⟩
    · rw [List.length_map, List.getD_eq_getElem?_getD]
      cases e : B[i]? with
      | none => simp
      | some b => exact hw b (List.mem_of_getElem? e)
    · obtain ⟨c, _, rfl⟩ := List.mem_map.mp ht
      exact bt_ok hw f c
theorem bt_same {B : List (List Nat)} {m : Nat} (h : Blw B m) : ∀ (f g i : Nat), m - i ≤ f → m - i ≤ g → i < m → bt B f i = bt B g i
  | 0, g, i, hf, _, hi => by omega
  | f + 1, 0, i, _, hg, hi => by omega
  | f + 1, g + 1, i, hf, hg, hi => by
    rw [bt, bt]
    congr 1
    refine List.map_congr_left fun c hc => ?_
    have hi' : i < B.length := by have := h.len; omega
    rw [List.getD_eq_getElem?_getD, List.getElem?_eq_getElem hi'] at hc
    obtain ⟨h1, h2⟩ := h.up i B[i] (List.getElem?_eq_getElem hi') c hc
    exact bt_same h f g c (by omega) (by omega) h2
def wt (B : List (List Nat)) (m i : Nat) : Nat := (bt B (m - i) i).sz
theorem wt_eq {B : List (List Nat)} {m : Nat} (h : Blw B m) {i : Nat} (hi : i < m) : wt B m i = 1 + ((B.getD i []).map (wt B m)).sum := by
  unfold wt
  obtain ⟨f, hf⟩ : ∃ f, m - i = f + 1 := ⟨m - i - 1, by omega⟩
  rw [hf, bt, Tre.sz, Tre.szs_eq, List.map_map]
  congr 2
  refine List.map_congr_left fun c hc => ?_
  have hi' : i < B.length := by have := h.len; omega
  rw [List.getD_eq_getElem?_getD, List.getElem?_eq_getElem hi'] at hc
  obtain ⟨h1, h2⟩ := h.up i B[i] (List.getElem?_eq_getElem hi') c hc
  show (bt B f c).sz = (bt B (m - c) c).sz
  rw [bt_same h f (m - c) c (by omega) (by omega) h2]
theorem sum_flat (w : Nat → Nat) : ∀ B : List (List Nat), (B.flatten.map w).sum = (B.map fun b => (b.map w).sum).sum
  | [] => rfl
  | b :: B => by rw [List.flatten_cons, List.map_append, List.sum_append, sum_flat w B]; rfl
theorem sum_range_succ (g : Nat → Nat) : ∀ n : Nat, ((List.range (n + 1)).map g).sum = g 0 + ((List.range' 1 n).map g).sum := fun n => by
  rw [List.range_eq_range', List.range'_succ]
  simp
theorem bt_size {B : List (List Nat)} (h : Blw B B.length) (f : Nat) (hf : B.length ≤ f) : (bt B f 0).sz = B.length := by
  have hp := h.pos
  have key : ((List.range B.length).map (wt B B.length)).sum = B.length + ((List.range' 1 (B.length - 1)).map (wt B B.length)).sum := by
    have e1 : (List.range B.length).map (wt B B.length) = B.map fun b => 1 + (b.map (wt B B.length)).sum := by
      refine List.ext_getElem (by simp) fun i h1 h2 => ?_
      rw [List.getElem_map, List.getElem_map, List.getElem_range, wt_eq h (by simpa using h1)]
      rw [List.getD_eq_getElem?_getD, List.getElem?_eq_getElem (by simpa using h2)]
      rfl
    rw [e1]
    have e2 : ∀ (L : List (List Nat)) (w : Nat → Nat), (L.map fun b => 1 + (b.map w).sum).sum = L.length + (L.map fun b => (b.map w).sum).sum := fun L w => by
      induction L with
      | nil => rfl
      | cons b L ih => rw [List.map_cons, List.sum_cons, ih, List.map_cons, List.sum_cons, List.length_cons]; omega
    rw [e2, ← sum_flat, (h.perm.map _).sum_nat]
  obtain ⟨n, hn⟩ : ∃ n, B.length = n + 1 := ⟨B.length - 1, by omega⟩
  have e0 : ((List.range B.length).map (wt B B.length)).sum = wt B B.length 0 + ((List.range' 1 (B.length - 1)).map (wt B B.length)).sum := by
    have := sum_range_succ (wt B B.length) n
    rw [← hn] at this
    rw [this, hn]; rfl
  have : wt B B.length 0 = B.length := by omega
  unfold wt at this
  rw [← bt_same h f (B.length - 0) 0 (by omega) (by omega) (by omega)] at this
  exact this
theorem blw_first (n : Nat) (hn : 1 ≤ n) : Blw (List.replicate n []) 1 := by
  refine ⟨fun i b e c hc => ?_, fun b hb => ?_, ?_, Nat.le_refl _, by simpa using hn⟩
  · have := List.mem_of_getElem? e
    rw [(List.mem_replicate.mp this).2] at hc
    simp at hc
  · rw [(List.mem_replicate.mp hb).2]; simp
  · simp
theorem blw_next {B : List (List Nat)} {m p : Nat} (h : Blw B m) (hp : p < m) (hw : (B.getD p []).length < 5) (hm : m < B.length) : Blw (B.set p (B.getD p [] ++ [m])) (m + 1) := by
  have hpl : p < B.length := by omega
  have eg : B.getD p [] = B[p] := by rw [List.getD_eq_getElem?_getD, List.getElem?_eq_getElem hpl]; rfl
  rw [eg] at hw ⊢
  refine ⟨fun i b e c hc => ?_, fun b hb => ?_, ?_, by omega, by rw [List.length_set]; omega⟩
  · by_cases hi : i = p
    · subst hi
      rw [List.getElem?_set_self hpl] at e
      cases e
      rcases List.mem_append.mp hc with hc | hc
      · have := h.up i B[i] (List.getElem?_eq_getElem hpl) c hc; omega
      · rw [List.mem_singleton.mp hc]; omega
    · rw [List.getElem?_set_ne (Ne.symm hi)] at e
      have := h.up i b e c hc
      omega
  · rcases List.mem_or_eq_of_mem_set hb with hb | hb
    · exact h.wide b hb
    · rw [hb, List.length_append, List.length_singleton]; omega
  · have e1 : B.set p (B[p] ++ [m]) = B.take p ++ (B[p] ++ [m]) :: B.drop (p + 1) := List.set_eq_take_append_cons_drop .. |>.trans (if_pos hpl)
    have e2 : B.flatten = (B.take p).flatten ++ (B[p] ++ (B.drop (p + 1)).flatten) := by
      conv => lhs; rw [← List.take_append_drop p B, List.drop_eq_getElem_cons hpl]
      rw [List.flatten_append, List.flatten_cons]
    have e3 : (m + 1 - 1) = (m - 1) + 1 := by have := h.pos; omega
    rw [e1, e3, List.range'_concat, List.flatten_append, List.flatten_cons]
    have e4 : 1 + 1 * (m - 1) = m := by have := h.pos; omega
    rw [e4]
    refine List.Perm.trans ?_ (h.perm.append_right [m])
    rw [e2]
    simp only [List.append_assoc]
    refine List.Perm.append_left _ (List.Perm.append_left _ ?_)
    exact List.perm_append_comm
def bel (r : Nat) (B : List (List Nat)) : Sto := .lst ((List.range B.length).map fun i => .loc (r + 1 + i)) :: B.map fun b => .lst (ni b)
theorem bel_get (r : Nat) {B : List (List Nat)} {i : Nat} (hi : i < B.length) : (bel r B)[1 + i]? = some (.lst (ni (B.getD i []))) := by
  rw [Nat.add_comm]
  show (B.map fun b => Ob.lst (ni b))[i]? = _
  rw [List.getElem?_map, List.getElem?_eq_getElem hi, List.getD_eq_getElem?_getD, List.getElem?_eq_getElem hi]
  rfl
theorem bel_set (r : Nat) (B : List (List Nat)) (i : Nat) (b : List Nat) : (bel r B).set (1 + i) (.lst (ni b)) = bel r (B.set i b) := by
  rw [Nat.add_comm]
  show Ob.lst _ :: (B.map fun b => Ob.lst (ni b)).set i (.lst (ni b)) = _
  unfold bel
  rw [List.length_set, List.map_set]
section
variable {S : Sto} {n : Nat} {rest : Sto} {B : List (List Nat)}
theorem bel_ix (h : Strm S n (rest ++ bel (rest.length + 2) B)) {i : Nat} (hi : i < B.length) : dIx (.loc (rest.length + 2)) (.int (i : Int)) S = .ok (.loc (rest.length + 2 + 1 + i)) S := by
  have g := h.getQ_mid (j := 0) (ds := (List.range B.length).map fun i => .loc (rest.length + 2 + 1 + i)) rfl
  refine dIx_loc g ?_
  rw [atI_nn (by omega) (by simpa using hi), Int.toNat_natCast, List.getElem?_map, List.getElem?_range hi]
  rfl
theorem bel_l (h : Strm S n (rest ++ bel (rest.length + 2) B)) {i : Nat} (hi : i < B.length) : getL S (rest.length + 2 + 1 + i) = some (ni (B.getD i [])) := by
  have := h.get_mid (bel_get (rest.length + 2) hi)
  rw [Nat.add_assoc (rest.length + 2)]
  exact this
theorem bel_put (h : Strm S n (rest ++ bel (rest.length + 2) B)) (i : Nat) (b : List Nat) : Strm (S.set (rest.length + 2 + 1 + i) (.lst (ni b))) n (rest ++ bel (rest.length + 2) (B.set i b)) := by
  have := h.set_mid (1 + i) (.lst (ni b))
  rw [bel_set] at this
  rw [Nat.add_assoc (rest.length + 2)]
  exact this
end
/-- a comprehension over a source with a guard, whose parts read the store -/
theorem compD_atG {g : Sto → Prop} {T : Tg} {f : Ev → Sto → R D} {ρ : Ev} (ρd : D → Ev) (e : D → D) (S : Sto) (hg : ∀ a, g (S ++ [.lst a])) : ∀ (ds acc : List D),
    (∀ d ∈ ds, ∀ a, T d ρ (S ++ [.lst a]) = some (ρd d, S ++ [.lst a]) ∧ f (ρd d) (S ++ [.lst a]) = .ok (e d) (S ++ [.lst a])) → acc.length + ds.length ≤ sizeLine →
    compD g T cYes f S.length ρ ds (S ++ [.lst acc]) = some (S ++ [.lst (acc ++ ds.map e)])
  | [], acc, _, _ => by rw [compD, if_pos (hg _)]; simp
  | d :: ds, acc, h, hl => by
    obtain ⟨h1, h3⟩ := h d List.mem_cons_self acc
    have hl' : acc.length + (ds.length + 1) ≤ sizeLine := hl
    rw [compD, if_pos (hg _), h1]
    simp only [cYes, if_true, h3, getL_end, set_end]
    rw [ifp_pos (by omega)]
    rw [compD_atG ρd e S hg ds (acc ++ [e d]) (fun x hx => h x (List.mem_cons_of_mem _ hx)) (by simp; omega)]
    simp
theorem eLc_atG {g : Sto → Prop} {src : Ev → Sto → R Src} {T : Tg} {vs : List Nat} {f : Ev → Sto → R D} {ρ : Ev} {S : Sto} (ds : List D) (ρd : D → Ev) (e : D → D) (hs : src ρ S = .ok (ds, g) S) (hg : ∀ a, g (S ++ [.lst a]))
    (h : ∀ d ∈ ds, ∀ a, T d (wipeD ρ vs) (S ++ [.lst a]) = some (ρd d, S ++ [.lst a]) ∧ f (ρd d) (S ++ [.lst a]) = .ok (e d) (S ++ [.lst a])) (hl : ds.length ≤ sizeLine) (hlow : ∀ d ∈ ds, low S.length (e d) = true) :
    eLc finFl src T vs cYes f ρ S = .ok (.fl (ds.map e)) S := by
  unfold eLc
  rw [hs]
  show (match compD g T cYes f S.length (wipeD ρ vs) ds (S ++ [Ob.lst []]) with
    | some S2 => finFl S S2
    | none => .stuck) = _
  rw [compD_atG ρd e S hg ds [] h (by simpa using hl)]
  simp only [List.nil_append]
  refine finFl_end (lowL_of fun d hd => ?_)
  obtain ⟨x, hx, rfl⟩ := List.mem_map.mp hd
  exact hlow x hx
theorem nested_ok {n : Nat} {rest : Sto} {B : List (List Nat)} {m : Nat} (hB : Blw B m) (hml : m = B.length) : ∀ (f i : Nat) (l : Sto) (S : Sto), m - i ≤ f → i < m → Strm S n (rest ++ bel (rest.length + 2) B ++ l) →
    F__law_nested f [.loc (rest.length + 2), .int (i : Int)] S = .ok (bt B f i).d S
  | 0, i, l, S, hf, hi, _ => by omega
  | f + 1, i, l, S, hf, hi, h => by
    have hi' : i < B.length := by omega
    have h' : Strm S n (rest ++ (bel (rest.length + 2) B ++ l)) := by rw [← List.append_assoc]; exact h
    have l0 : (bel (rest.length + 2) B ++ l)[0]? = some (.lst ((List.range B.length).map fun i => .loc (rest.length + 2 + 1 + i))) := rfl
    have li : (bel (rest.length + 2) B ++ l)[1 + i]? = some (.lst (ni (B.getD i []))) := by
      rw [List.getElem?_append_left (by unfold bel; simp; omega)]
      exact bel_get _ hi'
    have ix : dIx (.loc (rest.length + 2)) (.int (i : Int)) S = .ok (.loc (rest.length + 2 + 1 + i)) S := by
      refine dIx_loc (h'.getQ_mid l0) ?_
      rw [atI_nn (by omega) (by simpa using hi'), Int.toNat_natCast, List.getElem?_map, List.getElem?_range hi']
      rfl
    have q : getQ S (rest.length + 2 + 1 + i) = some (ni (B.getD i [])) := by
      have := h'.getQ_mid li
      rw [Nat.add_assoc (rest.length + 2)]
      exact this
    have qa : ∀ a, getQ (S ++ [.lst a]) (rest.length + 2 + 1 + i) = some (ni (B.getD i [])) := fun a => by
      have := (h'.app [.lst a])
      rw [List.append_assoc rest] at this
      have li' : (bel (rest.length + 2) B ++ l ++ [Ob.lst a])[1 + i]? = some (.lst (ni (B.getD i []))) := by
        rw [List.getElem?_append_left (by unfold bel; simp; omega)]
        exact li
      have := this.getQ_mid li'
      rw [Nat.add_assoc (rest.length + 2)]
      exact this
    have up : ∀ c ∈ B.getD i [], i < c ∧ c < m := fun c hc => by
      rw [List.getD_eq_getElem?_getD, List.getElem?_eq_getElem hi'] at hc
      exact hB.up i B[i] (List.getElem?_eq_getElem hi') c hc
    have wd : (B.getD i []).length ≤ 5 := by
      rw [List.getD_eq_getElem?_getD, List.getElem?_eq_getElem hi']
      exact hB.wide _ (List.getElem_mem hi')
    have key := eLc_atG (g := fun S => getQ S (rest.length + 2 + 1 + i) = some (ni (B.getD i []))) (src := iSeq (eOp dIx (eVar 0) (eVar 1))) (T := tN 2) (vs := [2]) (f := E1__law_nested (F__law_nested f)) (ρ := [some (.loc (rest.length + 2)), some (.int (i : Int)), none]) (S := S) (ni (B.getD i [])) (fun d => [some (.loc (rest.length + 2)), some (.int (i : Int)), some d]) (fun d => match d with | .int c => (bt B f c.toNat).d | d => d) (by
      have sr : srcOf (.loc (rest.length + 2 + 1 + i)) S = .ok (ni (B.getD i []), fun S => getQ S (rest.length + 2 + 1 + i) = some (ni (B.getD i []))) S := by
        show (match getQ S (rest.length + 2 + 1 + i) with
          | some ds => R.ok (ds, fun S => getQ S (rest.length + 2 + 1 + i) = some ds) S
          | none => .stuck) = _
        rw [q]
      simp only [eVar, eC, eOp, eT, eAnd, eOr, eNot, eIf, eAndV, eOrV, eNotV, eCall, aNil, aCons, aStar, sOf, eTup, eFl, eLoc, eSl, oNone, oSome, iOf, eNeg, eChain, eMt, bOf, eDict0, eRev, eListRg, iZipD, sRaise1, sRaise0, eCallV, List.lookup, R.bind_ok, R.bind_er, R.bind_stuck, R.toS_ok, R.toS_er, R.toS_stuck, SR.next_nx, SR.next_rt, SR.next_er, SR.next_bk, SR.next_ct, SR.next_stuck, sNil, sSeq, sBrk, sCnt, sExp, sRet, sRetN, sIf, sSet, sAsg, sAug, sPar2, sPar3, tN, DL.tTup, DL.tNil, DL.tCons, DL.tSub, iSeq, srcOf_tup, srcOf_fl, srcOf_kl, srcOf_ti, iRange1, iRange2, sFor, startD, List.map_cons, List.map_nil, List.length_cons, List.length_nil, List.replicate, List.cons_append, List.nil_append, List.getElem?_cons_zero, List.getElem?_cons_succ, List.set_cons_zero, List.set_cons_succ, dSub_int, dFdiv_int, dMod_int, dLt_int, dLe_int, dGt_int, dGe_int, dAddI_int, dSubI_int, dIsN_non, isN, dAdd_int, ll0, ll1, ll2, ll3, ll4, ll5, ll6, ll7, ll8, ll9, ll10, ll11, ll12, ll13, ll14, ll15, ll16, ll17, ll18, ll19, ll20, ll21, ll22, ll23, ll24, ll25, ll26, ll27, ll28, ll29, ll30, ll31, ll32, ll33, ll34, ll35, ll36, ll37, ll38, ll39, ll40, Nat.reduceSub, Nat.reduceAdd, Nat.reduceEqDiff, if_true, if_false, ifp_t, ifp_f, reduceIte, Bool.true_eq_false, Bool.false_eq_true, Option.map_some, Option.map_none, Option.bind_some, Option.bind_none, tSq, sSet2, seqOf_fl, seqOf_tup, seqOf_ti, ix, sr]) qa (by
      intro d hd a
      unfold ni at hd
      obtain ⟨c, hc, rfl⟩ := List.mem_map.mp hd
      obtain ⟨u1, u2⟩ := up c hc
      refine ⟨rfl, ?_⟩
      have := nested_ok (n := n) (rest := rest) hB hml f c (l ++ [.lst a]) (S ++ [.lst a]) (by omega) u2 (by rw [← List.append_assoc]; exact h.app _)
      generalize F__law_nested f = rec at *
      simp only [eVar, eC, eOp, eT, eAnd, eOr, eNot, eIf, eAndV, eOrV, eNotV, eCall, aNil, aCons, aStar, sOf, eTup, eFl, eLoc, eSl, oNone, oSome, iOf, eNeg, eChain, eMt, bOf, eDict0, eRev, eListRg, iZipD, sRaise1, sRaise0, eCallV, List.lookup, R.bind_ok, R.bind_er, R.bind_stuck, R.toS_ok, R.toS_er, R.toS_stuck, SR.next_nx, SR.next_rt, SR.next_er, SR.next_bk, SR.next_ct, SR.next_stuck, sNil, sSeq, sBrk, sCnt, sExp, sRet, sRetN, sIf, sSet, sAsg, sAug, sPar2, sPar3, tN, DL.tTup, DL.tNil, DL.tCons, DL.tSub, iSeq, srcOf_tup, srcOf_fl, srcOf_kl, srcOf_ti, iRange1, iRange2, sFor, startD, List.map_cons, List.map_nil, List.length_cons, List.length_nil, List.replicate, List.cons_append, List.nil_append, List.getElem?_cons_zero, List.getElem?_cons_succ, List.set_cons_zero, List.set_cons_succ, dSub_int, dFdiv_int, dMod_int, dLt_int, dLe_int, dGt_int, dGe_int, dAddI_int, dSubI_int, dIsN_non, isN, dAdd_int, ll0, ll1, ll2, ll3, ll4, ll5, ll6, ll7, ll8, ll9, ll10, ll11, ll12, ll13, ll14, ll15, ll16, ll17, ll18, ll19, ll20, ll21, ll22, ll23, ll24, ll25, ll26, ll27, ll28, ll29, ll30, ll31, ll32, ll33, ll34, ll35, ll36, ll37, ll38, ll39, ll40, Nat.reduceSub, Nat.reduceAdd, Nat.reduceEqDiff, if_true, if_false, ifp_t, ifp_f, reduceIte, Bool.true_eq_false, Bool.false_eq_true, Option.map_some, Option.map_none, Option.bind_some, Option.bind_none, tSq, sSet2, seqOf_fl, seqOf_tup, seqOf_ti, E1__law_nested, this, Int.toNat_natCast]) (by unfold ni; rw [List.length_map]; exact Nat.le_trans wd (by decide)) (by
      intro d hd
      unfold ni at hd
      obtain ⟨c, hc, rfl⟩ := List.mem_map.mp hd
      exact Tre.low _ _)
    have e : (ni (B.getD i [])).map (fun d => match d with | .int c => (bt B f c.toNat).d | d => d) = Tre.ds ((B.getD i []).map (bt B f)) := by
      unfold ni
      rw [Tre.ds_eq, List.map_map, List.map_map]
      refine List.map_congr_left fun c _ => ?_
      show (bt B f (c : Int).toNat).d = (bt B f c).d
      rw [Int.toNat_natCast]
    rw [e] at key
    rw [bt, Tre.d]
    show fnC close 3 2 (B__law_nested (F__law_nested f)) [.loc (rest.length + 2), .int (i : Int)] S = _
    refine fnC_rt rfl ?_ rfl
    have hst : startD 3 [D.loc (rest.length + 2), .int (i : Int)] = [some (.loc (rest.length + 2)), some (.int (i : Int)), none] := rfl
    rw [hst]
    unfold B__law_nested
    generalize eLc finFl (iSeq (eOp dIx (eVar 0) (eVar 1))) (tN 2) [2] cYes (E1__law_nested (F__law_nested f)) = LC at *
    simp only [eVar, eC, eOp, eT, eAnd, eOr, eNot, eIf, eAndV, eOrV, eNotV, eCall, aNil, aCons, aStar, sOf, eTup, eFl, eLoc, eSl, oNone, oSome, iOf, eNeg, eChain, eMt, bOf, eDict0, eRev, eListRg, iZipD, sRaise1, sRaise0, eCallV, List.lookup, R.bind_ok, R.bind_er, R.bind_stuck, R.toS_ok, R.toS_er, R.toS_stuck, SR.next_nx, SR.next_rt, SR.next_er, SR.next_bk, SR.next_ct, SR.next_stuck, sNil, sSeq, sBrk, sCnt, sExp, sRet, sRetN, sIf, sSet, sAsg, sAug, sPar2, sPar3, tN, DL.tTup, DL.tNil, DL.tCons, DL.tSub, iSeq, srcOf_tup, srcOf_fl, srcOf_kl, srcOf_ti, iRange1, iRange2, sFor, startD, List.map_cons, List.map_nil, List.length_cons, List.length_nil, List.replicate, List.cons_append, List.nil_append, List.getElem?_cons_zero, List.getElem?_cons_succ, List.set_cons_zero, List.set_cons_succ, dSub_int, dFdiv_int, dMod_int, dLt_int, dLe_int, dGt_int, dGe_int, dAddI_int, dSubI_int, dIsN_non, isN, dAdd_int, ll0, ll1, ll2, ll3, ll4, ll5, ll6, ll7, ll8, ll9, ll10, ll11, ll12, ll13, ll14, ll15, ll16, ll17, ll18, ll19, ll20, ll21, ll22, ll23, ll24, ll25, ll26, ll27, ll28, ll29, ll30, ll31, ll32, ll33, ll34, ll35, ll36, ll37, ll38, ll39, ll40, Nat.reduceSub, Nat.reduceAdd, Nat.reduceEqDiff, if_true, if_false, ifp_t, ifp_f, reduceIte, Bool.true_eq_false, Bool.false_eq_true, Option.map_some, Option.map_none, Option.bind_some, Option.bind_none, tSq, sSet2, seqOf_fl, seqOf_tup, seqOf_ti, key, bTuple_fl]
theorem tree_step {S : Sto} {n : Nat} {rest : Sto} {B : List (List Nat)} {k : Nat} (hB : Blw B k) (hk : k < B.length) (hl : B.length ≤ 100) {style : Int} (t0 : 0 ≤ style) (t3 : style < 4) (h : Strm S n (rest ++ bel (rest.length + 2) B)) (hn : n + 2 < 2 ^ 60) (x1 x2 x6 x7 x8 : Option D) :
    ∃ p S' y6 y7, p < k ∧ (B.getD p []).length < 5 ∧ L1__law_tree [some (.loc 1), x1, x2, some (.int style), some (.int (k : Int)), some (.loc (rest.length + 2)), x6, x7, x8] S = .nx [some (.loc 1), x1, x2, some (.int style), some (.int (k : Int)), some (.loc (rest.length + 2)), y6, y7, x8] S' ∧ Strm S' (n + 2) (rest ++ bel (rest.length + 2) (B.set p (B.getD p [] ++ [k]))) := by
  have hk1 := hB.pos
  obtain ⟨a, S1, a1, a2, a3, s1⟩ := draw_ok h (m := (k : Int)) (by omega) (log2_small 60 (by omega) (by decide) (by decide)) (by omega)
  obtain ⟨b, S2, b1, b2, b3, s2⟩ := draw_ok s1 (m := 3) (by decide) (by decide) (by omega)
  obtain ⟨spot, i0, ik, ixs⟩ : ∃ spot : Int, 0 ≤ spot ∧ spot < k ∧ ∀ S, dIx (.fl [.int ((k : Int) - 1), .int 0, .int a, .int (max 0 ((k : Int) - 1 - b))]) (.int style) S = .ok (.int spot) S := by
    rcases (show style = 0 ∨ style = 1 ∨ style = 2 ∨ style = 3 by omega) with rfl | rfl | rfl | rfl
    · exact ⟨_, by omega, by omega, fun S => rfl⟩
    · exact ⟨0, by omega, by omega, fun S => rfl⟩
    · exact ⟨a, by omega, by omega, fun S => rfl⟩
    · exact ⟨_, by omega, by omega, fun S => rfl⟩
  have mx : ∀ i j S, bMax [.int i, .int j] S = .ok (.int (max i j)) S := fun i j S => rfl
  have hsp : ∀ d ∈ D.int spot :: rangeD 0 k, ∃ c : Nat, c < k ∧ d = .int (c : Int) := fun d hd => by
    rcases List.mem_cons.mp hd with rfl | hd
    · exact ⟨spot.toNat, by omega, by rw [Int.toNat_of_nonneg i0]⟩
    · obtain ⟨j, hj⟩ := List.mem_iff_getElem?.mp hd
      obtain ⟨h1, rfl⟩ := rangeD_get hj
      exact ⟨j, h1, by rw [Int.zero_add]⟩
  have lr := listRg_ok k (by omega)
  have ad : ∀ S, dAdd (.fl [.int spot]) (.fl (rangeD 0 k)) S = .ok (.fl (.int spot :: rangeD 0 k)) S := fun S => by
    rw [add_fl [.int spot] (rangeD 0 k) (by rw [rangeD_len]; simp; omega)]; rfl
  have key := eLc_at (src := iSeq (eOp dAdd (eFl (aCons (eVar 6) aNil)) (eListRg mkFl (eVar 4)))) (T := tN 8) (vs := [8]) (c := Q1__law_tree) (f := E2__law_tree) (ρ := [some (.loc 1), x1, x2, some (.int style), some (.int (k : Int)), some (.loc (rest.length + 2)), some (.int spot), x7, x8]) (S := S2)
    (.int spot :: rangeD 0 k) (fun d => [some (.loc 1), x1, x2, some (.int style), some (.int (k : Int)), some (.loc (rest.length + 2)), some (.int spot), x7, some d]) (fun d => match d with | .int c => decide ((B.getD c.toNat []).length < 5) | _ => false) (fun d => d) (by
      simp only [eVar, eC, eOp, eT, eAnd, eOr, eNot, eIf, eAndV, eOrV, eNotV, eCall, aNil, aCons, aStar, sOf, eTup, eFl, eLoc, eSl, oNone, oSome, iOf, eNeg, eChain, eMt, bOf, eDict0, eRev, eListRg, iZipD, sRaise1, sRaise0, eCallV, List.lookup, R.bind_ok, R.bind_er, R.bind_stuck, R.toS_ok, R.toS_er, R.toS_stuck, SR.next_nx, SR.next_rt, SR.next_er, SR.next_bk, SR.next_ct, SR.next_stuck, sNil, sSeq, sBrk, sCnt, sExp, sRet, sRetN, sIf, sSet, sAsg, sAug, sPar2, sPar3, tN, DL.tTup, DL.tNil, DL.tCons, DL.tSub, iSeq, srcOf_tup, srcOf_fl, srcOf_kl, srcOf_ti, iRange1, iRange2, sFor, startD, List.map_cons, List.map_nil, List.length_cons, List.length_nil, List.replicate, List.cons_append, List.nil_append, List.getElem?_cons_zero, List.getElem?_cons_succ, List.set_cons_zero, List.set_cons_succ, dSub_int, dFdiv_int, dMod_int, dLt_int, dLe_int, dGt_int, dGe_int, dAddI_int, dSubI_int, dIsN_non, isN, dAdd_int, ll0, ll1, ll2, ll3, ll4, ll5, ll6, ll7, ll8, ll9, ll10, ll11, ll12, ll13, ll14, ll15, ll16, ll17, ll18, ll19, ll20, ll21, ll22, ll23, ll24, ll25, ll26, ll27, ll28, ll29, ll30, ll31, ll32, ll33, ll34, ll35, ll36, ll37, ll38, ll39, ll40, Nat.reduceSub, Nat.reduceAdd, Nat.reduceEqDiff, if_true, if_false, ifp_t, ifp_f, reduceIte, Bool.true_eq_false, Bool.false_eq_true, Option.map_some, Option.map_none, Option.bind_some, Option.bind_none, tSq, sSet2, seqOf_fl, seqOf_tup, seqOf_ti, lr, ad]) (by
      intro d hd a
      obtain ⟨c, hc, rfl⟩ := hsp d hd
      have hcl : c < B.length := by omega
      refine ⟨rfl, ?_, fun _ => rfl⟩
      have sa := s2.app [.lst a]
      rw [List.append_assoc] at sa
      have l0 : (bel (rest.length + 2) B ++ [Ob.lst a])[0]? = some (.lst ((List.range B.length).map fun i => .loc (rest.length + 2 + 1 + i))) := rfl
      have ix : dIx (.loc (rest.length + 2)) (.int (c : Int)) (S2 ++ [Ob.lst a]) = .ok (.loc (rest.length + 2 + 1 + c)) (S2 ++ [Ob.lst a]) := by
        refine dIx_loc (sa.getQ_mid l0) ?_
        rw [atI_nn (by omega) (by simpa using hcl), Int.toNat_natCast, List.getElem?_map, List.getElem?_range hcl]
        rfl
      have li : (bel (rest.length + 2) B ++ [Ob.lst a])[1 + c]? = some (.lst (ni (B.getD c []))) := by
        rw [List.getElem?_append_left (by unfold bel; simp; omega)]
        exact bel_get _ hcl
      have q : getQ (S2 ++ [Ob.lst a]) (rest.length + 2 + 1 + c) = some (ni (B.getD c [])) := by
        have := sa.getQ_mid li
        rw [Nat.add_assoc (rest.length + 2)]
        exact this
      have ln : bLen [.loc (rest.length + 2 + 1 + c)] (S2 ++ [Ob.lst a]) = .ok (.int ((B.getD c []).length : Int)) (S2 ++ [Ob.lst a]) := by
        show (match getQ (S2 ++ [Ob.lst a]) (rest.length + 2 + 1 + c) with
          | some xs => R.ok (D.int (xs.length : Nat)) (S2 ++ [Ob.lst a])
          | none => .stuck) = _
        rw [q]
        show R.ok (D.int ((ni (B.getD c [])).length : Nat)) (S2 ++ [Ob.lst a]) = _
        unfold ni
        rw [List.length_map]
      have e5 : decide (((B.getD c []).length : Int) < 5) = decide ((B.getD c []).length < 5) := by
        rw [Bool.eq_iff_iff, decide_eq_true_iff, decide_eq_true_iff]; omega
      simp only [eVar, eC, eOp, eT, eAnd, eOr, eNot, eIf, eAndV, eOrV, eNotV, eCall, aNil, aCons, aStar, sOf, eTup, eFl, eLoc, eSl, oNone, oSome, iOf, eNeg, eChain, eMt, bOf, eDict0, eRev, eListRg, iZipD, sRaise1, sRaise0, eCallV, List.lookup, R.bind_ok, R.bind_er, R.bind_stuck, R.toS_ok, R.toS_er, R.toS_stuck, SR.next_nx, SR.next_rt, SR.next_er, SR.next_bk, SR.next_ct, SR.next_stuck, sNil, sSeq, sBrk, sCnt, sExp, sRet, sRetN, sIf, sSet, sAsg, sAug, sPar2, sPar3, tN, DL.tTup, DL.tNil, DL.tCons, DL.tSub, iSeq, srcOf_tup, srcOf_fl, srcOf_kl, srcOf_ti, iRange1, iRange2, sFor, startD, List.map_cons, List.map_nil, List.length_cons, List.length_nil, List.replicate, List.cons_append, List.nil_append, List.getElem?_cons_zero, List.getElem?_cons_succ, List.set_cons_zero, List.set_cons_succ, dSub_int, dFdiv_int, dMod_int, dLt_int, dLe_int, dGt_int, dGe_int, dAddI_int, dSubI_int, dIsN_non, isN, dAdd_int, ll0, ll1, ll2, ll3, ll4, ll5, ll6, ll7, ll8, ll9, ll10, ll11, ll12, ll13, ll14, ll15, ll16, ll17, ll18, ll19, ll20, ll21, ll22, ll23, ll24, ll25, ll26, ll27, ll28, ll29, ll30, ll31, ll32, ll33, ll34, ll35, ll36, ll37, ll38, ll39, ll40, Nat.reduceSub, Nat.reduceAdd, Nat.reduceEqDiff, if_true, if_false, ifp_t, ifp_f, reduceIte, Bool.true_eq_false, Bool.false_eq_true, Option.map_some, Option.map_none, Option.bind_some, Option.bind_none, tSq, sSet2, seqOf_fl, seqOf_tup, seqOf_ti, Q1__law_tree, ix, ln, e5, Int.toNat_natCast]) (by rw [List.length_cons, rangeD_len]; exact Nat.le_trans (show k + 1 ≤ 1000 by omega) (by decide)) (by
      intro d hd _
      obtain ⟨c, _, rfl⟩ := hsp d hd
      rfl)
  have last : (B.getD (k - 1) []).length < 5 := by
    have hl' : k - 1 < B.length := by omega
    rw [List.getD_eq_getElem?_getD, List.getElem?_eq_getElem hl']
    show B[k - 1].length < 5
    cases e : B[k - 1] with
    | nil => simp
    | cons c r =>
      have := hB.up (k - 1) B[k - 1] (List.getElem?_eq_getElem hl') c (by rw [e]; exact List.mem_cons_self)
      omega
  obtain ⟨p, r, hpk, hp5, er⟩ : ∃ (p : Nat) (r : List D), p < k ∧ (B.getD p []).length < 5 ∧ ((D.int spot :: rangeD 0 k).filter (fun d => match d with | .int c => decide ((B.getD c.toNat []).length < 5) | _ => false)).map (fun d => d) = .int (p : Int) :: r := by
    rw [List.map_id']
    have hm : D.int ((k - 1 : Nat) : Int) ∈ (D.int spot :: rangeD 0 k).filter (fun d => match d with | .int c => decide ((B.getD c.toNat []).length < 5) | _ => false) := by
      refine List.mem_filter.mpr ⟨List.mem_cons_of_mem _ ?_, ?_⟩
      · rw [rangeD_nat]
        exact List.mem_map.mpr ⟨k - 1, List.mem_range.mpr (by omega), rfl⟩
      · show decide ((B.getD ((k - 1 : Nat) : Int).toNat []).length < 5) = true
        rw [Int.toNat_natCast]
        exact decide_eq_true last
    cases hF : (D.int spot :: rangeD 0 k).filter (fun d => match d with | .int c => decide ((B.getD c.toNat []).length < 5) | _ => false) with
    | nil => rw [hF] at hm; simp at hm
    | cons d r =>
      have hd : d ∈ (D.int spot :: rangeD 0 k).filter (fun d => match d with | .int c => decide ((B.getD c.toNat []).length < 5) | _ => false) := by rw [hF]; exact List.mem_cons_self
      obtain ⟨h1, h2⟩ := List.mem_filter.mp hd
      obtain ⟨c, hc, rfl⟩ := hsp d h1
      have h2' : decide ((B.getD (c : Int).toNat []).length < 5) = true := h2
      rw [Int.toNat_natCast] at h2'
      exact ⟨c, r, hc, of_decide_eq_true h2', rfl⟩
  rw [er] at key
  have hpl : p < B.length := by omega
  have i0 : ∀ S, dIx (.fl (.int (p : Int) :: r)) (.int 0) S = .ok (.int (p : Int)) S := fun S => by
    show (match atI (D.int (p : Int) :: r) 0 with
      | some d => R.ok d S
      | none => .stuck) = _
    rw [atI_nn (by omega) (by simp)]
    rfl
  have ip := bel_ix s2 hpl
  have gp := bel_l s2 hpl
  have il := isLst_at gp
  have ap := append_at (d := .int (k : Int)) gp (by unfold ni; rw [List.length_map]; omega)
  have sp := bel_put s2 p (B.getD p [] ++ [k])
  have en : ni (B.getD p [] ++ [k]) = ni (B.getD p []) ++ [.int (k : Int)] := by unfold ni; simp
  rw [en] at sp
  refine ⟨p, _, some (.int spot), some (.fl (.int (p : Int) :: r)), hpk, hp5, ?_, sp⟩
  unfold L1__law_tree
  generalize eLc finFl (iSeq (eOp dAdd (eFl (aCons (eVar 6) aNil)) (eListRg mkFl (eVar 4)))) (tN 8) [8] Q1__law_tree E2__law_tree = LC at *
  generalize ni (B.getD p []) = NB at *
  simp only [eVar, eC, eOp, eT, eAnd, eOr, eNot, eIf, eAndV, eOrV, eNotV, eCall, aNil, aCons, aStar, sOf, eTup, eFl, eLoc, eSl, oNone, oSome, iOf, eNeg, eChain, eMt, bOf, eDict0, eRev, eListRg, iZipD, sRaise1, sRaise0, eCallV, List.lookup, R.bind_ok, R.bind_er, R.bind_stuck, R.toS_ok, R.toS_er, R.toS_stuck, SR.next_nx, SR.next_rt, SR.next_er, SR.next_bk, SR.next_ct, SR.next_stuck, sNil, sSeq, sBrk, sCnt, sExp, sRet, sRetN, sIf, sSet, sAsg, sAug, sPar2, sPar3, tN, DL.tTup, DL.tNil, DL.tCons, DL.tSub, iSeq, srcOf_tup, srcOf_fl, srcOf_kl, srcOf_ti, iRange1, iRange2, sFor, startD, List.map_cons, List.map_nil, List.length_cons, List.length_nil, List.replicate, List.cons_append, List.nil_append, List.getElem?_cons_zero, List.getElem?_cons_succ, List.set_cons_zero, List.set_cons_succ, dSub_int, dFdiv_int, dMod_int, dLt_int, dLe_int, dGt_int, dGe_int, dAddI_int, dSubI_int, dIsN_non, isN, dAdd_int, ll0, ll1, ll2, ll3, ll4, ll5, ll6, ll7, ll8, ll9, ll10, ll11, ll12, ll13, ll14, ll15, ll16, ll17, ll18, ll19, ll20, ll21, ll22, ll23, ll24, ll25, ll26, ll27, ll28, ll29, ll30, ll31, ll32, ll33, ll34, ll35, ll36, ll37, ll38, ll39, ll40, Nat.reduceSub, Nat.reduceAdd, Nat.reduceEqDiff, if_true, if_false, ifp_t, ifp_f, reduceIte, Bool.true_eq_false, Bool.false_eq_true, Option.map_some, Option.map_none, Option.bind_some, Option.bind_none, tSq, sSet2, seqOf_fl, seqOf_tup, seqOf_ti, a1, b1, mx, ixs, key, i0, ip, il, ap]
theorem E1_locs {S : Sto} {n : Nat} {rest : Sto} (ρ : Ev) : ∀ (ds : List D) (j : Nat) (S : Sto), (∀ d ∈ ds, ∃ c : Int, d = .int c) → Strm S n (rest ++ bel (rest.length + 2) (List.replicate j [])) → j + ds.length ≤ 1000 →
    ∃ S', compD yes (tN 4) cYes E1__law_tree (rest.length + 2) ρ ds S = some S' ∧ Strm S' n (rest ++ bel (rest.length + 2) (List.replicate (j + ds.length) []))
  | [], j, S, _, h, _ => ⟨S, by rw [compD, if_pos (show yes _ from trivial)], h⟩
  | d :: ds, j, S, hd, h, hj => by
    have hl := h.len
    have hbl : (bel (rest.length + 2) (List.replicate j [])).length = j + 1 := by simp [bel]
    rw [List.length_append, hbl] at hl
    have h1 := h.app [.lst []]
    have g : getL (S ++ [.lst []]) (rest.length + 2) = some ((List.range j).map fun i => .loc (rest.length + 2 + 1 + i)) := by
      rw [List.append_assoc] at h1
      have := h1.get_mid (j := 0) (ds := (List.range (List.replicate j ([] : List Nat)).length).map fun i => .loc (rest.length + 2 + 1 + i)) rfl
      rw [List.length_replicate] at this
      exact this
    have h2 := (show Strm (S ++ [.lst []]) n (rest ++ (bel (rest.length + 2) (List.replicate j []) ++ [.lst []])) by rw [← List.append_assoc]; exact h1).set_mid 0 (.lst (((List.range j).map fun i => D.loc (rest.length + 2 + 1 + i)) ++ [.loc S.length]))
    have e2 : (bel (rest.length + 2) (List.replicate j []) ++ [Ob.lst []]).set 0 (.lst (((List.range j).map fun i => D.loc (rest.length + 2 + 1 + i)) ++ [.loc S.length])) = bel (rest.length + 2) (List.replicate (j + 1) []) := by
      show Ob.lst _ :: ((List.replicate j ([] : List Nat)).map (fun b => Ob.lst (ni b)) ++ [Ob.lst []]) = _
      unfold bel
      rw [List.length_replicate, List.range_succ, List.map_append, List.replicate_succ', List.map_append]
      have : S.length = rest.length + 2 + 1 + j := by omega
      rw [this]; rfl
    rw [e2] at h2
    obtain ⟨S', c1, c2⟩ := E1_locs (S := S) (n := n) (rest := rest) ρ ds (j + 1) _ (fun x hx => hd x (List.mem_cons_of_mem _ hx)) h2 (by rw [List.length_cons] at hj; omega)
    refine ⟨S', ?_, ?_⟩
    · rw [compD, if_pos (show yes _ from trivial)]
      have hE : ∀ ρ S, E1__law_tree ρ S = .ok (.loc S.length) (S ++ [.lst []]) := fun ρ S => by
        simp only [eVar, eC, eOp, eT, eAnd, eOr, eNot, eIf, eAndV, eOrV, eNotV, eCall, aNil, aCons, aStar, sOf, eTup, eFl, eLoc, eSl, oNone, oSome, iOf, eNeg, eChain, eMt, bOf, eDict0, eRev, eListRg, iZipD, sRaise1, sRaise0, eCallV, List.lookup, R.bind_ok, R.bind_er, R.bind_stuck, R.toS_ok, R.toS_er, R.toS_stuck, SR.next_nx, SR.next_rt, SR.next_er, SR.next_bk, SR.next_ct, SR.next_stuck, sNil, sSeq, sBrk, sCnt, sExp, sRet, sRetN, sIf, sSet, sAsg, sAug, sPar2, sPar3, tN, DL.tTup, DL.tNil, DL.tCons, DL.tSub, iSeq, srcOf_tup, srcOf_fl, srcOf_kl, srcOf_ti, iRange1, iRange2, sFor, startD, List.map_cons, List.map_nil, List.length_cons, List.length_nil, List.replicate, List.cons_append, List.nil_append, List.getElem?_cons_zero, List.getElem?_cons_succ, List.set_cons_zero, List.set_cons_succ, dSub_int, dFdiv_int, dMod_int, dLt_int, dLe_int, dGt_int, dGe_int, dAddI_int, dSubI_int, dIsN_non, isN, dAdd_int, ll0, ll1, ll2, ll3, ll4, ll5, ll6, ll7, ll8, ll9, ll10, ll11, ll12, ll13, ll14, ll15, ll16, ll17, ll18, ll19, ll20, ll21, ll22, ll23, ll24, ll25, ll26, ll27, ll28, ll29, ll30, ll31, ll32, ll33, ll34, ll35, ll36, ll37, ll38, ll39, ll40, Nat.reduceSub, Nat.reduceAdd, Nat.reduceEqDiff, if_true, if_false, ifp_t, ifp_f, reduceIte, Bool.true_eq_false, Bool.false_eq_true, Option.map_some, Option.map_none, Option.bind_some, Option.bind_none, tSq, sSet2, seqOf_fl, seqOf_tup, seqOf_ti, E1__law_tree]
      simp only [tN, cYes, if_true, hE, g]
      rw [ifp_pos (by rw [List.length_map, List.length_range]; rw [List.length_cons] at hj; exact Nat.lt_of_le_of_lt (show j ≤ 1000 by omega) (by decide))]
      exact c1
    · have : j + (d :: ds).length = j + 1 + ds.length := by rw [List.length_cons]; omega
      rw [this]; exact c2
theorem tree_ok {S : Sto} {n : Nat} {rest : Sto} (h : Strm S n rest) (hn : n + 100 < 2 ^ 60) : ∃ (t : Tre) (S' : Sto), F__law_tree [.loc 1, .int 24] S = .ok t.d S' ∧ t.ok ∧ t.sz ≤ 24 ∧ Strm S' (n + 50) rest := by
  obtain ⟨z, S1, z1, z2, z3, s1⟩ := draw_ok h (m := 24) (by decide) (by decide) (by omega)
  obtain ⟨st, S2, w1, w2, w3, s2⟩ := draw_ok s1 (m := 4) (by decide) (by decide) (by omega)
  obtain ⟨N, hN⟩ : ∃ N : Nat, 1 + z = (N : Int) := ⟨(1 + z).toNat, by omega⟩
  have hN1 : 1 ≤ N := by omega
  have hN24 : N ≤ 24 := by omega
  have hrN : ((-(2 ^ 62) : Int) ≤ (N : Int) ∧ (N : Int) < 2 ^ 62) = True := by simp; omega
  have hr2 : ((-(2 ^ 62) : Int) ≤ 1 ∧ (1 : Int) < 2 ^ 62 ∧ -(2 ^ 62) ≤ (N : Int) ∧ (N : Int) < 2 ^ 62) = True := by simp; omega
  have sA := s2.app [.lst []]
  have e0 : rest ++ [Ob.lst []] = rest ++ bel (rest.length + 2) (List.replicate 0 []) := rfl
  rw [e0] at sA
  obtain ⟨S3, c1, s3⟩ := E1_locs (S := S2) (n := n + 2) (rest := rest) [some (.loc 1), some (.int 24), some (.int (N : Int)), some (.int st), none, none, none, none, none] (rangeD 0 N) 0 _ (fun d hd => by
    obtain ⟨k, hk⟩ := List.mem_iff_getElem?.mp hd
    exact ⟨_, (rangeD_get hk).2⟩) sA (by rw [rangeD_len]; omega)
  rw [rangeD_len, Nat.zero_add] at s3
  have l2 : S2.length = rest.length + 2 := s2.len
  have lc : eLc finLoc (iRange1 (aCons (eVar 2) aNil)) (tN 4) [4] cYes E1__law_tree [some (.loc 1), some (.int 24), some (.int (N : Int)), some (.int st), none, none, none, none, none] S2 = .ok (.loc (rest.length + 2)) S3 := by
    unfold eLc
    have hs : iRange1 (aCons (eVar 2) aNil) [some (.loc 1), some (.int 24), some (.int (N : Int)), some (.int st), none, none, none, none, none] S2 = .ok (rangeD 0 N, yes) S2 := by
      simp only [eVar, eC, eOp, eT, eAnd, eOr, eNot, eIf, eAndV, eOrV, eNotV, eCall, aNil, aCons, aStar, sOf, eTup, eFl, eLoc, eSl, oNone, oSome, iOf, eNeg, eChain, eMt, bOf, eDict0, eRev, eListRg, iZipD, sRaise1, sRaise0, eCallV, List.lookup, R.bind_ok, R.bind_er, R.bind_stuck, R.toS_ok, R.toS_er, R.toS_stuck, SR.next_nx, SR.next_rt, SR.next_er, SR.next_bk, SR.next_ct, SR.next_stuck, sNil, sSeq, sBrk, sCnt, sExp, sRet, sRetN, sIf, sSet, sAsg, sAug, sPar2, sPar3, tN, DL.tTup, DL.tNil, DL.tCons, DL.tSub, iSeq, srcOf_tup, srcOf_fl, srcOf_kl, srcOf_ti, iRange1, iRange2, sFor, startD, List.map_cons, List.map_nil, List.length_cons, List.length_nil, List.replicate, List.cons_append, List.nil_append, List.getElem?_cons_zero, List.getElem?_cons_succ, List.set_cons_zero, List.set_cons_succ, dSub_int, dFdiv_int, dMod_int, dLt_int, dLe_int, dGt_int, dGe_int, dAddI_int, dSubI_int, dIsN_non, isN, dAdd_int, ll0, ll1, ll2, ll3, ll4, ll5, ll6, ll7, ll8, ll9, ll10, ll11, ll12, ll13, ll14, ll15, ll16, ll17, ll18, ll19, ll20, ll21, ll22, ll23, ll24, ll25, ll26, ll27, ll28, ll29, ll30, ll31, ll32, ll33, ll34, ll35, ll36, ll37, ll38, ll39, ll40, Nat.reduceSub, Nat.reduceAdd, Nat.reduceEqDiff, if_true, if_false, ifp_t, ifp_f, reduceIte, Bool.true_eq_false, Bool.false_eq_true, Option.map_some, Option.map_none, Option.bind_some, Option.bind_none, tSq, sSet2, seqOf_fl, seqOf_tup, seqOf_ti, hrN, Int.toNat_natCast]
    rw [hs]
    show (match compD yes (tN 4) cYes E1__law_tree S2.length (wipeD [some (.loc 1), some (.int 24), some (.int (N : Int)), some (.int st), none, none, none, none, none] [4]) (rangeD 0 N) (S2 ++ [Ob.lst []]) with
      | some S2' => finLoc S2 S2'
      | none => .stuck) = _
    rw [l2]
    rw [show wipeD [some (.loc 1), some (.int 24), some (.int (N : Int)), some (.int st), none, none, none, none, none] [4] = [some (.loc 1), some (.int 24), some (.int (N : Int)), some (.int st), none, none, none, none, none] from rfl, c1]
    show R.ok (D.loc S2.length) S3 = _
    rw [l2]
  obtain ⟨ρ', S4, ⟨⟨x4, x6, x7, rfl⟩, B, s4, hB, lB⟩, hf⟩ := forD_all (T := tN 4) (B := L1__law_tree) (Z := sNil) (fun i ρ S => (∃ x4 x6 x7, ρ = [some (.loc 1), some (.int 24), some (.int (N : Int)), some (.int st), x4, some (.loc (rest.length + 2)), x6, x7, none]) ∧ ∃ B, Strm S (n + 2 + 2 * i) (rest ++ bel (rest.length + 2) B) ∧ Blw B (i + 1) ∧ B.length = N)
    (rangeD 1 (N - 1)) 0 [some (.loc 1), some (.int 24), some (.int (N : Int)), some (.int st), none, some (.loc (rest.length + 2)), none, none, none] S3 ⟨⟨none, none, none, rfl⟩, List.replicate N [], s3, blw_first N hN1, by simp⟩ (by
      rintro j d ρ S' hj ⟨⟨x4, x6, x7, rfl⟩, B, sj, hB, lB⟩
      obtain ⟨hj', rfl⟩ := rangeD_get hj
      rw [Nat.zero_add] at sj hB ⊢
      have ej : (1 : Int) + (j : Int) = ((j + 1 : Nat) : Int) := by omega
      rw [ej]
      obtain ⟨p, S'', y6, y7, p1, p2, p3, p4⟩ := tree_step hB (by omega) (by omega) w2 w3 sj (by omega) (some (.int 24)) (some (.int (N : Int))) x6 x7 none
      exact ⟨_, _, _, S'', rfl, .inl p3, ⟨_, _, _, rfl⟩, _, p4.mono (by omega), blw_next hB p1 p2 (by omega), by rw [List.length_set]; exact lB⟩)
  rw [rangeD_len, Nat.zero_add] at s4 hB
  have hB' : Blw B B.length := by
    have : N - 1 + 1 = B.length := by omega
    rw [this] at hB; exact hB
  have ns : F__law_nested 40 [.loc (rest.length + 2), .int 0] S4 = _ := nested_ok (n := n + 2 + 2 * (N - 1)) (rest := rest) hB' rfl 40 0 [] S4 (by omega) (by omega) (by rw [List.append_nil]; exact s4)
  have sz := bt_size hB' 40 (by omega)
  have key := fnC_strm (n := 9) (m := 2) (B := B__law_tree) (ds := [D.loc 1, .int 24]) (S := S) (S6 := S4) (d := (bt B 40 0).d) h (l := bel (rest.length + 2) B) s4 (by simp [bel]) rfl ?_ (Tre.low _ _)
  · exact ⟨_, _, key.1, bt_ok hB'.wide 40 0, by omega, key.2.mono (by omega)⟩
  · have hst : startD 9 [D.loc 1, .int 24] = [some (.loc 1), some (.int 24), none, none, none, none, none, none, none] := rfl
    rw [hst]
    unfold B__law_tree
    have e1 : ((N : Int) - 1).toNat = N - 1 := by omega
    generalize eLc finLoc (iRange1 (aCons (eVar 2) aNil)) (tN 4) [4] cYes E1__law_tree = LC at *
    generalize F__law_nested 40 = NE at *
    simp only [eVar, eC, eOp, eT, eAnd, eOr, eNot, eIf, eAndV, eOrV, eNotV, eCall, aNil, aCons, aStar, sOf, eTup, eFl, eLoc, eSl, oNone, oSome, iOf, eNeg, eChain, eMt, bOf, eDict0, eRev, eListRg, iZipD, sRaise1, sRaise0, eCallV, List.lookup, R.bind_ok, R.bind_er, R.bind_stuck, R.toS_ok, R.toS_er, R.toS_stuck, SR.next_nx, SR.next_rt, SR.next_er, SR.next_bk, SR.next_ct, SR.next_stuck, sNil, sSeq, sBrk, sCnt, sExp, sRet, sRetN, sIf, sSet, sAsg, sAug, sPar2, sPar3, tN, DL.tTup, DL.tNil, DL.tCons, DL.tSub, iSeq, srcOf_tup, srcOf_fl, srcOf_kl, srcOf_ti, iRange1, iRange2, sFor, startD, List.map_cons, List.map_nil, List.length_cons, List.length_nil, List.replicate, List.cons_append, List.nil_append, List.getElem?_cons_zero, List.getElem?_cons_succ, List.set_cons_zero, List.set_cons_succ, dSub_int, dFdiv_int, dMod_int, dLt_int, dLe_int, dGt_int, dGe_int, dAddI_int, dSubI_int, dIsN_non, isN, dAdd_int, ll0, ll1, ll2, ll3, ll4, ll5, ll6, ll7, ll8, ll9, ll10, ll11, ll12, ll13, ll14, ll15, ll16, ll17, ll18, ll19, ll20, ll21, ll22, ll23, ll24, ll25, ll26, ll27, ll28, ll29, ll30, ll31, ll32, ll33, ll34, ll35, ll36, ll37, ll38, ll39, ll40, Nat.reduceSub, Nat.reduceAdd, Nat.reduceEqDiff, if_true, if_false, ifp_t, ifp_f, reduceIte, Bool.true_eq_false, Bool.false_eq_true, Option.map_some, Option.map_none, Option.bind_some, Option.bind_none, tSq, sSet2, seqOf_fl, seqOf_tup, seqOf_ti, z1, w1, hN, lc, hr2, e1, hf, ns]
theorem tree_row_ok : ∀ (f : Nat) (t : Tre), t.sz ≤ f → f ≤ 1000 → ∀ S, F__law_tree_row f [t.d] S = .ok (ti t.row) S
  | 0, t, h, _, S => by have := t.sz_pos; omega
  | f + 1, .nd cs, h, hf, S => by
    rw [Tre.sz] at h
    have loop : ∀ (ts : List Tre) (acc : List Int) (x2 : Option D), acc.length + Tre.szs ts ≤ 1000 → (∀ t ∈ ts, t.sz ≤ f) → ∃ y2, forD yes (tN 2) (L1__law_tree_row (F__law_tree_row f)) sNil (Tre.ds ts) [some (.tup (Tre.ds cs)), some (ti acc), x2] S = .nx [some (.tup (Tre.ds cs)), some (ti (acc ++ Tre.rows ts)), y2] S := by
      intro ts
      induction ts with
      | nil =>
        intro acc x2 _ _
        refine ⟨x2, ?_⟩
        rw [Tre.ds, forD_nil trivial, Tre.rows, List.append_nil]; rfl
      | cons t ts ih =>
        intro acc x2 hl hs
        rw [Tre.szs] at hl
        have r1 := tree_row_ok f t (hs t List.mem_cons_self) (by omega)
        have rl := t.row_len
        obtain ⟨y2, e⟩ := ih (acc ++ t.row) (some t.d) (by rw [List.length_append]; omega) fun x hx => hs x (List.mem_cons_of_mem _ hx)
        refine ⟨y2, ?_⟩
        have a1 : ∀ S, dAdd (ti acc) (ti t.row) S = .ok (ti (acc ++ t.row)) S := fun S => add_ti acc t.row (Nat.le_trans (show acc.length + t.row.length ≤ 1000 by omega) (by decide)) S
        rw [Tre.ds, forD_cons (ρ1 := [some (.tup (Tre.ds cs)), some (ti acc), some t.d]) (S1 := S) (ρ2 := [some (.tup (Tre.ds cs)), some (ti (acc ++ t.row)), some t.d]) (S2 := S) trivial rfl ?_, e, Tre.rows, List.append_assoc]
        generalize F__law_tree_row f = rec at *
        generalize Tre.ds cs = DS at *
        simp only [eVar, eC, eOp, eT, eAnd, eOr, eNot, eIf, eAndV, eOrV, eNotV, eCall, aNil, aCons, aStar, sOf, eTup, eFl, eLoc, eSl, oNone, oSome, iOf, eNeg, eChain, eMt, bOf, eDict0, eRev, eListRg, iZipD, sRaise1, sRaise0, eCallV, List.lookup, R.bind_ok, R.bind_er, R.bind_stuck, R.toS_ok, R.toS_er, R.toS_stuck, SR.next_nx, SR.next_rt, SR.next_er, SR.next_bk, SR.next_ct, SR.next_stuck, sNil, sSeq, sBrk, sCnt, sExp, sRet, sRetN, sIf, sSet, sAsg, sAug, sPar2, sPar3, tN, DL.tTup, DL.tNil, DL.tCons, DL.tSub, iSeq, srcOf_tup, srcOf_fl, srcOf_kl, srcOf_ti, iRange1, iRange2, sFor, startD, List.map_cons, List.map_nil, List.length_cons, List.length_nil, List.replicate, List.cons_append, List.nil_append, List.getElem?_cons_zero, List.getElem?_cons_succ, List.set_cons_zero, List.set_cons_succ, dSub_int, dFdiv_int, dMod_int, dLt_int, dLe_int, dGt_int, dGe_int, dAddI_int, dSubI_int, dIsN_non, isN, dAdd_int, ll0, ll1, ll2, ll3, ll4, ll5, ll6, ll7, ll8, ll9, ll10, ll11, ll12, ll13, ll14, ll15, ll16, ll17, ll18, ll19, ll20, ll21, ll22, ll23, ll24, ll25, ll26, ll27, ll28, ll29, ll30, ll31, ll32, ll33, ll34, ll35, ll36, ll37, ll38, ll39, ll40, Nat.reduceSub, Nat.reduceAdd, Nat.reduceEqDiff, if_true, if_false, ifp_t, ifp_f, reduceIte, Bool.true_eq_false, Bool.false_eq_true, Option.map_some, Option.map_none, Option.bind_some, Option.bind_none, tSq, sSet2, seqOf_fl, seqOf_tup, seqOf_ti, L1__law_tree_row, r1, a1]
    have hsz : ∀ t ∈ cs, t.sz ≤ Tre.szs cs := by
      have : ∀ ts : List Tre, ∀ t ∈ ts, t.sz ≤ Tre.szs ts := by
        intro ts
        induction ts with
        | nil => intro t ht; simp at ht
        | cons a ts ih =>
          intro t ht
          rw [Tre.szs]
          rcases List.mem_cons.mp ht with rfl | ht
          · omega
          · have := ih t ht; omega
      exact this cs
    obtain ⟨y2, lp⟩ := loop cs [] none (by simp; omega) fun t ht => by have := hsz t ht; omega
    rw [List.nil_append] at lp
    have rl := Tre.rows_len cs
    rw [Tre.row, Tre.d]
    show fnC close 3 1 (B__law_tree_row (F__law_tree_row f)) [.tup (Tre.ds cs)] S = _
    refine fnC_rt rfl ?_ rfl
    have hst : startD 3 [D.tup (Tre.ds cs)] = [some (.tup (Tre.ds cs)), none, none] := rfl
    rw [hst]
    unfold B__law_tree_row
    have ln : ∀ S, bLen [.tup (Tre.ds cs)] S = .ok (.int (cs.length : Int)) S := fun S => by rw [bLen_tup, Tre.ds_len]
    have a1 : ∀ S, dAdd (ti (Tre.rows cs)) (.tup [.int (cs.length : Int)]) S = .ok (ti (Tre.rows cs ++ [(cs.length : Int)])) S := fun S => add_ti (Tre.rows cs) [(cs.length : Int)] (Nat.le_trans (show (Tre.rows cs).length + 1 ≤ 1001 by omega) (by decide)) S
    have lp' : forD yes (tN 2) (L1__law_tree_row (F__law_tree_row f)) sNil (Tre.ds cs) [some (.tup (Tre.ds cs)), some (.tup []), none] S = .nx [some (.tup (Tre.ds cs)), some (ti (Tre.rows cs)), y2] S := lp
    generalize L1__law_tree_row (F__law_tree_row f) = LL at *
    generalize Tre.ds cs = DS at *
    simp only [eVar, eC, eOp, eT, eAnd, eOr, eNot, eIf, eAndV, eOrV, eNotV, eCall, aNil, aCons, aStar, sOf, eTup, eFl, eLoc, eSl, oNone, oSome, iOf, eNeg, eChain, eMt, bOf, eDict0, eRev, eListRg, iZipD, sRaise1, sRaise0, eCallV, List.lookup, R.bind_ok, R.bind_er, R.bind_stuck, R.toS_ok, R.toS_er, R.toS_stuck, SR.next_nx, SR.next_rt, SR.next_er, SR.next_bk, SR.next_ct, SR.next_stuck, sNil, sSeq, sBrk, sCnt, sExp, sRet, sRetN, sIf, sSet, sAsg, sAug, sPar2, sPar3, tN, DL.tTup, DL.tNil, DL.tCons, DL.tSub, iSeq, srcOf_tup, srcOf_fl, srcOf_kl, srcOf_ti, iRange1, iRange2, sFor, startD, List.map_cons, List.map_nil, List.length_cons, List.length_nil, List.replicate, List.cons_append, List.nil_append, List.getElem?_cons_zero, List.getElem?_cons_succ, List.set_cons_zero, List.set_cons_succ, dSub_int, dFdiv_int, dMod_int, dLt_int, dLe_int, dGt_int, dGe_int, dAddI_int, dSubI_int, dIsN_non, isN, dAdd_int, ll0, ll1, ll2, ll3, ll4, ll5, ll6, ll7, ll8, ll9, ll10, ll11, ll12, ll13, ll14, ll15, ll16, ll17, ll18, ll19, ll20, ll21, ll22, ll23, ll24, ll25, ll26, ll27, ll28, ll29, ll30, ll31, ll32, ll33, ll34, ll35, ll36, ll37, ll38, ll39, ll40, Nat.reduceSub, Nat.reduceAdd, Nat.reduceEqDiff, if_true, if_false, ifp_t, ifp_f, reduceIte, Bool.true_eq_false, Bool.false_eq_true, Option.map_some, Option.map_none, Option.bind_some, Option.bind_none, tSq, sSet2, seqOf_fl, seqOf_tup, seqOf_ti, lp', ln, a1]
end DL
namespace DL
open PySem PySem.Spec L2
open PyProof.Rows hiding St
def L (l : List Nat) : Str := ⟨l.toArray⟩
theorem L_to (w : Str) : L w.cps.toList = w := by unfold L; simp
theorem L_len (l : List Nat) : (L l).length = l.length := by unfold L Str.length; simp
theorem L_app (a b : List Nat) : L a ++ L b = L (a ++ b) := by
  show (⟨a.toArray ++ b.toArray⟩ : Str) = ⟨(a ++ b).toArray⟩
  rw [List.append_toArray]
theorem L_inj {a b : List Nat} : L a = L b ↔ a = b := by
  refine ⟨fun h => ?_, fun h => by rw [h]⟩
  have : (L a).cps.toList = (L b).cps.toList := by rw [h]
  simpa [L] using this
theorem L_cps (l : List Nat) : (L l).cps.toList = l := by unfold L; simp
theorem cut_L_from (l : List Nat) (k : Nat) : cutS (L l) (some (k : Int)) none = L (l.drop k) := by
  unfold cutS
  rw [L_cps, L_len, HT.sIx_nat, HT.sIx_none]
  unfold L
  congr 2
  by_cases h : k ≤ l.length
  · rw [Nat.min_eq_left h, List.take_of_length_le (by rw [List.length_drop]; omega)]
  · rw [Nat.min_eq_right (by omega), List.drop_of_length_le (Nat.le_refl _), List.drop_of_length_le (by omega)]
    simp
theorem cut_L_to (l : List Nat) (k : Nat) : cutS (L l) none (some (k : Int)) = L (l.take k) := by
  unfold cutS
  rw [L_cps, L_len, HT.sIx_nat, HT.sIx_none]
  unfold L
  congr 1
  rw [List.drop_zero, Nat.sub_zero]
  by_cases h : k ≤ l.length
  · rw [Nat.min_eq_left h]
  · rw [Nat.min_eq_right (by omega), List.take_of_length_le (Nat.le_refl _), List.take_of_length_le (by omega)]
def lt (c : Nat) : Bool := decide (97 ≤ c) && decide (c ≤ 122)
theorem abc_list : abc.cps.toList = List.range' 97 26 := by decide +kernel
theorem in_abc (c : Nat) : (!(Builtin.Str.occurrences abc ⟨#[c]⟩ 0 abc.length 1).isEmpty) = lt c := by
  rw [StrLaws.found_one, abc_list]
  unfold lt
  rw [Bool.eq_iff_iff, Bool.and_eq_true, decide_eq_true_iff, decide_eq_true_iff, decide_eq_true_iff, List.mem_range'_1]
  omega
theorem sl_from_L (l : List Nat) (hl : l.length ≤ 10 ^ 6) (k : Nat) (S : Sto) : dSl mkFl (.str (L l)) (some (k : Int)) none S = .ok (.str (L (l.drop k))) S := by
  rw [sl_str (by rw [L_len]; exact hl), cut_L_from]
theorem sl_to_L (l : List Nat) (hl : l.length ≤ 10 ^ 6) (k : Nat) (S : Sto) : dSl mkFl (.str (L l)) none (some (k : Int)) S = .ok (.str (L (l.take k))) S := by
  rw [sl_str (by rw [L_len]; exact hl), cut_L_to]
theorem len_L (l : List Nat) (hl : l.length ≤ 10 ^ 6) (S : Sto) : bLen [.str (L l)] S = .ok (.int (l.length : Int)) S := by
  have : bLen [.str (L l)] S = .ok (.int ((L l).length : Nat)) S := ifp_pos (by rw [L_len]; exact Nat.le_trans hl (by decide))
  rw [this, L_len]
theorem eq_L (n : Bool) (a b : List Nat) (S : Sto) : dEq n (.str (L a)) (.str (L b)) S = .ok (.bl (if n then !decide (a = b) else decide (a = b))) S := by
  rw [dEq_str]
  have : decide (L a = L b) = decide (a = b) := by
    rw [Bool.eq_iff_iff, decide_eq_true_iff, decide_eq_true_iff]
    exact L_inj
  rw [this]
structure RS where
  r : List Nat
  row : List Int
  nm : List (List Nat)
  op : List (List Nat × Int)
def opD (q : List Nat × Int) : D := .tup [.str (L q.1), .int q.2]
def rdrS (S0 : Sto) (s : RS) : Sto := S0 ++ [.ins "TermReader" [("rest", .str (L s.r)), ("row", .loc (S0.length + 1)), ("names", .loc (S0.length + 2)), ("opened", .loc (S0.length + 3))], .lst (s.row.map D.int), .lst (s.nm.map fun n => .str (L n)), .lst (s.op.map opD)]
section
variable {S0 : Sto} {s : RS}
theorem rdrS_len : (rdrS S0 s).length = S0.length + 4 := by simp [rdrS]
theorem rdrS_0 : (rdrS S0 s)[S0.length]? = some (.ins "TermReader" [("rest", .str (L s.r)), ("row", .loc (S0.length + 1)), ("names", .loc (S0.length + 2)), ("opened", .loc (S0.length + 3))]) := by simp [rdrS]
theorem getI_rd : getI (rdrS S0 s) (.loc S0.length) = some (("TermReader" : Str), ([("rest", .str (L s.r)), ("row", .loc (S0.length + 1)), ("names", .loc (S0.length + 2)), ("opened", .loc (S0.length + 3))] : List (Str × D))) := getI_loc rdrS_0
theorem app_at (S0 l : Sto) (j : Nat) : (S0 ++ l)[S0.length + j]? = l[j]? := by
  rw [List.getElem?_append_right (by omega)]
  congr 1
  omega
theorem app_set (S0 l : Sto) (j : Nat) (o : Ob) : (S0 ++ l).set (S0.length + j) o = S0 ++ l.set j o := by
  rw [List.set_append_right _ _ (by omega)]
  congr 2
  omega
theorem rd_row : getL (rdrS S0 s) (S0.length + 1) = some (s.row.map D.int) := getL_of (app_at _ _ 1)
theorem rd_nm : getL (rdrS S0 s) (S0.length + 2) = some (s.nm.map fun n => .str (L n)) := getL_of (app_at _ _ 2)
theorem rd_op : getL (rdrS S0 s) (S0.length + 3) = some (s.op.map opD) := getL_of (app_at _ _ 3)
theorem rd_opQ : getQ (rdrS S0 s) (S0.length + 3) = some (s.op.map opD) := getQ_of (app_at _ _ 3)
theorem rd_rowQ : getQ (rdrS S0 s) (S0.length + 1) = some (s.row.map D.int) := getQ_of (app_at _ _ 1)
theorem rd_nmQ : getQ (rdrS S0 s) (S0.length + 2) = some (s.nm.map fun n => .str (L n)) := getQ_of (app_at _ _ 2)
theorem set_row (row : List Int) : (rdrS S0 s).set (S0.length + 1) (.lst (row.map D.int)) = rdrS S0 { s with row := row } := app_set _ _ 1 _
theorem set_nm (nm : List (List Nat)) : (rdrS S0 s).set (S0.length + 2) (.lst (nm.map fun n => .str (L n))) = rdrS S0 { s with nm := nm } := app_set _ _ 2 _
theorem set_op (op : List (List Nat × Int)) : (rdrS S0 s).set (S0.length + 3) (.lst (op.map opD)) = rdrS S0 { s with op := op } := app_set _ _ 3 _
theorem fld_rest : dFld ["TermReader"] "rest" (.loc S0.length) (rdrS S0 s) = .ok (.str (L s.r)) (rdrS S0 s) := by
  unfold dFld
  rw [getI_rd]
  rfl
theorem fld_row : dFld ["TermReader"] "row" (.loc S0.length) (rdrS S0 s) = .ok (.loc (S0.length + 1)) (rdrS S0 s) := by
  unfold dFld
  rw [getI_rd]
  rfl
theorem fld_nm : dFld ["TermReader"] "names" (.loc S0.length) (rdrS S0 s) = .ok (.loc (S0.length + 2)) (rdrS S0 s) := by
  unfold dFld
  rw [getI_rd]
  rfl
theorem fld_op : dFld ["TermReader"] "opened" (.loc S0.length) (rdrS S0 s) = .ok (.loc (S0.length + 3)) (rdrS S0 s) := by
  unfold dFld
  rw [getI_rd]
  rfl
theorem put_rest (r : List Nat) : setI ["TermReader"] "rest" (.loc S0.length) (.str (L r)) (rdrS S0 s) = some (rdrS S0 { s with r := r }) := by
  unfold setI
  simp only [rdrS_0]
  rw [if_pos ⟨rfl, by simp⟩]
  show some ((rdrS S0 s).set (S0.length + 0) _) = _
  unfold rdrS
  rw [app_set]
  rfl
theorem nil_op (n : Bool) : dEqY n (.loc (S0.length + 3)) (.fl []) (rdrS S0 s) = .ok (.bl (if n then !s.op.isEmpty else s.op.isEmpty)) (rdrS S0 s) := by
  show (match getQ (rdrS S0 s) (S0.length + 3) with
    | some xs => R.ok (D.bl (if n then !xs.isEmpty else xs.isEmpty)) (rdrS S0 s)
    | none => .stuck) = _
  rw [rd_opQ]
  show R.ok (D.bl (if n then !(s.op.map opD).isEmpty else (s.op.map opD).isEmpty)) (rdrS S0 s) = _
  rw [List.isEmpty_map]
theorem pop_op {op : List (List Nat × Int)} {q : List Nat × Int} (h : s.op = op ++ [q]) : mPop (.loc (S0.length + 3)) [] (rdrS S0 s) = .ok (opD q) (rdrS S0 { s with op := op }) := by
  have g := rd_op (S0 := S0) (s := s)
  rw [h, List.map_append] at g
  rw [pop_end g, set_op]
theorem app_op (q : List Nat × Int) (hl : s.op.length < 10 ^ 6) : mAppend (.loc (S0.length + 3)) [opD q] (rdrS S0 s) = .ok .non (rdrS S0 { s with op := s.op ++ [q] }) := by
  rw [append_at rd_op (by rw [List.length_map]; exact hl)]
  have := set_op (S0 := S0) (s := s) (s.op ++ [q])
  rw [List.map_append] at this
  exact congrArg _ this
theorem app_row (a : Int) (hl : s.row.length < 10 ^ 6) : mAppend (.loc (S0.length + 1)) [.int a] (rdrS S0 s) = .ok .non (rdrS S0 { s with row := s.row ++ [a] }) := by
  rw [append_at rd_row (by rw [List.length_map]; exact hl)]
  have := set_row (S0 := S0) (s := s) (s.row ++ [a])
  rw [List.map_append] at this
  exact congrArg _ this
theorem app_nm (a : List Nat) (hl : s.nm.length < 10 ^ 6) : mAppend (.loc (S0.length + 2)) [.str (L a)] (rdrS S0 s) = .ok .non (rdrS S0 { s with nm := s.nm ++ [a] }) := by
  rw [append_at rd_nm (by rw [List.length_map]; exact hl)]
  have := set_nm (S0 := S0) (s := s) (s.nm ++ [a])
  rw [List.map_append] at this
  exact congrArg _ this
end
theorem mth_rd {S0 : Sto} {m : Str} (hm : m ≠ "rest" ∧ m ≠ "row" ∧ m ≠ "names" ∧ m ≠ "opened") (s : RS) (F : Fn) : mthOf m [("TermReader", F)] (.loc S0.length) (rdrS S0 s) = some F := by
  unfold mthOf
  rw [getI_rd]
  obtain ⟨h1, h2, h3, h4⟩ := hm
  have e : ∀ a b : Str, a ≠ b → (a == b) = false := fun a b h => by simpa using h
  simp only [List.lookup, e _ _ h1, e _ _ h2, e _ _ h3, e _ _ h4, beq_self_eq_true]
def clo : List Nat → List Int → List (List Nat) → List (List Nat × Int) → RS
  | [], row, nm, op => ⟨[], row, nm, op⟩
  | c :: r, row, nm, op => if c = 41 then (match op.getLast? with
    | some q => clo r (row ++ [q.2]) (nm ++ [q.1]) op.dropLast
    | none => ⟨c :: r, row, nm, op⟩) else ⟨c :: r, row, nm, op⟩
def nxt (s : RS) : Bool × RS := match s.op.getLast? with
  | none => (false, s)
  | some q => if s.r.take 2 = [44, 32] then (true, ⟨s.r.drop 2, s.row, s.nm, s.op.dropLast ++ [(q.1, q.2 + 1)]⟩) else (false, s)
def aftT (s : RS) : Bool × RS := if (clo s.r s.row s.nm s.op).r = [] then (true, clo s.r s.row s.nm s.op) else nxt (clo s.r s.row s.nm s.op)
def rnm (s : RS) : Bool × RS :=
  if 1 ≤ (s.r.takeWhile lt).length ∧ (s.r.takeWhile lt).length ≤ 8 then
    (if (s.r.dropWhile lt).take 1 = [40] then (true, ⟨(s.r.dropWhile lt).drop 1, s.row, s.nm, s.op ++ [(s.r.takeWhile lt, 1)]⟩)
    else aftT ⟨s.r.dropWhile lt, s.row ++ [0], s.nm ++ [s.r.takeWhile lt], s.op⟩)
  else (false, ⟨s.r.dropWhile lt, s.row, s.nm, s.op⟩)
def fin1 (s : RS) : Bool := s.op.isEmpty && (decide (s.row.length ≤ 24) && decide (maxL s.row ≤ 5))
/-- the whole reading, by fuel -/
def trun : Nat → RS → Bool × RS
  | 0, s => (false, s)
  | f + 1, s => match rnm s with
    | (false, s') => (false, s')
    | (true, s') => if s'.r = [] then (fin1 s', s') else trun f s'
def Sm (M : Nat) (s : RS) : Prop := s.row.length + s.r.length ≤ M ∧ s.nm.length + s.r.length ≤ M ∧ s.op.length + s.r.length ≤ M
theorem Sm.less {M : Nat} {s t : RS} (h : Sm M s) (h1 : t.row.length + t.r.length ≤ s.row.length + s.r.length) (h2 : t.nm.length + t.r.length ≤ s.nm.length + s.r.length) (h3 : t.op.length + t.r.length ≤ s.op.length + s.r.length) : Sm M t := by
  obtain ⟨a, b, c⟩ := h
  exact ⟨by omega, by omega, by omega⟩
theorem last_split {α : Type} {l : List α} {q : α} (h : l.getLast? = some q) : l = l.dropLast ++ [q] := by
  have hne : l ≠ [] := by
    intro e
    rw [e] at h
    cases h
  have := List.dropLast_concat_getLast hne
  rw [List.getLast?_eq_some_getLast hne] at h
  cases h
  exact this.symm
theorem clo_less : ∀ (r : List Nat) (row : List Int) (nm : List (List Nat)) (op : List (List Nat × Int)), (clo r row nm op).row.length + (clo r row nm op).r.length ≤ row.length + r.length ∧ (clo r row nm op).nm.length + (clo r row nm op).r.length ≤ nm.length + r.length ∧ (clo r row nm op).op.length + (clo r row nm op).r.length ≤ op.length + r.length ∧ (clo r row nm op).r.length ≤ r.length ∧ row.length ≤ (clo r row nm op).row.length
  | [], row, nm, op => by rw [clo]; exact ⟨Nat.le_refl _, Nat.le_refl _, Nat.le_refl _, Nat.le_refl _, Nat.le_refl _⟩
  | c :: r, row, nm, op => by
    rw [clo]
    split
    · split
      · rename_i q hq
        have e := congrArg List.length (last_split hq)
        rw [List.length_append, List.length_singleton] at e
        obtain ⟨h1, h2, h3, h4, h5⟩ := clo_less r (row ++ [q.2]) (nm ++ [q.1]) op.dropLast
        rw [List.length_append, List.length_singleton] at h1 h2 h5
        rw [List.length_cons]
        omega
      · exact ⟨Nat.le_refl _, Nat.le_refl _, Nat.le_refl _, Nat.le_refl _, Nat.le_refl _⟩
    · exact ⟨Nat.le_refl _, Nat.le_refl _, Nat.le_refl _, Nat.le_refl _, Nat.le_refl _⟩
theorem nxt_less (s : RS) : (nxt s).2.row = s.row ∧ (nxt s).2.nm = s.nm ∧ (nxt s).2.op.length = s.op.length ∧ (nxt s).2.r.length ≤ s.r.length := by
  unfold nxt
  split
  · exact ⟨rfl, rfl, rfl, Nat.le_refl _⟩
  · rename_i q hq
    have e := congrArg List.length (last_split hq)
    rw [List.length_append, List.length_singleton] at e
    split
    · refine ⟨rfl, rfl, ?_, ?_⟩
      · show (s.op.dropLast ++ [(q.1, q.2 + 1)]).length = _
        rw [List.length_append, List.length_singleton]; omega
      · show (s.r.drop 2).length ≤ _
        rw [List.length_drop]; omega
    · exact ⟨rfl, rfl, rfl, Nat.le_refl _⟩
theorem aftT_less (s : RS) : (aftT s).2.row.length + (aftT s).2.r.length ≤ s.row.length + s.r.length ∧ (aftT s).2.nm.length + (aftT s).2.r.length ≤ s.nm.length + s.r.length ∧ (aftT s).2.op.length + (aftT s).2.r.length ≤ s.op.length + s.r.length ∧ (aftT s).2.r.length ≤ s.r.length ∧ s.row.length ≤ (aftT s).2.row.length := by
  obtain ⟨c1, c2, c3, c4, c5⟩ := clo_less s.r s.row s.nm s.op
  unfold aftT
  split
  · exact ⟨c1, c2, c3, c4, c5⟩
  · obtain ⟨n1, n2, n3, n4⟩ := nxt_less (clo s.r s.row s.nm s.op)
    rw [n1, n2, n3]
    omega
theorem span_len (l : List Nat) : (l.takeWhile lt).length + (l.dropWhile lt).length = l.length := by
  rw [← List.length_append, List.takeWhile_append_dropWhile]
theorem rnm_less (s : RS) : (rnm s).2.row.length + (rnm s).2.r.length ≤ s.row.length + s.r.length ∧ (rnm s).2.nm.length + (rnm s).2.r.length ≤ s.nm.length + s.r.length ∧ (rnm s).2.op.length + (rnm s).2.r.length ≤ s.op.length + s.r.length ∧ ((rnm s).1 = true → (rnm s).2.r.length < s.r.length) := by
  have sp := span_len s.r
  unfold rnm
  split
  · rename_i hn
    split
    · refine ⟨?_, ?_, ?_, fun _ => ?_⟩ <;> simp only [List.length_append, List.length_singleton, List.length_drop] <;> omega
    · obtain ⟨a1, a2, a3, a4, a5⟩ := aftT_less ⟨s.r.dropWhile lt, s.row ++ [0], s.nm ++ [s.r.takeWhile lt], s.op⟩
      simp only [List.length_append, List.length_singleton] at a1 a2 a3 a4
      refine ⟨?_, ?_, ?_, fun _ => ?_⟩ <;> omega
  · refine ⟨?_, ?_, ?_, fun h => by cases h⟩ <;> simp only <;> omega
theorem rnm_sm {M : Nat} {s : RS} (h : Sm M s) : Sm M (rnm s).2 := by
  obtain ⟨a, b, c, _⟩ := rnm_less s
  exact h.less a b c
theorem trun_fuel : ∀ (f g : Nat) (s : RS), s.r.length < f → s.r.length < g → trun f s = trun g s
  | 0, g, s, h, _ => by omega
  | f + 1, 0, s, _, h => by omega
  | f + 1, g + 1, s, hf, hg => by
    rw [trun, trun]
    have hl := (rnm_less s).2.2.2
    cases e : rnm s with
    | mk b s' =>
      rw [e] at hl
      cases b with
      | false => rfl
      | true =>
        simp only
        split
        · rfl
        · have := hl rfl
          exact trun_fuel f g s' (by simp only at this; omega) (by simp only at this; omega)
end DL
namespace DL
open PySem PySem.Spec L2
open PyProof.Rows hiding St
theorem kw1 : kitB "NoneType" "str" = some false := by decide +kernel
theorem kw2 : kitB "bool" "str" = some false := by decide +kernel
theorem kw3 : kitB "int" "str" = some false := by decide +kernel
theorem kw4 : kitB "str" "str" = some true := by decide +kernel
theorem kw5 : kitB "tuple" "str" = some false := by decide +kernel
theorem kw6 : kitB "list" "str" = some false := by decide +kernel
theorem kw7 : kitB "dict" "str" = some false := by decide +kernel
def isStr0 : D → Bool
  | .str _ => true
  | _ => false
theorem isi_strA {v : D} (h : pl v = true) (S : Sto) : bIsi [v, .ty "str"] S = .ok (.bl (isStr0 v)) S := by
  cases v <;> first | (simp [pl] at h; done) | (simp only [bIsi, tyOf, kw1, kw2, kw3, kw4, kw5, kw6, kw7, isStr0])
def jnT : List (List Nat) → List Nat
  | [] => []
  | [x] => x
  | x :: y :: r => x ++ [44, 32] ++ jnT (y :: r)
mutual
/-- the text of a tree whose nodes have names (the names of the row's tokens, in its order) -/
def Tre.tx : Tre → List (List Nat) → List Nat
  | .nd cs, ns => (ns.drop (Tre.szs cs)).headD [] ++ (if cs.isEmpty then [] else 40 :: jnT (Tre.txs cs ns) ++ [41])
def Tre.txs : List Tre → List (List Nat) → List (List Nat)
  | [], _ => []
  | t :: ts, ns => t.tx ns :: Tre.txs ts (ns.drop t.sz)
end
theorem Tre.txs_len : ∀ (ts : List Tre) (ns : List (List Nat)), (Tre.txs ts ns).length = ts.length
  | [], _ => rfl
  | t :: ts, ns => by rw [Tre.txs, List.length_cons, Tre.txs_len ts, List.length_cons]
theorem join_L : ∀ l : List (List Nat), Str.join cm (l.map L) = L (jnT l)
  | [] => rfl
  | [x] => rfl
  | x :: y :: r => by
    show L x ++ cm ++ Str.join cm ((y :: r).map L) = _
    rw [join_L (y :: r), show cm = L [44, 32] from rfl, L_app, L_app]
    rfl
theorem term_L (nm : List Nat) (ps : List (List Nat)) : term (L nm) (ps.map L) = L (nm ++ (if ps.isEmpty then [] else 40 :: jnT ps ++ [41])) := by
  unfold term
  rw [List.isEmpty_map]
  cases h : ps.isEmpty with
  | true => simp
  | false =>
    rw [if_neg (by decide), join_L, show po = L [40] from rfl, show pc = L [41] from rfl, L_app, L_app, L_app]
    simp
mutual
theorem Tre.fold_tx : ∀ (t : Tre) (ns : List (List Nat)) (f : List Str), t.sz ≤ ns.length → (t.row.zip ((ns.take t.sz).map L)).foldl tstk f = f ++ [L (t.tx ns)]
  | .nd cs, ns, f, h => by
    rw [Tre.sz] at h
    rw [Tre.row, Tre.sz]
    have e1 : ns.take (1 + Tre.szs cs) = ns.take (Tre.szs cs) ++ [(ns.drop (Tre.szs cs)).headD []] := by
      rw [Nat.add_comm, List.take_succ_eq_append_getElem (by omega)]
      congr 2
      rw [List.headD_eq_head?_getD, List.head?_drop, List.getElem?_eq_getElem (by omega)]
      rfl
    rw [e1, List.map_append, List.zip_append (by rw [Tre.rows_len, List.length_map, List.length_take]; omega), List.foldl_append, Tre.fold_txs cs ns f (by omega), Tre.tx]
    show tstk (f ++ (Tre.txs cs ns).map L) ((cs.length : Int), L ((ns.drop (Tre.szs cs)).headD [])) = _
    unfold tstk
    have hl := Tre.txs_len cs ns
    have e : (f ++ (Tre.txs cs ns).map L).length - (cs.length : Int).toNat = f.length := by rw [List.length_append, List.length_map, hl]; omega
    rw [e, List.take_left, List.drop_left, term_L]
    congr 4
    have : (Tre.txs cs ns).isEmpty = cs.isEmpty := by
      cases cs <;> rfl
    rw [this]
theorem Tre.fold_txs : ∀ (ts : List Tre) (ns : List (List Nat)) (f : List Str), Tre.szs ts ≤ ns.length → ((Tre.rows ts).zip ((ns.take (Tre.szs ts)).map L)).foldl tstk f = f ++ (Tre.txs ts ns).map L
  | [], ns, f, _ => by rw [Tre.rows, Tre.txs]; simp
  | t :: ts, ns, f, h => by
    rw [Tre.szs] at h
    rw [Tre.rows, Tre.szs, Tre.txs]
    have e1 : ns.take (t.sz + Tre.szs ts) = ns.take t.sz ++ (ns.drop t.sz).take (Tre.szs ts) := by rw [List.take_add]
    rw [e1, List.map_append, List.zip_append (by rw [Tre.row_len, List.length_map, List.length_take]; omega), List.foldl_append, Tre.fold_tx t ns f (by omega), Tre.fold_txs ts (ns.drop t.sz) _ (by rw [List.length_drop]; omega)]
    simp
end
theorem Tre.tms_tx (t : Tre) (ns : List (List Nat)) (h : ns.length = t.sz) : tms (t.row.zip (ns.map L)) = [L (t.tx ns)] := by
  unfold tms
  have := Tre.fold_tx t ns [] (by omega)
  rw [List.take_of_length_le (by omega)] at this
  exact this
def RUN (s : RS) : Bool × RS := trun (s.r.length + 1) s
def FIN (s : RS) : Bool × RS := match aftT s with
  | (false, s') => (false, s')
  | (true, s') => if s'.r = [] then (fin1 s', s') else RUN s'
/-- a name -/
def nmL (l : List Nat) : Prop := (∀ c ∈ l, lt c = true) ∧ 1 ≤ l.length ∧ l.length ≤ 8
/-- what may follow a term -/
def folL (k : List Nat) : Prop := k = [] ∨ ∃ r, k = 41 :: r ∨ k = 44 :: r
theorem span_name {n k : List Nat} (hn : nmL n) (hk : k = [] ∨ ∃ c r, k = c :: r ∧ lt c = false) : (n ++ k).takeWhile lt = n ∧ (n ++ k).dropWhile lt = k := by
  rw [List.takeWhile_append_of_pos hn.1, List.dropWhile_append_of_pos hn.1]
  rcases hk with rfl | ⟨c, r, rfl, hc⟩
  · simp
  · rw [List.takeWhile_cons_of_neg (by rw [hc]; decide), List.dropWhile_cons_of_neg (by rw [hc]; decide)]
    simp
theorem run_rnm {s s' : RS} (h : rnm s = (true, s')) : RUN s = if s'.r = [] then (fin1 s', s') else RUN s' := by
  unfold RUN
  have hl := (rnm_less s).2.2.2
  rw [h] at hl
  rw [trun, h]
  simp only
  split
  · rfl
  · exact trun_fuel _ _ s' (hl rfl) (Nat.lt_succ_self _)
theorem run_leaf {n k : List Nat} (hn : nmL n) (hk : folL k) (row : List Int) (nm : List (List Nat)) (op : List (List Nat × Int)) : RUN ⟨n ++ k, row, nm, op⟩ = FIN ⟨k, row ++ [0], nm ++ [n], op⟩ := by
  obtain ⟨e1, e2⟩ := span_name (n := n) (k := k) hn (by
    rcases hk with rfl | ⟨r, rfl | rfl⟩
    · exact .inl rfl
    · exact .inr ⟨41, r, rfl, by decide⟩
    · exact .inr ⟨44, r, rfl, by decide⟩)
  have h40 : k.take 1 ≠ [40] := by
    rcases hk with rfl | ⟨r, rfl | rfl⟩ <;> simp
  have hr : rnm ⟨n ++ k, row, nm, op⟩ = aftT ⟨k, row ++ [0], nm ++ [n], op⟩ := by
    unfold rnm
    simp only [e1, e2]
    rw [if_pos ⟨hn.2.1, hn.2.2⟩, if_neg h40]
  unfold FIN
  cases ha : aftT ⟨k, row ++ [0], nm ++ [n], op⟩ with
  | mk b s' =>
    rw [ha] at hr
    cases b with
    | true => exact run_rnm hr
    | false =>
      show trun _ _ = _
      rw [trun, hr]
theorem run_node {n X : List Nat} (hn : nmL n) (hX : X ≠ []) (row : List Int) (nm : List (List Nat)) (op : List (List Nat × Int)) : RUN ⟨n ++ 40 :: X, row, nm, op⟩ = RUN ⟨X, row, nm, op ++ [(n, 1)]⟩ := by
  obtain ⟨e1, e2⟩ := span_name (n := n) (k := 40 :: X) hn (.inr ⟨40, X, rfl, by decide⟩)
  have hr : rnm ⟨n ++ 40 :: X, row, nm, op⟩ = (true, ⟨X, row, nm, op ++ [(n, 1)]⟩) := by
    unfold rnm
    simp only [e1, e2]
    rw [if_pos ⟨hn.2.1, hn.2.2⟩, if_pos (show List.take 1 (40 :: X) = [40] from rfl)]
    rfl
  rw [run_rnm hr]
  exact if_neg hX
theorem fin_close (k : List Nat) (row : List Int) (nm : List (List Nat)) (op : List (List Nat × Int)) (n : List Nat) (a : Int) : FIN ⟨41 :: k, row, nm, op ++ [(n, a)]⟩ = FIN ⟨k, row ++ [a], nm ++ [n], op⟩ := by
  unfold FIN aftT
  simp only
  have : clo (41 :: k) row nm (op ++ [(n, a)]) = clo k (row ++ [a]) (nm ++ [n]) op := by
    rw [clo, if_pos rfl, List.getLast?_append]
    simp
  rw [this]
theorem fin_next {X : List Nat} (hX : X ≠ []) (row : List Int) (nm : List (List Nat)) (op : List (List Nat × Int)) (n : List Nat) (a : Int) : FIN ⟨44 :: 32 :: X, row, nm, op ++ [(n, a)]⟩ = RUN ⟨X, row, nm, op ++ [(n, a + 1)]⟩ := by
  unfold FIN aftT
  simp only
  have e : clo (44 :: 32 :: X) row nm (op ++ [(n, a)]) = ⟨44 :: 32 :: X, row, nm, op ++ [(n, a)]⟩ := by
    rw [clo, if_neg (by decide)]
  rw [e]
  have en : nxt ⟨44 :: 32 :: X, row, nm, op ++ [(n, a)]⟩ = (true, ⟨X, row, nm, op ++ [(n, a + 1)]⟩) := by
    unfold nxt
    simp
  simp only [reduceCtorEq, if_false, en]
  exact if_neg hX
theorem jnT_ne : ∀ {l : List (List Nat)}, l ≠ [] → (∀ x ∈ l, x ≠ []) → jnT l ≠ []
  | [], h, _ => absurd rfl h
  | [x], _, h => h x (by simp)
  | x :: y :: r, _, h => by
    rw [jnT]
    simp
theorem Tre.tx_ne (t : Tre) (ns : List (List Nat)) (hs : t.sz ≤ ns.length) (hn : ∀ n ∈ ns, nmL n) : t.tx ns ≠ [] := by
  cases t with
  | nd cs =>
    rw [Tre.sz] at hs
    rw [Tre.tx]
    have hm : (ns.drop (Tre.szs cs)).headD [] ∈ ns := by
      rw [List.headD_eq_head?_getD, List.head?_drop, List.getElem?_eq_getElem (by omega)]
      exact List.getElem_mem _
    have := (hn _ hm).2.1
    intro e
    have e2 := congrArg List.length e
    rw [List.length_append] at e2
    simp only [List.length_nil] at e2
    omega
theorem Tre.txs_ne : ∀ (ts : List Tre) (ns : List (List Nat)), Tre.szs ts ≤ ns.length → (∀ n ∈ ns, nmL n) → ∀ x ∈ Tre.txs ts ns, x ≠ []
  | [], ns, _, _, x, hx => by simp [Tre.txs] at hx
  | t :: ts, ns, hs, hn, x, hx => by
    rw [Tre.szs] at hs
    rw [Tre.txs] at hx
    rcases List.mem_cons.mp hx with rfl | hx
    · exact t.tx_ne ns (by omega) hn
    · exact Tre.txs_ne ts (ns.drop t.sz) (by rw [List.length_drop]; omega) (fun n h => hn n (List.mem_of_mem_drop h)) x hx
mutual
theorem Tre.read : ∀ (t : Tre) (ns : List (List Nat)) (k : List Nat) (row : List Int) (nm : List (List Nat)) (op : List (List Nat × Int)), t.sz ≤ ns.length → (∀ n ∈ ns, nmL n) → folL k →
    RUN ⟨t.tx ns ++ k, row, nm, op⟩ = FIN ⟨k, row ++ t.row, nm ++ ns.take t.sz, op⟩
  | .nd cs, ns, k, row, nm, op, hs, hn, hk => by
    rw [Tre.sz] at hs
    rw [Tre.tx, Tre.row, Tre.sz]
    have e1 : ns.take (1 + Tre.szs cs) = ns.take (Tre.szs cs) ++ [(ns.drop (Tre.szs cs)).headD []] := by
      rw [Nat.add_comm, List.take_succ_eq_append_getElem (by omega)]
      congr 2
      rw [List.headD_eq_head?_getD, List.head?_drop, List.getElem?_eq_getElem (by omega)]
      rfl
    have hm : (ns.drop (Tre.szs cs)).headD [] ∈ ns := by
      rw [List.headD_eq_head?_getD, List.head?_drop, List.getElem?_eq_getElem (by omega)]
      exact List.getElem_mem _
    rw [e1]
    generalize (ns.drop (Tre.szs cs)).headD [] = N at *
    cases hc : cs with
    | nil =>
      rw [show ([] : List Tre).isEmpty = true from rfl, if_pos rfl, List.append_nil, run_leaf (hn N hm) hk]
      simp [Tre.rows, Tre.szs]
    | cons c r =>
      rw [← hc]
      have he : cs.isEmpty = false := by rw [hc]; rfl
      have hx : Tre.txs cs ns ≠ [] := by rw [hc, Tre.txs]; simp
      have hj := jnT_ne hx (Tre.txs_ne cs ns (by omega) hn)
      rw [he, if_neg (by decide)]
      have ea : N ++ (40 :: jnT (Tre.txs cs ns) ++ [41]) ++ k = N ++ 40 :: (jnT (Tre.txs cs ns) ++ 41 :: k) := by simp
      rw [ea, run_node (hn N hm) (by intro z; exact hj (List.append_eq_nil_iff.mp z).1)]
      rw [Tre.reads cs ns k row nm op N 1 (by rw [hc]; simp) (by omega) hn hk]
      have : (1 : Int) + (cs.length : Int) - 1 = (cs.length : Int) := by omega
      rw [this]
      simp [List.append_assoc]
theorem Tre.reads : ∀ (ts : List Tre) (ns : List (List Nat)) (k : List Nat) (row : List Int) (nm : List (List Nat)) (op : List (List Nat × Int)) (n : List Nat) (a : Int), ts ≠ [] → Tre.szs ts ≤ ns.length → (∀ n ∈ ns, nmL n) → folL k →
    RUN ⟨jnT (Tre.txs ts ns) ++ 41 :: k, row, nm, op ++ [(n, a)]⟩ = FIN ⟨k, row ++ Tre.rows ts ++ [a + (ts.length : Int) - 1], nm ++ ns.take (Tre.szs ts) ++ [n], op⟩
  | [], ns, k, row, nm, op, n, a, h, _, _, _ => absurd rfl h
  | [t], ns, k, row, nm, op, n, a, _, hs, hn, hk => by
    rw [Tre.szs, Tre.szs] at hs
    rw [Tre.txs, Tre.txs, jnT, Tre.read t ns (41 :: k) row nm (op ++ [(n, a)]) (by omega) hn (.inr ⟨k, .inl rfl⟩), fin_close]
    simp only [Tre.rows, Tre.szs, List.append_nil, Nat.add_zero, List.length_singleton]
    have : a + ((1 : Nat) : Int) - 1 = a := by omega
    rw [this]
  | t :: t2 :: r, ns, k, row, nm, op, n, a, _, hs, hn, hk => by
    rw [Tre.szs] at hs
    have hs2 : Tre.szs (t2 :: r) ≤ (ns.drop t.sz).length := by rw [List.length_drop]; omega
    have hn2 : ∀ n ∈ ns.drop t.sz, nmL n := fun n h => hn n (List.mem_of_mem_drop h)
    have hx : Tre.txs (t2 :: r) (ns.drop t.sz) ≠ [] := by rw [Tre.txs]; simp
    have hj := jnT_ne hx (Tre.txs_ne _ _ hs2 hn2)
    have ej : jnT (Tre.txs (t :: t2 :: r) ns) ++ 41 :: k = t.tx ns ++ 44 :: 32 :: (jnT (Tre.txs (t2 :: r) (ns.drop t.sz)) ++ 41 :: k) := by
      rw [Tre.txs, Tre.txs, jnT]
      simp
    rw [ej, Tre.read t ns _ row nm (op ++ [(n, a)]) (by omega) hn (.inr ⟨_, .inr rfl⟩), fin_next (by intro z; exact hj (List.append_eq_nil_iff.mp z).1)]
    rw [Tre.reads (t2 :: r) (ns.drop t.sz) k (row ++ t.row) (nm ++ ns.take t.sz) op n (a + 1) (by simp) hs2 hn2 hk]
    have e3 : ns.take (t.sz + Tre.szs (t2 :: r)) = ns.take t.sz ++ (ns.drop t.sz).take (Tre.szs (t2 :: r)) := by rw [List.take_add]
    have e4 : a + 1 + ((t2 :: r).length : Int) - 1 = a + ((t :: t2 :: r).length : Int) - 1 := by simp only [List.length_cons]; omega
    rw [e4, show Tre.rows (t :: t2 :: r) = t.row ++ Tre.rows (t2 :: r) by rw [Tre.rows], show Tre.szs (t :: t2 :: r) = t.sz + Tre.szs (t2 :: r) by rw [Tre.szs], e3]
    simp only [List.append_assoc]
end
mutual
theorem Tre.tx_len : ∀ (t : Tre) (ns : List (List Nat)), (∀ n ∈ ns, nmL n) → (t.tx ns).length + 2 ≤ 12 * t.sz
  | .nd cs, ns, hn => by
    rw [Tre.tx, Tre.sz]
    have h1 : ((ns.drop (Tre.szs cs)).headD []).length ≤ 8 := by
      rw [List.headD_eq_head?_getD, List.head?_drop]
      cases e : ns[Tre.szs cs]? with
      | none => simp
      | some n => exact (hn n (List.mem_of_getElem? e)).2.2
    have h2 := Tre.txs_len2 cs ns hn
    rw [List.length_append]
    split
    · simp only [List.length_nil]; omega
    · simp only [List.length_append, List.length_cons, List.length_nil]
      omega
theorem Tre.txs_len2 : ∀ (ts : List Tre) (ns : List (List Nat)), (∀ n ∈ ns, nmL n) → (jnT (Tre.txs ts ns)).length ≤ 12 * Tre.szs ts
  | [], ns, _ => by simp [Tre.txs, jnT]
  | [t], ns, hn => by
    rw [Tre.txs, Tre.txs, jnT, Tre.szs, Tre.szs]
    have := Tre.tx_len t ns hn
    omega
  | t :: t2 :: r, ns, hn => by
    have h1 := Tre.tx_len t ns hn
    have h2 := Tre.txs_len2 (t2 :: r) (ns.drop t.sz) fun n h => hn n (List.mem_of_mem_drop h)
    rw [Tre.szs]
    rw [Tre.txs] at h2 ⊢
    rw [Tre.txs, jnT]
    simp only [List.length_append, List.length_cons, List.length_nil] at h2 ⊢
    omega
end
end DL
namespace DL
open PySem PySem.Spec L2
open PyProof.Rows hiding St
theorem nm_name {w : Str} (h : Nm w) : nmL w.cps.toList := by
  refine ⟨fun c hc => ?_, ?_, ?_⟩
  · have := h.gt.lt c hc
    unfold lt
    rw [decide_eq_true this.1, decide_eq_true this.2]
    rfl
  · have := h.pos
    simp only [Str.length] at this
    simp only [Array.length_toList]
    exact this
  · have := h.gt.len
    simpa [Str.length] using this
end DL
namespace DL
open PySem PySem.Spec L2
open PyProof.Rows hiding St
end DL
namespace DL
open PySem PySem.Spec L2
open PyProof.Rows hiding St
abbrev Rd3 := List Int × List (List Nat) × List Nat
mutual
/-- a term at the beginning of a text: its row, its names, the rest -/
def rdP : Nat → List Nat → Option Rd3
  | 0, _ => none
  | f + 1, r => if 1 ≤ (r.takeWhile lt).length ∧ (r.takeWhile lt).length ≤ 8 then (match r.dropWhile lt with
    | c :: r2 => if c = 40 then (prt f r2 0).map (fun q => (q.1, q.2.1 ++ [r.takeWhile lt], q.2.2)) else some ([0], [r.takeWhile lt], c :: r2)
    | [] => some ([0], [r.takeWhile lt], [])) else none
/-- the parts behind a parenthesis, and how many there are -/
def prt : Nat → List Nat → Int → Option Rd3
  | 0, _, _ => none
  | f + 1, r, k => match rdP f r with
    | none => none
    | some (row, nm, r2) => if r2.take 2 = [44, 32] then (prt f (r2.drop 2) (k + 1)).map (fun q => (row ++ q.1, nm ++ q.2.1, q.2.2))
      else if r2.take 1 = [41] then some (row ++ [k + 1], nm, r2.drop 1) else none
end
def T (s : RS) : Bool × RS := trun (s.r.length + 1) s
/-- behind a term -/
def AT (s : RS) : Bool × RS := match aftT s with
  | (false, s') => (false, s')
  | (true, s') => if s'.r = [] then (fin1 s', s') else T s'
theorem T_eq (s : RS) : T s = (match rnm s with
    | (false, s') => (false, s')
    | (true, s') => if s'.r = [] then (fin1 s', s') else T s') := by
  unfold T
  rw [trun]
  have hl := (rnm_less s).2.2.2
  cases e : rnm s with
  | mk b s' =>
    rw [e] at hl
    cases b with
    | false => rfl
    | true =>
      simp only
      by_cases h : s'.r = []
      · rw [if_pos h, if_pos h]
      · rw [if_neg h, if_neg h]
        exact trun_fuel _ _ _ (hl rfl) (by omega)
theorem AT_nil (row : List Int) (nm : List (List Nat)) (op : List (List Nat × Int)) : AT ⟨[], row, nm, op⟩ = (fin1 ⟨[], row, nm, op⟩, ⟨[], row, nm, op⟩) := by
  unfold AT aftT
  rw [clo]
  simp
theorem AT_close (r : List Nat) (row : List Int) (nm : List (List Nat)) (op : List (List Nat × Int)) (x : List Nat) (k : Int) : AT ⟨41 :: r, row, nm, op ++ [(x, k)]⟩ = AT ⟨r, row ++ [k], nm ++ [x], op⟩ := by
  have e : clo (41 :: r) row nm (op ++ [(x, k)]) = clo r (row ++ [k]) (nm ++ [x]) op := by
    rw [clo, if_pos rfl, List.getLast?_concat, List.dropLast_concat]
  unfold AT aftT
  simp only [e]
theorem clo_stop {r : List Nat} (h : r.take 1 ≠ [41]) (row : List Int) (nm : List (List Nat)) (op : List (List Nat × Int)) : clo r row nm op = ⟨r, row, nm, op⟩ := by
  cases r with
  | nil => rw [clo]
  | cons c r =>
    rw [clo, if_neg]
    rintro rfl
    exact h rfl
theorem AT_next {r : List Nat} (h : r.take 2 = [44, 32]) (row : List Int) (nm : List (List Nat)) (op : List (List Nat × Int)) (x : List Nat) (k : Int) : AT ⟨r, row, nm, op ++ [(x, k)]⟩ = (if r.drop 2 = [] then (fin1 ⟨r.drop 2, row, nm, op ++ [(x, k + 1)]⟩, ⟨r.drop 2, row, nm, op ++ [(x, k + 1)]⟩) else T ⟨r.drop 2, row, nm, op ++ [(x, k + 1)]⟩) := by
  have h1 : r.take 1 ≠ [41] := by
    intro e
    cases r with
    | nil => cases h
    | cons c r =>
      cases r with
      | nil => cases h
      | cons d r =>
        simp only [List.take_succ_cons, List.take_zero, List.cons.injEq] at e h
        omega
  have h2 : r ≠ [] := by rintro rfl; cases h
  have e : aftT ⟨r, row, nm, op ++ [(x, k)]⟩ = (true, ⟨r.drop 2, row, nm, op ++ [(x, k + 1)]⟩) := by
    unfold aftT
    simp only [clo_stop h1, if_neg h2]
    unfold nxt
    simp only [List.getLast?_concat, if_pos h, List.dropLast_concat]
  unfold AT
  rw [e]
theorem AT_bad {r : List Nat} (h : r.take 2 ≠ [44, 32]) (h1 : r.take 1 ≠ [41]) (row : List Int) (nm : List (List Nat)) (op : List (List Nat × Int)) (x : List Nat) (k : Int) : (AT ⟨r, row, nm, op ++ [(x, k)]⟩).1 = false := by
  by_cases h2 : r = []
  · subst h2
    rw [AT_nil]
    simp [fin1]
  have e : aftT ⟨r, row, nm, op ++ [(x, k)]⟩ = (false, ⟨r, row, nm, op ++ [(x, k)]⟩) := by
    unfold aftT
    simp only [clo_stop h1, if_neg h2]
    unfold nxt
    simp only [List.getLast?_concat, if_neg h]
  unfold AT
  rw [e]
theorem AT_top {r : List Nat} (h2 : r ≠ []) (row : List Int) (nm : List (List Nat)) : (AT ⟨r, row, nm, []⟩).1 = false := by
  have ec : clo r row nm [] = ⟨r, row, nm, []⟩ := by
    cases r with
    | nil => rw [clo]
    | cons c r =>
      rw [clo]
      split <;> rfl
  have e : aftT ⟨r, row, nm, []⟩ = (false, ⟨r, row, nm, []⟩) := by
    unfold aftT
    simp only [ec, if_neg h2]
    rfl
  unfold AT
  rw [e]
/-- what the reader tells, by the plain reading -/
def Tells (p : Option Rd3) (x : Bool × RS) (g : Rd3 → RS) : Prop := match p with
  | some q => x = AT (g q)
  | none => x.1 = false
mutual
theorem rd_T : ∀ (f : Nat) (r : List Nat) (row : List Int) (nm : List (List Nat)) (op : List (List Nat × Int)), 2 * r.length + 1 ≤ f → Tells (rdP f r) (T ⟨r, row, nm, op⟩) fun q => ⟨q.2.2, row ++ q.1, nm ++ q.2.1, op⟩
  | 0, r, _, _, _, h => by omega
  | f + 1, r, row, nm, op, h => by
    have sp := span_len r
    by_cases hn : 1 ≤ (r.takeWhile lt).length ∧ (r.takeWhile lt).length ≤ 8
    · cases hd : r.dropWhile lt with
      | nil =>
        have e1 : rdP (f + 1) r = some ([0], [r.takeWhile lt], []) := by rw [rdP, if_pos hn, hd]
        have e2 : rnm ⟨r, row, nm, op⟩ = aftT ⟨[], row ++ [0], nm ++ [r.takeWhile lt], op⟩ := by
          unfold rnm
          simp only [if_pos hn, hd]
          rfl
        rw [e1]
        show T ⟨r, row, nm, op⟩ = AT ⟨[], row ++ [0], nm ++ [r.takeWhile lt], op⟩
        rw [T_eq, e2]; rfl
      | cons c r2 =>
        by_cases hc : c = 40
        · subst hc
          have e1 : rdP (f + 1) r = (prt f r2 0).map (fun q => (q.1, q.2.1 ++ [r.takeWhile lt], q.2.2)) := by rw [rdP, if_pos hn, hd]; simp
          have e2 : rnm ⟨r, row, nm, op⟩ = (true, ⟨r2, row, nm, op ++ [(r.takeWhile lt, 1)]⟩) := by
            unfold rnm
            simp only [if_pos hn, hd]
            rfl
          rw [hd, List.length_cons] at sp
          have ih := prt_T f r2 0 row nm op (r.takeWhile lt) (by omega)
          rw [e1, T_eq, e2]
          simp only
          by_cases hr : r2 = []
          · subst hr
            rw [if_pos rfl]
            have : prt f [] 0 = none := by
              cases f with
              | zero => rfl
              | succ f =>
                rw [prt]
                cases f with
                | zero => rfl
                | succ f => rfl
            rw [this]
            show fin1 _ = false
            simp [fin1]
          · rw [if_neg hr]
            cases hp : prt f r2 0 with
            | none => rw [hp] at ih; exact ih
            | some q =>
              rw [hp] at ih
              show T _ = AT ⟨q.2.2, row ++ q.1, nm ++ (q.2.1 ++ [r.takeWhile lt]), op⟩
              rw [← List.append_assoc]
              exact ih
        · have e1 : rdP (f + 1) r = some ([0], [r.takeWhile lt], c :: r2) := by rw [rdP, if_pos hn, hd]; simp [hc]
          have e2 : rnm ⟨r, row, nm, op⟩ = aftT ⟨c :: r2, row ++ [0], nm ++ [r.takeWhile lt], op⟩ := by
            unfold rnm
            simp only [if_pos hn, hd]
            rw [if_neg]
            simp [hc]
          rw [e1]
          show T ⟨r, row, nm, op⟩ = AT ⟨c :: r2, row ++ [0], nm ++ [r.takeWhile lt], op⟩
          rw [T_eq, e2]; rfl
    · have e1 : rdP (f + 1) r = none := by rw [rdP, if_neg hn]
      have e2 : rnm ⟨r, row, nm, op⟩ = (false, ⟨r.dropWhile lt, row, nm, op⟩) := by
        unfold rnm
        simp only [if_neg hn]
      rw [e1, T_eq, e2]
      rfl
theorem prt_T : ∀ (f : Nat) (r : List Nat) (k : Int) (row : List Int) (nm : List (List Nat)) (op : List (List Nat × Int)) (x : List Nat), 2 * r.length + 2 ≤ f → Tells (prt f r k) (T ⟨r, row, nm, op ++ [(x, k + 1)]⟩) fun q => ⟨q.2.2, row ++ q.1, nm ++ q.2.1 ++ [x], op⟩
  | 0, r, _, _, _, _, _, h => by omega
  | f + 1, r, k, row, nm, op, x, h => by
    have ih := rd_T f r row nm (op ++ [(x, k + 1)]) (by omega)
    rw [prt]
    cases hp : rdP f r with
    | none => rw [hp] at ih; exact ih
    | some q =>
      obtain ⟨row2, nm2, r2⟩ := q
      rw [hp] at ih
      have ih : T ⟨r, row, nm, op ++ [(x, k + 1)]⟩ = AT ⟨r2, row ++ row2, nm ++ nm2, op ++ [(x, k + 1)]⟩ := ih
      have hl := rdP_less f r hp
      simp only at hl ⊢
      by_cases h2 : r2.take 2 = [44, 32]
      · rw [if_pos h2, ih, AT_next h2]
        have hlen : 2 ≤ r2.length := by
          have := congrArg List.length h2
          rw [List.length_take] at this
          simp at this
          omega
        have ih2 := prt_T f (r2.drop 2) (k + 1) (row ++ row2) (nm ++ nm2) op x (by rw [List.length_drop]; omega)
        by_cases hr : r2.drop 2 = []
        · rw [if_pos hr, hr]
          have : prt f [] (k + 1) = none := by
            cases f with
            | zero => rfl
            | succ f =>
              rw [prt]
              cases f with
              | zero => rfl
              | succ f => rfl
          rw [this]
          show fin1 _ = false
          simp [fin1]
        · rw [if_neg hr]
          cases hp2 : prt f (r2.drop 2) (k + 1) with
          | none => rw [hp2] at ih2; exact ih2
          | some q =>
            rw [hp2] at ih2
            show T _ = AT ⟨q.2.2, row ++ (row2 ++ q.1), nm ++ (nm2 ++ q.2.1) ++ [x], op⟩
            rw [← List.append_assoc, ← List.append_assoc]
            exact ih2
      · rw [if_neg h2]
        by_cases h1 : r2.take 1 = [41]
        · rw [if_pos h1]
          obtain ⟨r3, rfl⟩ : ∃ r3, r2 = 41 :: r3 := by
            cases r2 with
            | nil => cases h1
            | cons c r3 => exact ⟨r3, by simp at h1; rw [h1]⟩
          show T _ = AT ⟨r3, row ++ (row2 ++ [k + 1]), nm ++ nm2 ++ [x], op⟩
          rw [ih, AT_close, List.append_assoc]
        · rw [if_neg h1]
          show (T _).1 = false
          rw [ih]
          exact AT_bad h2 h1 _ _ _ _ _
theorem rdP_less : ∀ (f : Nat) (r : List Nat) {q : Rd3}, rdP f r = some q → q.2.2.length ≤ r.length
  | 0, r, q, h => by cases h
  | f + 1, r, q, h => by
    have sp := span_len r
    rw [rdP] at h
    split at h
    · split at h
      · rename_i c r2 hd
        rw [hd, List.length_cons] at sp
        split at h
        · obtain ⟨q2, h2, rfl⟩ := Option.map_eq_some_iff.mp h
          have := prt_less f r2 0 h2
          show q2.2.2.length ≤ _
          omega
        · cases h
          show (c :: r2).length ≤ _
          rw [List.length_cons]; omega
      · cases h; exact Nat.zero_le _
    · cases h
theorem prt_less : ∀ (f : Nat) (r : List Nat) (k : Int) {q : Rd3}, prt f r k = some q → q.2.2.length ≤ r.length
  | 0, r, k, q, h => by cases h
  | f + 1, r, k, q, h => by
    rw [prt] at h
    cases hp : rdP f r with
    | none => rw [hp] at h; cases h
    | some p =>
      obtain ⟨row, nm, r2⟩ := p
      have h1 := rdP_less f r hp
      rw [hp] at h
      simp only at h h1
      split at h
      · obtain ⟨q2, h2, rfl⟩ := Option.map_eq_some_iff.mp h
        have := prt_less f (r2.drop 2) (k + 1) h2
        rw [List.length_drop] at this
        show q2.2.2.length ≤ _
        omega
      · split at h
        · cases h
          show (r2.drop 1).length ≤ _
          rw [List.length_drop]; omega
        · cases h
end
structure Gq (r : List Nat) (q : Rd3) : Prop where
  suf : q.2.2 <:+ r
  ne : q.1 ≠ []
  nn : ∀ t ∈ q.1, 0 ≤ t
  nm : ∀ x ∈ q.2.1, nmL x
  len : q.1.length + q.2.2.length ≤ r.length
theorem nm_take {r : List Nat} (hn : 1 ≤ (r.takeWhile lt).length ∧ (r.takeWhile lt).length ≤ 8) : nmL (r.takeWhile lt) := ⟨fun c hc => by
  have := List.all_takeWhile (p := lt) (l := r)
  exact List.all_eq_true.mp this c hc, hn⟩
mutual
theorem rdP_good : ∀ (f : Nat) (r : List Nat) {q : Rd3}, rdP f r = some q → Gq r q
  | 0, r, q, h => by cases h
  | f + 1, r, q, h => by
    have sp := span_len r
    have sf : r.dropWhile lt <:+ r := List.dropWhile_suffix _
    rw [rdP] at h
    split at h
    · rename_i hn
      have nt := nm_take hn
      split at h
      · rename_i c r2 hd
        rw [hd, List.length_cons] at sp
        rw [hd] at sf
        split at h
        · obtain ⟨q2, h2, rfl⟩ := Option.map_eq_some_iff.mp h
          obtain ⟨g1, g2, g3, g4, g5⟩ := prt_good f r2 0 (by omega) h2
          refine ⟨g1.trans ((List.suffix_cons c r2).trans sf), g2, g3, fun x hx => ?_, ?_⟩
          · rcases List.mem_append.mp hx with hx | hx
            · exact g4 x hx
            · rw [List.mem_singleton.mp hx]; exact nt
          · show q2.1.length + q2.2.2.length ≤ _
            omega
        · cases h
          refine ⟨sf, by simp, by simp, fun x hx => ?_, ?_⟩
          · rw [List.mem_singleton.mp hx]; exact nt
          · show 1 + (c :: r2).length ≤ _
            rw [List.length_cons]; omega
      · rename_i hd
        rw [hd] at sf
        cases h
        refine ⟨sf, by simp, by simp, fun x hx => ?_, ?_⟩
        · rw [List.mem_singleton.mp hx]; exact nt
        · show 1 + 0 ≤ _
          omega
    · cases h
theorem prt_good : ∀ (f : Nat) (r : List Nat) (k : Int), 0 ≤ k → ∀ {q : Rd3}, prt f r k = some q → Gq r q
  | 0, r, k, hk, q, h => by cases h
  | f + 1, r, k, hk, q, h => by
    rw [prt] at h
    cases hp : rdP f r with
    | none => rw [hp] at h; cases h
    | some p =>
      obtain ⟨row, nm, r2⟩ := p
      obtain ⟨g1, g2, g3, g4, g5⟩ := rdP_good f r hp
      rw [hp] at h
      simp only at h g1 g2 g3 g4 g5
      split at h
      · rename_i h2
        obtain ⟨q2, e2, rfl⟩ := Option.map_eq_some_iff.mp h
        obtain ⟨i1, i2, i3, i4, i5⟩ := prt_good f (r2.drop 2) (k + 1) (by omega) e2
        rw [List.length_drop] at i5
        refine ⟨i1.trans ((List.drop_suffix _ _).trans g1), by simp [g2], fun t ht => ?_, fun x hx => ?_, ?_⟩
        · rcases List.mem_append.mp ht with ht | ht
          · exact g3 t ht
          · exact i3 t ht
        · rcases List.mem_append.mp hx with hx | hx
          · exact g4 x hx
          · exact i4 x hx
        · show (row ++ q2.1).length + q2.2.2.length ≤ _
          rw [List.length_append]; omega
      · split at h
        · rename_i h3
          cases h
          refine ⟨(List.drop_suffix _ _).trans g1, by simp, fun t ht => ?_, g4, ?_⟩
          · rcases List.mem_append.mp ht with ht | ht
            · exact g3 t ht
            · rw [List.mem_singleton.mp ht]; omega
          · show (row ++ [k + 1]).length + (r2.drop 1).length ≤ _
            have : 1 ≤ r2.length := by
              cases r2 with
              | nil => cases h3
              | cons c r => simp
            rw [List.length_append, List.length_drop, List.length_singleton]; omega
        · cases h
end
theorem drop_suf {l r : List Nat} (h : r <:+ l) : r = l.drop (l.length - r.length) := by
  rw [List.suffix_iff_eq_drop.mp h]
  rw [List.length_drop]
  have := h.length_le
  congr 1
  omega
mutual
theorem rdP_nm : ∀ (f : Nat) (r : List Nat) {q : Rd3}, rdP f r = some q → q.2.1.length ≤ q.1.length
  | 0, r, q, h => by cases h
  | f + 1, r, q, h => by
    rw [rdP] at h
    split at h
    · split at h
      · split at h
        · obtain ⟨q2, h2, rfl⟩ := Option.map_eq_some_iff.mp h
          have := prt_nm f _ 0 h2
          show (q2.2.1 ++ [_]).length ≤ q2.1.length
          rw [List.length_append, List.length_singleton]
          exact this
        · cases h
          exact Nat.le_refl _
      · cases h
        exact Nat.le_refl _
    · cases h
theorem prt_nm : ∀ (f : Nat) (r : List Nat) (k : Int) {q : Rd3}, prt f r k = some q → q.2.1.length + 1 ≤ q.1.length
  | 0, r, k, q, h => by cases h
  | f + 1, r, k, q, h => by
    rw [prt] at h
    cases hp : rdP f r with
    | none => rw [hp] at h; cases h
    | some p =>
      obtain ⟨row, nm, r2⟩ := p
      have h1 := rdP_nm f r hp
      rw [hp] at h
      simp only at h h1
      split at h
      · obtain ⟨q2, h2, rfl⟩ := Option.map_eq_some_iff.mp h
        have := prt_nm f _ (k + 1) h2
        show (nm ++ q2.2.1).length + 1 ≤ (row ++ q2.1).length
        rw [List.length_append, List.length_append]; omega
      · split at h
        · cases h
          show nm.length + 1 ≤ (row ++ [k + 1]).length
          rw [List.length_append, List.length_singleton]; omega
        · cases h
end
/-- what the parser must tell -/
def due (l : List Nat) : Option (List Int × List (List Nat)) := match rdP (2 * l.length + 1) l with
  | some (row, nm, r) => if r = [] ∧ row.length ≤ 24 ∧ maxL row ≤ 5 then some (row, nm) else none
  | none => none
theorem run_due (l : List Nat) : match due l with
    | some (row, nm) => (T ⟨l, [], [], []⟩).1 = true ∧ (T ⟨l, [], [], []⟩).2.row = row ∧ (T ⟨l, [], [], []⟩).2.nm = nm
    | none => (T ⟨l, [], [], []⟩).1 = false := by
  have h := rd_T (2 * l.length + 1) l [] [] [] (Nat.le_refl _)
  unfold due
  cases e : rdP (2 * l.length + 1) l with
  | none => rw [e] at h; exact h
  | some q =>
    obtain ⟨row, nm, r⟩ := q
    rw [e] at h
    have h : T ⟨l, [], [], []⟩ = AT ⟨r, row, nm, []⟩ := h
    simp only
    rw [h]
    by_cases hr : r = []
    · subst hr
      rw [AT_nil]
      by_cases hc : row.length ≤ 24 ∧ maxL row ≤ 5
      · rw [if_pos ⟨rfl, hc⟩]
        exact ⟨by simp [fin1, hc.1, hc.2], rfl, rfl⟩
      · rw [if_neg fun z => hc z.2]
        show fin1 ⟨[], row, nm, []⟩ = false
        unfold fin1
        simp only [List.isEmpty_nil, Bool.true_and]
        rw [Bool.and_eq_false_iff, decide_eq_false_iff_not, decide_eq_false_iff_not]
        by_cases h1 : row.length ≤ 24
        · exact .inr fun z => hc ⟨h1, z⟩
        · exact .inl h1
    · rw [if_neg fun z => hr z.1]
      exact AT_top hr row nm
end DL
namespace DL
open PySem PySem.Spec L2
open PyProof.Rows hiding St
theorem nm_cnt {n : List Nat} (h : ∀ c ∈ n, lt c = true) : n.count 40 = 0 := List.count_eq_zero.mpr fun z => by
  have := h 40 z
  revert this
  decide
mutual
theorem Tre.cnt : ∀ (t : Tre) (ns : List (List Nat)), (∀ n ∈ ns, nmL n) → (t.tx ns).count 40 + 1 ≤ t.sz
  | .nd cs, ns, hn => by
    rw [Tre.tx, Tre.sz, List.count_append]
    have h1 : ((ns.drop (Tre.szs cs)).headD []).count 40 = 0 := by
      cases e : ns.drop (Tre.szs cs) with
      | nil => rfl
      | cons x r =>
        have : x ∈ ns := List.mem_of_mem_drop (by rw [e]; exact List.mem_cons_self)
        exact nm_cnt (hn x this).1
    have h2 := Tre.cnts cs ns hn
    rw [h1]
    cases cs with
    | nil => simp
    | cons c cs =>
      have e0 : (c :: cs).isEmpty = false := rfl
      rw [e0]
      simp only [Bool.false_eq_true, if_false]
      rw [List.count_append, List.count_cons_self]
      have e1 : [41].count 40 = 0 := by decide
      rw [e1]
      rw [List.length_cons] at h2
      omega
theorem Tre.cnts : ∀ (ts : List Tre) (ns : List (List Nat)), (∀ n ∈ ns, nmL n) → (jnT (Tre.txs ts ns)).count 40 + ts.length ≤ Tre.szs ts
  | [], ns, hn => by rw [Tre.txs]; simp [jnT, Tre.szs]
  | [t], ns, hn => by
    have h1 := Tre.cnt t ns hn
    rw [Tre.txs, Tre.txs, jnT, Tre.szs, Tre.szs, List.length_singleton]
    omega
  | t :: t2 :: r, ns, hn => by
    have h1 := Tre.cnt t ns hn
    have h2 := Tre.cnts (t2 :: r) (ns.drop t.sz) fun n h => hn n (List.mem_of_mem_drop h)
    rw [Tre.txs]
    rw [Tre.txs] at h2 ⊢
    rw [jnT, Tre.szs, List.length_cons, List.count_append, List.count_append]
    have e1 : [44, 32].count 40 = 0 := by decide
    rw [e1]
    omega
end
theorem fold_arr : ∀ (ls : List (Array Nat)) (acc : Array Nat), (ls.foldl (· ++ ·) acc).toList = acc.toList ++ (ls.map (·.toList)).flatten
  | [], acc => by simp
  | a :: ls, acc => by
    rw [List.foldl_cons, fold_arr ls, List.map_cons, List.flatten_cons]
    simp
theorem mul_L (x : List Nat) (n : Nat) (hn : 2 ≤ n) (hx : x ≠ []) : Txt.mul (L x) (n : Int) = L (List.replicate n x).flatten := by
  unfold Txt.mul
  have hz : x.length ≠ 0 := fun z => hx (List.length_eq_zero_iff.mp z)
  have h1 : ((n : Int) == 1 || (L x).length == 0) = false := by
    rw [L_len, Bool.or_eq_false_iff]
    exact ⟨by simp; omega, by simp; exact hx⟩
  rw [if_neg (by omega), h1, if_neg (by decide), Int.toNat_natCast]
  have e : ((List.replicate n (L x).cps).foldl (· ++ ·) #[]).toList = (List.replicate n x).flatten := by
    rw [fold_arr, List.map_replicate]
    show [] ++ (List.replicate n (L x).cps.toList).flatten = _
    rw [L_cps, List.nil_append]
  unfold L
  rw [← e, Array.toArray_toList]
  rfl
theorem mulS_L {x : List Nat} {n : Nat} (hn : 2 ≤ n) (hx : x ≠ []) (hm : PySem.MulOk (L x) (n : Int)) (S : Sto) : dMulS (.str (L x)) (.int (n : Int)) S = .ok (.str (L (List.replicate n x).flatten)) S := by
  show ifp (PySem.MulOk (L x) (n : Int)) (R.ok (D.str (Txt.mul (L x) (n : Int))) S) .stuck = _
  rw [ifp_pos hm, mul_L x n hn hx]
theorem add_L (a b : List Nat) (h : a.length + b.length ≤ 10 ^ 6) (S : Sto) : dAdd (.str (L a)) (.str (L b)) S = .ok (.str (L (a ++ b))) S := by
  rw [add_str (by rw [L_len, L_len]; exact h), L_app]
def dp1 : List Nat := (List.replicate 600 [102, 40]).flatten ++ [120] ++ (List.replicate 600 [41]).flatten
def dp2 : List Nat := (List.replicate 999 [102, 40]).flatten
def dp3 : List Nat := [120] ++ (List.replicate 999 [41]).flatten
def dp4 : List Nat := (List.replicate 400 [102, 40, 120, 44, 32]).flatten
theorem deep3 : due dp3 = none := by
  have : (due dp3).isNone = true := by decide +kernel
  exact Option.isNone_iff_eq_none.mp this
theorem deep2 : due dp2 = none := by
  have : (due dp2).isNone = true := by decide +kernel
  exact Option.isNone_iff_eq_none.mp this
theorem deep4 : due dp4 = none := by
  have : (due dp4).isNone = true := by decide +kernel
  exact Option.isNone_iff_eq_none.mp this
theorem deep1 : due dp1 = none := by
  have : (due dp1).isNone = true := by decide +kernel
  exact Option.isNone_iff_eq_none.mp this
theorem mok1 : PySem.MulOk (L [102, 40]) ((600 : Nat) : Int) := by unfold MulOk; decide +kernel
theorem mok2 : PySem.MulOk (L [41]) ((600 : Nat) : Int) := by unfold MulOk; decide +kernel
theorem mok3 : PySem.MulOk (L [102, 40]) ((999 : Nat) : Int) := by unfold MulOk; decide +kernel
theorem mok4 : PySem.MulOk (L [41]) ((999 : Nat) : Int) := by unfold MulOk; decide +kernel
theorem mok5 : PySem.MulOk (L [102, 40, 120, 44, 32]) ((400 : Nat) : Int) := by unfold MulOk; decide +kernel
theorem mok6 : PySem.MulOk (L [102, 40]) ((23 : Nat) : Int) := by unfold MulOk; decide +kernel
theorem mok7 : PySem.MulOk (L [41]) ((23 : Nat) : Int) := by unfold MulOk; decide +kernel
theorem mok8 : PySem.MulOk (L [102, 40]) ((24 : Nat) : Int) := by unfold MulOk; decide +kernel
theorem mok9 : PySem.MulOk (L [41]) ((24 : Nat) : Int) := by unfold MulOk; decide +kernel
end DL
namespace TX
open PySem PySem.Spec L2 DL
open PyProof.Rows hiding St
def xtab : XTab := [((.own "RingError"), [.own "RingError", .blt "ValueError", .blt "Exception", .blt "BaseException", .blt "object"]), ((.own "NotReady"), [.own "NotReady", .own "RingError", .blt "ValueError", .blt "Exception", .blt "BaseException", .blt "object"]), ((.own "NoBeginning"), [.own "NoBeginning", .own "RingError", .blt "ValueError", .blt "Exception", .blt "BaseException", .blt "object"]), ((.own "NoRows"), [.own "NoRows", .own "RingError", .blt "ValueError", .blt "Exception", .blt "BaseException", .blt "object"]), ((.own "NoArity"), [.own "NoArity", .own "RingError", .blt "ValueError", .blt "Exception", .blt "BaseException", .blt "object"]), ((.own "TooLong"), [.own "TooLong", .own "RingError", .blt "ValueError", .blt "Exception", .blt "BaseException", .blt "object"]), ((.own "LastToken"), [.own "LastToken", .own "RingError", .blt "ValueError", .blt "Exception", .blt "BaseException", .blt "object"]), ((.own "OtherEffect"), [.own "OtherEffect", .own "RingError", .blt "ValueError", .blt "Exception", .blt "BaseException", .blt "object"]), ((.own "NoProperty"), [.own "NoProperty", .own "RingError", .blt "ValueError", .blt "Exception", .blt "BaseException", .blt "object"]), ((.own "BadWish"), [.own "BadWish", .own "RingError", .blt "ValueError", .blt "Exception", .blt "BaseException", .blt "object"]), ((.own "BadText"), [.own "BadText", .own "RingError", .blt "ValueError", .blt "Exception", .blt "BaseException", .blt "object"]), ((.own "NoPlace"), [.own "NoPlace", .blt "LookupError", .blt "Exception", .blt "BaseException", .blt "object"]), ((.own "NoIndex"), [.own "NoIndex", .blt "LookupError", .blt "Exception", .blt "BaseException", .blt "object"]), ((.blt "ValueError"), [.blt "ValueError", .blt "Exception", .blt "BaseException", .blt "object"]), ((.blt "LookupError"), [.blt "LookupError", .blt "Exception", .blt "BaseException", .blt "object"])]
def topS (i : Nat) : Stmt := PySem.Challenge.pw_ringpostfix_k36_other_terms.main.body.getD i (.Pass ⟨0, 0, 0, 0⟩)
def clsS (i j : Nat) : Stmt := match topS i with
  | .ClassDef _ _ _ b _ _ _ _ _ _ _ => b.getD j (.Pass ⟨0, 0, 0, 0⟩)
  | _ => .Pass ⟨0, 0, 0, 0⟩
def ocs_names : List Str := ["TermReader"]
def ocs_opened : List Str := ["TermReader"]
def ocs_rest : List Str := ["TermReader"]
def ocs_row : List Str := ["TermReader"]
abbrev st__law_stream : Stmt := topS 23
abbrev nm__law_stream : List Str := ["_law_script", "_law_cells", "_law_cell"]
abbrev st__law_tree_row : Stmt := topS 29
abbrev nm__law_tree_row : List Str := ["_law_tree_here", "_law_found", "_law_child"]
abbrev st__law_draw : Stmt := topS 24
abbrev nm__law_draw : List Str := ["_law_stream_here", "_law_many", "_law_rest", "_law_turn", "_law_cell", "_law_mixed"]
abbrev st__law_nested : Stmt := topS 27
abbrev nm__law_nested : List Str := ["_law_below", "_law_node", "_law_child"]
abbrev st__law_tree : Stmt := topS 28
abbrev nm__law_tree : List Str := ["_law_stream_here", "_law_most", "_law_many", "_law_style", "_law_k", "_law_below", "_law_spot", "_law_room", "_law_node"]
abbrev st__law_term_back : Stmt := topS 32
abbrev nm__law_term_back : List Str := ["_law_row", "_law_names_here", "_law_end", "_law_parts", "_law_first", "_law_k", "_law_part"]
abbrev st__law_terms : Stmt := topS 33
abbrev nm__law_terms : List Str := ["_law_row", "_law_names_here", "_law_found", "_law_end", "_law_term", "_law_first"]
abbrev st__law_pick : Stmt := topS 25
abbrev nm__law_pick : List Str := ["_law_stream_here", "_law_items"]
abbrev st__law_names : Stmt := topS 31
abbrev nm__law_names : List Str := ["_law_stream_here", "_law_many", "_law_letters", "_law_k", "_law_head", "_law_way", "_law_found"]
abbrev st__law_edges : Stmt := topS 38
abbrev nm__law_edges : List Str := ["_law_found"]
abbrev st__law_odd : Stmt := topS 26
abbrev nm__law_odd : List Str := ["_law_stream_here", "_law_some"]
abbrev st__law_changed : Stmt := topS 37
abbrev nm__law_changed : List Str := ["_law_stream_here", "_law_text", "_law_spot", "_law_way", "_law_sign", "_law_end", "_law_mark", "_law_some"]
abbrev st_TermReader___init__ : Stmt := clsS 20 0
abbrev nm_TermReader___init__ : List Str := ["self", "text"]
abbrev st_split_name : Stmt := topS 19
abbrev nm_split_name : List Str := ["text", "index", "sign"]
abbrev st_TermReader_add_token : Stmt := clsS 20 2
abbrev nm_TermReader_add_token : List Str := ["self", "name", "arity"]
abbrev st_TermReader_skip : Stmt := clsS 20 1
abbrev nm_TermReader_skip : List Str := ["self", "many"]
abbrev st_TermReader_close_terms : Stmt := clsS 20 3
abbrev nm_TermReader_close_terms : List Str := ["self", "name", "arity"]
abbrev st_TermReader_next_part : Stmt := clsS 20 5
abbrev nm_TermReader_next_part : List Str := ["self", "name", "arity"]
abbrev st_TermReader_read_name : Stmt := clsS 20 4
abbrev nm_TermReader_read_name : List Str := ["self", "name"]
abbrev st_TermReader_is_right : Stmt := clsS 20 6
abbrev nm_TermReader_is_right : List Str := ["self"]
abbrev st_parse_term : Stmt := topS 21
abbrev nm_parse_term : List Str := ["text", "reader"]
abbrev st__law_alone : Stmt := topS 30
abbrev nm__law_alone : List Str := ["_law_error", "_law_kinds", "_law_is_lookup"]
abbrev st__law_parse_told : Stmt := topS 36
abbrev nm__law_parse_told : List Str := ["_law_value", "_law_error"]
abbrev st__law_read : Stmt := topS 34
abbrev nm__law_read : List Str := ["_law_text", "_law_spot", "_law_end", "_law_row", "_law_names_here", "_law_many", "_law_at", "_law_is_more", "_law_part"]
abbrev st__law_parsed : Stmt := topS 35
abbrev nm__law_parsed : List Str := ["_law_value", "_law_found"]
abbrev st_law : Stmt := topS 39
abbrev nm_law : List Str := ["_law_script", "_law_stream_here", "_law_turn", "_law_row", "_law_text", "_law_values", "_law_k", "_law_once", "_law_value", "_law_deep"]
def d_MAX_TOKENS : D := (.int 24)
def d_MAX_ARITY : D := (.int 5)
def d_LONGEST : D := (.int 8)
def d_LETTERS : D := (.str "abcdefghijklmnopqrstuvwxyz")
noncomputable def B__law_edges : Ev → Sto → SR :=
  (sSeq (sSet 0 (eFl (aCons (eOp dAdd (eOp dAdd (eOp dMulS (eC (.str "f(")) (eC (.int 23))) (eC (.str "x"))) (eOp dMulS (eC (.str ")")) (eC (.int 23)))) (aCons (eOp dAdd (eOp dAdd (eOp dMulS (eC (.str "f(")) (eC (.int 24))) (eC (.str "x"))) (eOp dMulS (eC (.str ")")) (eC (.int 24)))) (aCons (eC (.str "f(a, b, c, d, e)")) (aCons (eC (.str "f(a, b, c, d, e, g)")) aNil))))))
    (sSeq (sSet 0 (eOp dAdd (eVar 0) (eFl (aCons (eC (.str "abcdefgh")) (aCons (eC (.str "abcdefghi")) (aCons (eC (.str "")) (aCons (eC (.str " ")) (aCons (eC (.str "f()")) (aCons (eC (.str "f(x")) (aCons (eC (.str "f x")) (aCons (eC (.str "f(x,y)")) (aCons (eC (.str "f (x)")) (aCons (eC (.str "f(x) ")) (aCons (eC (.str "f(x))")) aNil))))))))))))))
    (sRet (eOp dAdd (eVar 0) (eFl (aCons (eC (.str "(x)")) (aCons (eC (.str "f((x))")) (aCons (eC (.str "f(x)(y)")) (aCons (eC (.str "f(x, y,)")) (aCons (eC (.str "f(, x)")) (aCons (eC (.str "x, y")) (aCons (eC (.str "F(x)")) (aCons (eC (.str "f1(x)")) (aCons (eC (.str "f(x)g")) (aCons (eC (.str "f( x)")) (aCons (eC (.str ")")) aNil))))))))))))))))
noncomputable def F__law_edges : Fn := fnC close 1 0 B__law_edges
noncomputable def B__law_changed : Ev → Sto → SR :=
  (sSeq (sPar2 2 3 (aCons (eCall F__law_draw (aCons (eVar 0) (aCons (eOp dAdd (eCall bLen (aCons (eVar 1) aNil)) (eC (.int 1))) aNil))) (aCons (eCall F__law_draw (aCons (eVar 0) (aCons (eC (.int 8)) aNil))) aNil)))
    (sSeq (sSet 4 (eCall F__law_pick (aCons (eVar 0) (aCons (eC (.str "(), axZ0_-\n.")) aNil))))
    (sSeq (sIf (eT (eOp dLt (eVar 3) (eC (.int 2)))) (sRet (eOp dAdd (eOp dAdd (eSl mkFl (eVar 1) oNone (oSome (eVar 2))) (eVar 4)) (eSl mkFl (eVar 1) (oSome (eOp dAdd (eVar 2) (eVar 3))) oNone))) sNil)
    (sSeq (sIf (eT (eOp dLt (eVar 3) (eC (.int 4)))) (sRet (eOp dAdd (eSl mkFl (eVar 1) oNone (oSome (eVar 2))) (eSl mkFl (eVar 1) (oSome (eOp dSub (eOp dAdd (eVar 2) (eVar 3)) (eC (.int 1)))) oNone))) sNil)
    (sSeq (sSet 5 (eOp dAdd (eOp dAdd (eVar 2) (eC (.int 1))) (eCall F__law_draw (aCons (eVar 0) (aCons (eC (.int 6)) aNil)))))
    (sSeq (sSet 6 (eCall F__law_pick (aCons (eVar 0) (aCons (eFl (aCons (eC (.str "()")) (aCons (eC (.str ", ")) (aCons (eC (.str "(x)")) aNil)))) aNil))))
    (sSeq (sSet 7 (eFl (aCons (eOp dAdd (eSl mkFl (eVar 1) oNone (oSome (eVar 5))) (eSl mkFl (eVar 1) (oSome (eVar 2)) oNone)) (aCons (eOp dAdd (eOp dAdd (eVar 1) (eC (.str ", "))) (eVar 1)) (aCons (eOp dAdd (eC (.str " ")) (eVar 1)) (aCons (eOp dAdd (eOp dAdd (eSl mkFl (eVar 1) oNone (oSome (eVar 2))) (eVar 6)) (eSl mkFl (eVar 1) (oSome (eVar 2)) oNone)) aNil))))))
    (sRet (eOp dIx (eVar 7) (eOp dSub (eVar 3) (eC (.int 4))))))))))))
noncomputable def F__law_changed : Fn := fnC close 8 2 B__law_changed
noncomputable def B_TermReader___init__ : Ev → Sto → SR :=
  (sSeq (sAsg (eVar 1) (tAttr ocs_rest "rest" (eVar 0)))
    (sSeq (sAsg (eLoc aNil) (tAttr ocs_row "row" (eVar 0)))
    (sSeq (sAsg (eLoc aNil) (tAttr ocs_names "names" (eVar 0)))
    (sAsg (eLoc aNil) (tAttr ocs_opened "opened" (eVar 0))))))
noncomputable def F_TermReader___init__ : Fn := fnC closeK 2 2 B_TermReader___init__
noncomputable def L1_split_name (ρ : Ev) (S : Sto) : SR :=
  (sIf (eT (eOp dNotInS (eVar 2) (eC d_LETTERS))) (sRet (eTup (aCons (eSl mkFl (eVar 0) oNone (oSome (eVar 1))) (aCons (eSl mkFl (eVar 0) (oSome (eVar 1)) oNone) aNil)))) sNil) ρ S
noncomputable def B_split_name : Ev → Sto → SR :=
  (sFor (iEnumS (aCons (eVar 0) aNil)) (tTup 2 (tCons (tN 1) (tCons (tN 2) tNil))) L1_split_name (sRet (eTup (aCons (eVar 0) (aCons (eC (.str "")) aNil)))))
noncomputable def F_split_name : Fn := fnC close 3 1 B_split_name
noncomputable def B_TermReader_add_token : Ev → Sto → SR :=
  (sSeq (sExp (eMt isLst mAppend (eFld ocs_names "names" (eVar 0)) (aCons (eVar 1) aNil)))
    (sExp (eMt isLst mAppend (eFld ocs_row "row" (eVar 0)) (aCons (eVar 2) aNil))))
noncomputable def F_TermReader_add_token : Fn := fnC close 3 3 B_TermReader_add_token
noncomputable def B_TermReader_skip : Ev → Sto → SR :=
  (sAsg (eSl mkFl (eFld ocs_rest "rest" (eVar 0)) (oSome (eVar 1)) oNone) (tAttr ocs_rest "rest" (eVar 0)))
noncomputable def F_TermReader_skip : Fn := fnC close 2 2 B_TermReader_skip
noncomputable def C1_TermReader_close_terms (ρ : Ev) (S : Sto) : R Bool :=
  (eAnd (eT (eOp (dEqY true) (eFld ocs_opened "opened" (eVar 0)) (eFl aNil))) (eT (eOp (dEq false) (eSl mkFl (eFld ocs_rest "rest" (eVar 0)) oNone (oSome (eC (.int 1)))) (eC (.str ")"))))) ρ S
noncomputable def L1_TermReader_close_terms (ρ : Ev) (S : Sto) : SR :=
  (sSeq (sAsg (eMt isLst mPop (eFld ocs_opened "opened" (eVar 0)) aNil) (tSq 2 (tCons (tN 1) (tCons (tN 2) tNil))))
    (sSeq (sExp (eMth "add_token" [("TermReader", F_TermReader_add_token)] (eVar 0) (aCons (eVar 1) (aCons (eVar 2) aNil))))
    (sExp (eMth "skip" [("TermReader", F_TermReader_skip)] (eVar 0) (aCons (eC (.int 1)) aNil))))) ρ S
noncomputable def B_TermReader_close_terms : Ev → Sto → SR :=
  (whileD C1_TermReader_close_terms L1_TermReader_close_terms 4000)
noncomputable def F_TermReader_close_terms : Fn := fnC close 3 1 B_TermReader_close_terms
noncomputable def B_TermReader_next_part : Ev → Sto → SR :=
  (sSeq (sIf (eOr (eT (eOp (dEqY false) (eFld ocs_opened "opened" (eVar 0)) (eFl aNil))) (eT (eOp (dEq true) (eSl mkFl (eFld ocs_rest "rest" (eVar 0)) oNone (oSome (eC (.int 2)))) (eC (.str ", "))))) (sRet (eC (.bl false))) sNil)
    (sSeq (sAsg (eMt isLst mPop (eFld ocs_opened "opened" (eVar 0)) aNil) (tSq 2 (tCons (tN 1) (tCons (tN 2) tNil))))
    (sSeq (sExp (eMt isLst mAppend (eFld ocs_opened "opened" (eVar 0)) (aCons (eTup (aCons (eVar 1) (aCons (eOp dAdd (eVar 2) (eC (.int 1))) aNil))) aNil)))
    (sSeq (sExp (eMth "skip" [("TermReader", F_TermReader_skip)] (eVar 0) (aCons (eC (.int 2)) aNil)))
    (sRet (eC (.bl true)))))))
noncomputable def F_TermReader_next_part : Fn := fnC close 3 1 B_TermReader_next_part
noncomputable def B_TermReader_read_name : Ev → Sto → SR :=
  (sSeq (sAsg (eCall F_split_name (aCons (eFld ocs_rest "rest" (eVar 0)) aNil)) (tSq 2 (tCons (tN 1) (tCons (tAttr ocs_rest "rest" (eVar 0)) tNil))))
    (sSeq (sIf (eNot (eT (eChain dLe dLe (eC (.int 1)) (eCall bLen (aCons (eVar 1) aNil)) (eC d_LONGEST)))) (sRet (eC (.bl false))) sNil)
    (sSeq (sMatch (eSl mkFl (eFld ocs_rest "rest" (eVar 0)) oNone (oSome (eC (.int 1)))) (cText "(" (sSeq (sExp (eMth "skip" [("TermReader", F_TermReader_skip)] (eVar 0) (aCons (eC (.int 1)) aNil)))
    (sExp (eMt isLst mAppend (eFld ocs_opened "opened" (eVar 0)) (aCons (eTup (aCons (eVar 1) (aCons (eC (.int 1)) aNil))) aNil)))) (cAny (sSeq (sExp (eMth "add_token" [("TermReader", F_TermReader_add_token)] (eVar 0) (aCons (eVar 1) (aCons (eC (.int 0)) aNil))))
    (sSeq (sExp (eMth "close_terms" [("TermReader", F_TermReader_close_terms)] (eVar 0) aNil))
    (sRet (eOrV (eOp (dEq false) (eFld ocs_rest "rest" (eVar 0)) (eC (.str ""))) (eMth "next_part" [("TermReader", F_TermReader_next_part)] (eVar 0) aNil))))))))
    (sRet (eC (.bl true))))))
noncomputable def F_TermReader_read_name : Fn := fnC close 2 1 B_TermReader_read_name
noncomputable def C1_TermReader_is_right (ρ : Ev) (S : Sto) : R Bool :=
  (eT (eMth "read_name" [("TermReader", F_TermReader_read_name)] (eVar 0) aNil)) ρ S
noncomputable def L1_TermReader_is_right (ρ : Ev) (S : Sto) : SR :=
  (sIf (eT (eOp (dEq false) (eFld ocs_rest "rest" (eVar 0)) (eC (.str "")))) (sRet (eAndV (eOp (dEqY false) (eFld ocs_opened "opened" (eVar 0)) (eFl aNil)) (eAndV (eOp dLe (eCall bLen (aCons (eFld ocs_row "row" (eVar 0)) aNil)) (eC d_MAX_TOKENS)) (eOp dLe (eCall bMaxT (aCons (eFld ocs_row "row" (eVar 0)) aNil)) (eC d_MAX_ARITY))))) sNil) ρ S
noncomputable def B_TermReader_is_right : Ev → Sto → SR :=
  (sSeq (whileD C1_TermReader_is_right L1_TermReader_is_right 4000)
    (sRet (eC (.bl false))))
noncomputable def F_TermReader_is_right : Fn := fnC close 1 1 B_TermReader_is_right
noncomputable def B_parse_term : Ev → Sto → SR :=
  (sSeq (sIf (eNot (eT (eCall bIsi (aCons (eVar 0) (aCons (eC (.ty "str")) aNil))))) (sRaise1 "BadText" "index" (aCons (eC .non) aNil)) sNil)
    (sSeq (sSet 1 (eNew "TermReader" F_TermReader___init__ (aCons (eVar 0) aNil)))
    (sSeq (sIf (eNot (eT (eMth "is_right" [("TermReader", F_TermReader_is_right)] (eVar 1) aNil))) (sRaise1 "BadText" "index" (aCons (eC (.int 0)) aNil)) sNil)
    (sRet (eTup (aCons (eCall bTuple (aCons (eFld ocs_row "row" (eVar 1)) aNil)) (aCons (eCall bTuple (aCons (eFld ocs_names "names" (eVar 1)) aNil)) aNil)))))))
noncomputable def F_parse_term : Fn := fnC close 2 1 B_parse_term
noncomputable def B__law_alone : Ev → Sto → SR :=
  (sSeq (sSet 1 (eFl (aCons (eCall (bIsi2 xtab) (aCons (eVar 0) (aCons (eC (.fn "NotReady")) aNil))) (aCons (eCall (bIsi2 xtab) (aCons (eVar 0) (aCons (eC (.fn "NoBeginning")) aNil))) (aCons (eCall (bIsi2 xtab) (aCons (eVar 0) (aCons (eC (.fn "NoRows")) aNil))) aNil)))))
    (sSeq (sSet 1 (eOp dAdd (eVar 1) (eFl (aCons (eCall (bIsi2 xtab) (aCons (eVar 0) (aCons (eC (.fn "TooLong")) aNil))) (aCons (eCall (bIsi2 xtab) (aCons (eVar 0) (aCons (eC (.fn "BadText")) aNil))) (aCons (eCall (bIsi2 xtab) (aCons (eVar 0) (aCons (eC (.fn "NoArity")) aNil))) aNil))))))
    (sSeq (sSet 1 (eOp dAdd (eVar 1) (eFl (aCons (eCall (bIsi2 xtab) (aCons (eVar 0) (aCons (eC (.fn "LastToken")) aNil))) (aCons (eCall (bIsi2 xtab) (aCons (eVar 0) (aCons (eC (.fn "OtherEffect")) aNil))) (aCons (eCall (bIsi2 xtab) (aCons (eVar 0) (aCons (eC (.fn "NoProperty")) aNil))) aNil))))))
    (sSeq (sSet 1 (eOp dAdd (eVar 1) (eFl (aCons (eCall (bIsi2 xtab) (aCons (eVar 0) (aCons (eC (.fn "BadWish")) aNil))) (aCons (eCall (bIsi2 xtab) (aCons (eVar 0) (aCons (eC (.fn "NoPlace")) aNil))) (aCons (eCall (bIsi2 xtab) (aCons (eVar 0) (aCons (eC (.fn "NoIndex")) aNil))) aNil))))))
    (sSeq (sSet 2 (eAndV (eCall (bIsi2 xtab) (aCons (eVar 0) (aCons (eC (.ty "LookupError")) aNil))) (eNotV (eCall (bIsi2 xtab) (aCons (eVar 0) (aCons (eTup (aCons (eC (.fn "RingError")) (aCons (eC (.ty "ValueError")) aNil))) aNil))))))
    (sRet (eAndV (eOp (dEq false) (eMt isLst mCntL (eVar 1) (aCons (eC (.bl true)) aNil)) (eC (.int 1))) (eOrV (eCall (bIsi2 xtab) (aCons (eVar 0) (aCons (eC (.fn "RingError")) aNil))) (eVar 2)))))))))
noncomputable def F__law_alone : Fn := fnC close 3 1 B__law_alone
noncomputable def B__law_parse_told : Ev → Sto → SR :=
  (sSeq (sTry xtab [.own "RingError"] 1 (sRet (eCall F_parse_term (aCons (eVar 0) aNil))) (sIf (eAnd (eT (eCall (bIsi2 xtab) (aCons (eVar 1) (aCons (eC (.fn "BadText")) aNil)))) (eT (eCall F__law_alone (aCons (eVar 1) aNil)))) (sRet (eFl (aCons (eAtX xtab "index" (eVar 1)) aNil))) sNil))
    (sRet (eC (.str "other"))))
noncomputable def F__law_parse_told : Fn := fnC close 2 1 B__law_parse_told
noncomputable def C1__law_read (rec : Fn) (ρ : Ev) (S : Sto) : R Bool :=
  (eAnd (eT (eOp dLt (eVar 2) (eCall bLen (aCons (eVar 0) aNil)))) (eT (eOp dInS (eOp dIx (eVar 0) (eVar 2)) (eC (.str "abcdefghijklmnopqrstuvwxyz"))))) ρ S
noncomputable def L1__law_read (rec : Fn) (ρ : Ev) (S : Sto) : SR :=
  (sSet 2 (eOp dAdd (eVar 2) (eC (.int 1)))) ρ S
noncomputable def C2__law_read (rec : Fn) (ρ : Ev) (S : Sto) : R Bool :=
  (eT (eVar 7)) ρ S
noncomputable def L2__law_read (rec : Fn) (ρ : Ev) (S : Sto) : SR :=
  (sSeq (sSet 8 (eCall rec (aCons (eVar 0) (aCons (eVar 6) aNil))))
    (sSeq (sIf (eT (eOp (dEqY false) (eVar 8) (eFl aNil))) (sRet (eFl aNil)) sNil)
    (sSeq (sPar3 3 4 5 (aCons (eOp dAdd (eVar 3) (eOp dIx (eVar 8) (eC (.int 0)))) (aCons (eOp dAdd (eVar 4) (eOp dIx (eVar 8) (eC (.int 1)))) (aCons (eOp dAdd (eVar 5) (eC (.int 1))) aNil))))
    (sSeq (sSet 7 (eOp (dEq false) (eSl mkFl (eVar 0) (oSome (eOp dIx (eVar 8) (eC (.int 2)))) (oSome (eOp dAdd (eOp dIx (eVar 8) (eC (.int 2))) (eC (.int 2))))) (eC (.str ", "))))
    (sSet 6 (eOp dAdd (eOp dIx (eVar 8) (eC (.int 2))) (eOp dMulT (eC (.int 2)) (eCall bInt (aCons (eVar 7) aNil))))))))) ρ S
noncomputable def B__law_read (rec : Fn) : Ev → Sto → SR :=
  (sSeq (sSet 2 (eVar 1))
    (sSeq (whileD (C1__law_read rec) (L1__law_read rec) 4000)
    (sSeq (sIf (eNot (eT (eChain dLe dLe (eC (.int 1)) (eOp dSub (eVar 2) (eVar 1)) (eC (.int 8))))) (sRet (eFl aNil)) sNil)
    (sSeq (sIf (eT (eOp (dEq true) (eSl mkFl (eVar 0) (oSome (eVar 2)) (oSome (eOp dAdd (eVar 2) (eC (.int 1))))) (eC (.str "(")))) (sRet (eFl (aCons (eTup (aCons (eC (.int 0)) aNil)) (aCons (eTup (aCons (eSl mkFl (eVar 0) (oSome (eVar 1)) (oSome (eVar 2))) aNil)) (aCons (eVar 2) aNil))))) sNil)
    (sSeq (sAsg (eTup (aCons (eTup aNil) (aCons (eTup aNil) (aCons (eC (.int 0)) (aCons (eOp dAdd (eVar 2) (eC (.int 1))) (aCons (eC (.bl true)) aNil)))))) (tTup 5 (tCons (tN 3) (tCons (tN 4) (tCons (tN 5) (tCons (tN 6) (tCons (tN 7) tNil)))))))
    (sSeq (whileD (C2__law_read rec) (L2__law_read rec) 4000)
    (sSeq (sIf (eT (eOp (dEq true) (eSl mkFl (eVar 0) (oSome (eVar 6)) (oSome (eOp dAdd (eVar 6) (eC (.int 1))))) (eC (.str ")")))) (sRet (eFl aNil)) sNil)
    (sRet (eFl (aCons (eOp dAdd (eVar 3) (eTup (aCons (eVar 5) aNil))) (aCons (eOp dAdd (eVar 4) (eTup (aCons (eSl mkFl (eVar 0) (oSome (eVar 1)) (oSome (eVar 2))) aNil))) (aCons (eOp dAdd (eVar 6) (eC (.int 1))) aNil))))))))))))
noncomputable def F__law_read : Nat → Fn
  | 0 => fun _ _ => .stuck
  | n + 1 => fnC close 9 2 (B__law_read (F__law_read n))
noncomputable def B__law_parsed : Ev → Sto → SR :=
  (sSeq (sIf (eNot (eT (eCall bIsi (aCons (eVar 0) (aCons (eC (.ty "str")) aNil))))) (sRet (eFl (aCons (eC .non) aNil))) sNil)
    (sSeq (sSet 1 (eCall (F__law_read 130) (aCons (eVar 0) (aCons (eC (.int 0)) aNil))))
    (sSeq (sIf (eOr (eT (eOp (dEqY false) (eVar 1) (eFl aNil))) (eOr (eT (eOp (dEq true) (eOp dIx (eVar 1) (eC (.int 2))) (eCall bLen (aCons (eVar 0) aNil)))) (eOr (eT (eOp dGt (eCall bLen (aCons (eOp dIx (eVar 1) (eC (.int 0))) aNil)) (eC (.int 24)))) (eT (eOp dGt (eCall bMaxT (aCons (eOp dIx (eVar 1) (eC (.int 0))) aNil)) (eC (.int 5))))))) (sRet (eFl (aCons (eC (.int 0)) aNil))) sNil)
    (sRet (eTup (aCons (eOp dIx (eVar 1) (eC (.int 0))) (aCons (eOp dIx (eVar 1) (eC (.int 1))) aNil)))))))
noncomputable def F__law_parsed : Fn := fnC close 2 1 B__law_parsed
noncomputable def L1_law (ρ : Ev) (S : Sto) : SR :=
  (sSeq (sSet 7 (eCall F__law_changed (aCons (eVar 1) (aCons (eVar 4) aNil))))
    (sSet 5 (eOp dAdd (eVar 5) (eFl (aCons (eVar 7) (aCons (eCall F__law_changed (aCons (eVar 1) (aCons (eVar 7) aNil))) aNil)))))) ρ S
noncomputable def L2_law (ρ : Ev) (S : Sto) : SR :=
  (sIf (eT (eOp (dEq true) (eCall bRepr (aCons (eCall F__law_parse_told (aCons (eVar 8) aNil)) aNil)) (eCall bRepr (aCons (eCall F__law_parsed (aCons (eVar 8) aNil)) aNil)))) (sRet (eC (.bl false))) sNil) ρ S
noncomputable def L3_law (ρ : Ev) (S : Sto) : SR :=
  (sSeq (sSet 3 (eCall (F__law_tree_row 40) (aCons (eCall F__law_tree (aCons (eVar 1) (aCons (eC (.int 24)) aNil))) aNil)))
    (sSeq (sSet 4 (eOp dIx (eCall F__law_terms (aCons (eVar 3) (aCons (eCall F__law_names (aCons (eVar 1) (aCons (eCall bLen (aCons (eVar 3) aNil)) aNil))) aNil))) (eC (.int 0))))
    (sSeq (sSet 5 (eOp dAdd (eCall F__law_edges aNil) (eFl (aCons (eCall F__law_odd (aCons (eVar 1) aNil)) (aCons (eTup (aCons (eVar 4) aNil)) (aCons (eFl (aCons (eVar 4) aNil)) (aCons (eOp dAdd (eVar 4) (eC (.str "\n"))) aNil)))))))
    (sSeq (sFor (iRange1 (aCons (eC (.int 8)) aNil)) (tN 6) L1_law sNil)
    (sFor (iSeq (eVar 5)) (tN 8) L2_law sNil))))) ρ S
noncomputable def E1_law (ρ : Ev) (S : Sto) : R D :=
  (eCall F__law_parse_told (aCons (eVar 4) aNil)) ρ S
noncomputable def B_law : Ev → Sto → SR :=
  (sSeq (sSet 1 (eCall F__law_stream (aCons (eVar 0) aNil)))
    (sSeq (sFor (iRange1 (aCons (eC (.int 4)) aNil)) (tN 2) L3_law sNil)
    (sSeq (sSet 9 (eFl (aCons (eOp dAdd (eOp dAdd (eOp dMulS (eC (.str "f(")) (eC (.int 600))) (eC (.str "x"))) (eOp dMulS (eC (.str ")")) (eC (.int 600)))) (aCons (eOp dMulS (eC (.str "f(")) (eC (.int 999))) (aCons (eOp dAdd (eC (.str "x")) (eOp dMulS (eC (.str ")")) (eC (.int 999)))) (aCons (eOp dMulS (eC (.str "f(x, ")) (eC (.int 400))) aNil))))))
    (sRet (eOp (dEq false) (eCall bRepr (aCons (eLc finFl (iSeq (eVar 9)) (tN 4) [4] cYes E1_law) aNil)) (eCall bRepr (aCons (eOp dMulT (eFl (aCons (eFl (aCons (eC (.int 0)) aNil)) aNil)) (eC (.int 4))) aNil)))))))
noncomputable def F_law : Fn := fnC close 10 1 B_law
end TX
namespace TX
open PySem PySem.Spec L2 DL
open PyProof.Rows hiding St
theorem isC {n m : Str} {b : Bool} (fs : List (Str × D)) (h : isX xtab (.own n) (.own m) = some b) (S : Sto) : bIsi2 xtab [.exc (.own n) fs, .fn m] S = .ok (.bl b) S := by
  simp only [bIsi2, clsD, h]
theorem isB {n : Str} {m : String} {b : Bool} (fs : List (Str × D)) (h : isX xtab (.own n) (.blt m) = some b) (S : Sto) (hm : clsD (.ty m) = some (.blt m)) : bIsi2 xtab [.exc (.own n) fs, .ty m] S = .ok (.bl b) S := by
  simp only [bIsi2, hm, h]
theorem at1 {n f : Str} {d : D} (h : (List.lookup (Cn.own n) xtab).isSome = true) (S : Sto) : dAtX xtab f (.exc (.own n) [(f, d)]) S = .ok d S := by
  unfold dAtX
  simp only [h, if_true]
  simp [List.lookup]
theorem add33 (a b c d e f : D) (S : Sto) : dAdd (.fl [a, b, c]) (.fl [d, e, f]) S = .ok (.fl [a, b, c, d, e, f]) S := add_fl [a, b, c] [d, e, f] (by simp) S
theorem add63 (a b c d e f g h i : D) (S : Sto) : dAdd (.fl [a, b, c, d, e, f]) (.fl [g, h, i]) S = .ok (.fl [a, b, c, d, e, f, g, h, i]) S := add_fl [a, b, c, d, e, f] [g, h, i] (by simp) S
theorem add93 (a b c d e f g h i j k l : D) (S : Sto) : dAdd (.fl [a, b, c, d, e, f, g, h, i]) (.fl [j, k, l]) S = .ok (.fl [a, b, c, d, e, f, g, h, i, j, k, l]) S := add_fl [a, b, c, d, e, f, g, h, i] [j, k, l] (by simp) S
theorem alone_BadText (fs : List (Str × D)) (S : Sto) : F__law_alone [.exc (.own "BadText") fs] S = .ok (.bl true) S := by
  refine fnC_rt rfl ?_ rfl
  unfold B__law_alone
  have cn : ∀ S, mCntL (.fl [.bl false, .bl false, .bl false, .bl false, .bl true, .bl false, .bl false, .bl false, .bl false, .bl false, .bl false, .bl false]) [.bl true] S = .ok (.int 1) S := fun S => rfl
  have il : ∀ (a b c d e f g h i j k l : D) S, isLst S (.fl [a, b, c, d, e, f, g, h, i, j, k, l]) = true := fun _ _ _ _ _ _ _ _ _ _ _ _ S => rfl
  have eq1 : ∀ S, dEq false (.int 1) (.int 1) S = .ok (.bl true) S := fun S => rfl
  have a0 := isC (n := "BadText") (m := "NotReady") (b := false) fs (by decide +kernel)
  have a1 := isC (n := "BadText") (m := "NoBeginning") (b := false) fs (by decide +kernel)
  have a2 := isC (n := "BadText") (m := "NoRows") (b := false) fs (by decide +kernel)
  have a3 := isC (n := "BadText") (m := "TooLong") (b := false) fs (by decide +kernel)
  have a4 := isC (n := "BadText") (m := "BadText") (b := true) fs (by decide +kernel)
  have a5 := isC (n := "BadText") (m := "NoArity") (b := false) fs (by decide +kernel)
  have a6 := isC (n := "BadText") (m := "LastToken") (b := false) fs (by decide +kernel)
  have a7 := isC (n := "BadText") (m := "OtherEffect") (b := false) fs (by decide +kernel)
  have a8 := isC (n := "BadText") (m := "NoProperty") (b := false) fs (by decide +kernel)
  have a9 := isC (n := "BadText") (m := "BadWish") (b := false) fs (by decide +kernel)
  have a10 := isC (n := "BadText") (m := "NoPlace") (b := false) fs (by decide +kernel)
  have a11 := isC (n := "BadText") (m := "NoIndex") (b := false) fs (by decide +kernel)
  have c1 := fun S => isB (n := "BadText") (m := "LookupError") (b := false) fs (by decide +kernel) S rfl
  have c3 := isC (n := "BadText") (m := "RingError") (b := true) fs (by decide +kernel)
  simp only [eVar, eC, eOp, eT, eAnd, eOr, eNot, eIf, eAndV, eOrV, eNotV, eCall, aNil, aCons, aStar, sOf, eTup, eFl, eLoc, eSl, oNone, oSome, iOf, eNeg, eChain, eMt, bOf, eDict0, eRev, eListRg, iZipD, sRaise1, sRaise0, eCallV, List.lookup, R.bind_ok, R.bind_er, R.bind_stuck, R.toS_ok, R.toS_er, R.toS_stuck, SR.next_nx, SR.next_rt, SR.next_er, SR.next_bk, SR.next_ct, SR.next_stuck, sNil, sSeq, sBrk, sCnt, sExp, sRet, sRetN, sIf, sSet, sAsg, sAug, sPar2, sPar3, tN, DL.tTup, DL.tNil, DL.tCons, DL.tSub, iSeq, srcOf_tup, srcOf_fl, srcOf_kl, srcOf_ti, iRange1, iRange2, sFor, startD, List.map_cons, List.map_nil, List.length_cons, List.length_nil, List.replicate, List.cons_append, List.nil_append, List.getElem?_cons_zero, List.getElem?_cons_succ, List.set_cons_zero, List.set_cons_succ, dSub_int, dFdiv_int, dMod_int, dLt_int, dLe_int, dGt_int, dGe_int, dAddI_int, dSubI_int, dIsN_non, isN, dAdd_int, ll0, ll1, ll2, ll3, ll4, ll5, ll6, ll7, ll8, ll9, ll10, ll11, ll12, ll13, ll14, ll15, ll16, ll17, ll18, ll19, ll20, ll21, ll22, ll23, ll24, ll25, ll26, ll27, ll28, ll29, ll30, ll31, ll32, ll33, ll34, ll35, ll36, ll37, ll38, ll39, ll40, Nat.reduceSub, Nat.reduceAdd, Nat.reduceEqDiff, if_true, if_false, ifp_t, ifp_f, reduceIte, Bool.true_eq_false, Bool.false_eq_true, Option.map_some, Option.map_none, Option.bind_some, Option.bind_none, tSq, sSet2, seqOf_fl, seqOf_tup, seqOf_ti, a0, a1, a2, a3, a4, a5, a6, a7, a8, a9, a10, a11, add33, add63, add93, c1, il, cn, eq1, c3]
theorem split_ok (l : List Nat) (hl : l.length ≤ 10 ^ 6) (S : Sto) : F_split_name [.str (L l)] S = .ok (.tup [.str (L (l.takeWhile lt)), .str (L (l.dropWhile lt))]) S := by
  have hst : startD 3 [D.str (L l)] = [some (.str (L l)), none, none] := rfl
  have loop : ∀ (r pre : List Nat) (x1 x2 : Option D), l = pre ++ r → (∀ c ∈ pre, lt c = true) →
      forD yes (tTup 2 (tCons (tN 1) (tCons (tN 2) tNil))) L1_split_name (sRet (eTup (aCons (eVar 0) (aCons (eC (.str "")) aNil)))) (enumD pre.length (r.map fun c => D.str ⟨#[c]⟩)) [some (.str (L l)), x1, x2] S = .rt (.tup [.str (L (l.takeWhile lt)), .str (L (l.dropWhile lt))]) S := by
    intro r
    induction r with
    | nil =>
      intro pre x1 x2 e hp
      rw [List.append_nil] at e
      subst e
      have t1 : l.takeWhile lt = l := by
        have := List.takeWhile_append_of_pos (p := lt) (l₁ := l) (l₂ := []) hp
        simpa using this
      have t2 : l.dropWhile lt = [] := by
        have := List.dropWhile_append_of_pos (p := lt) (l₁ := l) (l₂ := []) hp
        simpa using this
      have e0 : (("" : String) : Str) = L [] := rfl
      rw [List.map_nil, enumD, forD_nil trivial, t1, t2, e0]
      simp only [eVar, eC, eOp, eT, eAnd, eOr, eNot, eIf, eAndV, eOrV, eNotV, eCall, aNil, aCons, aStar, sOf, eTup, eFl, eLoc, eSl, oNone, oSome, iOf, eNeg, eChain, eMt, bOf, eDict0, eRev, eListRg, iZipD, sRaise1, sRaise0, eCallV, List.lookup, R.bind_ok, R.bind_er, R.bind_stuck, R.toS_ok, R.toS_er, R.toS_stuck, SR.next_nx, SR.next_rt, SR.next_er, SR.next_bk, SR.next_ct, SR.next_stuck, sNil, sSeq, sBrk, sCnt, sExp, sRet, sRetN, sIf, sSet, sAsg, sAug, sPar2, sPar3, tN, DL.tTup, DL.tNil, DL.tCons, DL.tSub, iSeq, srcOf_tup, srcOf_fl, srcOf_kl, srcOf_ti, iRange1, iRange2, sFor, startD, List.map_cons, List.map_nil, List.length_cons, List.length_nil, List.replicate, List.cons_append, List.nil_append, List.getElem?_cons_zero, List.getElem?_cons_succ, List.set_cons_zero, List.set_cons_succ, dSub_int, dFdiv_int, dMod_int, dLt_int, dLe_int, dGt_int, dGe_int, dAddI_int, dSubI_int, dIsN_non, isN, dAdd_int, ll0, ll1, ll2, ll3, ll4, ll5, ll6, ll7, ll8, ll9, ll10, ll11, ll12, ll13, ll14, ll15, ll16, ll17, ll18, ll19, ll20, ll21, ll22, ll23, ll24, ll25, ll26, ll27, ll28, ll29, ll30, ll31, ll32, ll33, ll34, ll35, ll36, ll37, ll38, ll39, ll40, Nat.reduceSub, Nat.reduceAdd, Nat.reduceEqDiff, if_true, if_false, ifp_t, ifp_f, reduceIte, Bool.true_eq_false, Bool.false_eq_true, Option.map_some, Option.map_none, Option.bind_some, Option.bind_none, tSq, sSet2, seqOf_fl, seqOf_tup, seqOf_ti]
    | cons c r ih =>
      intro pre x1 x2 e hp
      rw [List.map_cons, enumD]
      have hT : tTup 2 (tCons (tN 1) (tCons (tN 2) tNil)) (.tup [.int (pre.length : Nat), .str ⟨#[c]⟩]) [some (.str (L l)), x1, x2] S = some ([some (.str (L l)), some (.int (pre.length : Nat)), some (.str ⟨#[c]⟩)], S) := rfl
      have ni : ∀ S, dNotInS (.str ⟨#[c]⟩) d_LETTERS S = .ok (.bl (!lt c)) S := fun S => by
        show R.ok (D.bl (!(!(Builtin.Str.occurrences abc ⟨#[c]⟩ 0 abc.length 1).isEmpty))) S = _
        rw [in_abc]
      cases hc : lt c with
      | true =>
        rw [hc] at ni
        have st : L1_split_name [some (.str (L l)), some (.int (pre.length : Nat)), some (.str ⟨#[c]⟩)] S = .nx [some (.str (L l)), some (.int (pre.length : Nat)), some (.str ⟨#[c]⟩)] S := by
          simp only [eVar, eC, eOp, eT, eAnd, eOr, eNot, eIf, eAndV, eOrV, eNotV, eCall, aNil, aCons, aStar, sOf, eTup, eFl, eLoc, eSl, oNone, oSome, iOf, eNeg, eChain, eMt, bOf, eDict0, eRev, eListRg, iZipD, sRaise1, sRaise0, eCallV, List.lookup, R.bind_ok, R.bind_er, R.bind_stuck, R.toS_ok, R.toS_er, R.toS_stuck, SR.next_nx, SR.next_rt, SR.next_er, SR.next_bk, SR.next_ct, SR.next_stuck, sNil, sSeq, sBrk, sCnt, sExp, sRet, sRetN, sIf, sSet, sAsg, sAug, sPar2, sPar3, tN, DL.tTup, DL.tNil, DL.tCons, DL.tSub, iSeq, srcOf_tup, srcOf_fl, srcOf_kl, srcOf_ti, iRange1, iRange2, sFor, startD, List.map_cons, List.map_nil, List.length_cons, List.length_nil, List.replicate, List.cons_append, List.nil_append, List.getElem?_cons_zero, List.getElem?_cons_succ, List.set_cons_zero, List.set_cons_succ, dSub_int, dFdiv_int, dMod_int, dLt_int, dLe_int, dGt_int, dGe_int, dAddI_int, dSubI_int, dIsN_non, isN, dAdd_int, ll0, ll1, ll2, ll3, ll4, ll5, ll6, ll7, ll8, ll9, ll10, ll11, ll12, ll13, ll14, ll15, ll16, ll17, ll18, ll19, ll20, ll21, ll22, ll23, ll24, ll25, ll26, ll27, ll28, ll29, ll30, ll31, ll32, ll33, ll34, ll35, ll36, ll37, ll38, ll39, ll40, Nat.reduceSub, Nat.reduceAdd, Nat.reduceEqDiff, if_true, if_false, ifp_t, ifp_f, reduceIte, Bool.true_eq_false, Bool.false_eq_true, Option.map_some, Option.map_none, Option.bind_some, Option.bind_none, tSq, sSet2, seqOf_fl, seqOf_tup, seqOf_ti, L1_split_name, ni, Bool.not_true]
        rw [forD_cons (g := yes) trivial hT st]
        have := ih (pre ++ [c]) (some (.int (pre.length : Nat))) (some (.str ⟨#[c]⟩)) (by rw [e]; simp) (fun x hx => by
          rcases List.mem_append.mp hx with hx | hx
          · exact hp x hx
          · rw [List.mem_singleton.mp hx]; exact hc)
        rw [List.length_append, List.length_singleton] at this
        exact this
      | false =>
        rw [hc] at ni
        have t1 : l.takeWhile lt = pre := by
          rw [e, List.takeWhile_append_of_pos hp, List.takeWhile_cons_of_neg (by rw [hc]; decide), List.append_nil]
        have t2 : l.dropWhile lt = c :: r := by
          rw [e, List.dropWhile_append_of_pos hp, List.dropWhile_cons_of_neg (by rw [hc]; decide)]
        have s1 := sl_to_L l hl pre.length
        have s2 := sl_from_L l hl pre.length
        have d1 : l.take pre.length = pre := by rw [e, List.take_left]
        have d2 : l.drop pre.length = c :: r := by rw [e, List.drop_left]
        rw [d1] at s1
        rw [d2] at s2
        have st : L1_split_name [some (.str (L l)), some (.int (pre.length : Nat)), some (.str ⟨#[c]⟩)] S = .rt (.tup [.str (L pre), .str (L (c :: r))]) S := by
          simp only [eVar, eC, eOp, eT, eAnd, eOr, eNot, eIf, eAndV, eOrV, eNotV, eCall, aNil, aCons, aStar, sOf, eTup, eFl, eLoc, eSl, oNone, oSome, iOf, eNeg, eChain, eMt, bOf, eDict0, eRev, eListRg, iZipD, sRaise1, sRaise0, eCallV, List.lookup, R.bind_ok, R.bind_er, R.bind_stuck, R.toS_ok, R.toS_er, R.toS_stuck, SR.next_nx, SR.next_rt, SR.next_er, SR.next_bk, SR.next_ct, SR.next_stuck, sNil, sSeq, sBrk, sCnt, sExp, sRet, sRetN, sIf, sSet, sAsg, sAug, sPar2, sPar3, tN, DL.tTup, DL.tNil, DL.tCons, DL.tSub, iSeq, srcOf_tup, srcOf_fl, srcOf_kl, srcOf_ti, iRange1, iRange2, sFor, startD, List.map_cons, List.map_nil, List.length_cons, List.length_nil, List.replicate, List.cons_append, List.nil_append, List.getElem?_cons_zero, List.getElem?_cons_succ, List.set_cons_zero, List.set_cons_succ, dSub_int, dFdiv_int, dMod_int, dLt_int, dLe_int, dGt_int, dGe_int, dAddI_int, dSubI_int, dIsN_non, isN, dAdd_int, ll0, ll1, ll2, ll3, ll4, ll5, ll6, ll7, ll8, ll9, ll10, ll11, ll12, ll13, ll14, ll15, ll16, ll17, ll18, ll19, ll20, ll21, ll22, ll23, ll24, ll25, ll26, ll27, ll28, ll29, ll30, ll31, ll32, ll33, ll34, ll35, ll36, ll37, ll38, ll39, ll40, Nat.reduceSub, Nat.reduceAdd, Nat.reduceEqDiff, if_true, if_false, ifp_t, ifp_f, reduceIte, Bool.true_eq_false, Bool.false_eq_true, Option.map_some, Option.map_none, Option.bind_some, Option.bind_none, tSq, sSet2, seqOf_fl, seqOf_tup, seqOf_ti, L1_split_name, ni, Bool.not_false, s1, s2]
        rw [t1, t2, forD, if_pos (show yes S from trivial), hT]
        simp only [st]
  refine fnC_rt rfl ?_ rfl
  rw [hst]
  unfold B_split_name
  have sg : DL.signs (L l) = l.map fun c => D.str ⟨#[c]⟩ := by unfold DL.signs; rw [L_cps]
  have := loop l [] none none rfl (by simp)
  rw [List.length_nil] at this
  simp only [eVar, eC, eOp, eT, eAnd, eOr, eNot, eIf, eAndV, eOrV, eNotV, eCall, aNil, aCons, aStar, sOf, eTup, eFl, eLoc, eSl, oNone, oSome, iOf, eNeg, eChain, eMt, bOf, eDict0, eRev, eListRg, iZipD, sRaise1, sRaise0, eCallV, List.lookup, R.bind_ok, R.bind_er, R.bind_stuck, R.toS_ok, R.toS_er, R.toS_stuck, SR.next_nx, SR.next_rt, SR.next_er, SR.next_bk, SR.next_ct, SR.next_stuck, sNil, sSeq, sBrk, sCnt, sExp, sRet, sRetN, sIf, sSet, sAsg, sAug, sPar2, sPar3, tN, DL.tTup, DL.tNil, DL.tCons, DL.tSub, iSeq, srcOf_tup, srcOf_fl, srcOf_kl, srcOf_ti, iRange1, iRange2, sFor, startD, List.map_cons, List.map_nil, List.length_cons, List.length_nil, List.replicate, List.cons_append, List.nil_append, List.getElem?_cons_zero, List.getElem?_cons_succ, List.set_cons_zero, List.set_cons_succ, dSub_int, dFdiv_int, dMod_int, dLt_int, dLe_int, dGt_int, dGe_int, dAddI_int, dSubI_int, dIsN_non, isN, dAdd_int, ll0, ll1, ll2, ll3, ll4, ll5, ll6, ll7, ll8, ll9, ll10, ll11, ll12, ll13, ll14, ll15, ll16, ll17, ll18, ll19, ll20, ll21, ll22, ll23, ll24, ll25, ll26, ll27, ll28, ll29, ll30, ll31, ll32, ll33, ll34, ll35, ll36, ll37, ll38, ll39, ll40, Nat.reduceSub, Nat.reduceAdd, Nat.reduceEqDiff, if_true, if_false, ifp_t, ifp_f, reduceIte, Bool.true_eq_false, Bool.false_eq_true, Option.map_some, Option.map_none, Option.bind_some, Option.bind_none, tSq, sSet2, seqOf_fl, seqOf_tup, seqOf_ti, iEnumS, sg, this]
section
variable {S0 : Sto} {s : RS}
theorem skip_ok (k : Nat) (h : s.r.length ≤ 10 ^ 6) : F_TermReader_skip [.loc S0.length, .int (k : Int)] (rdrS S0 s) = .ok .non (rdrS S0 { s with r := s.r.drop k }) := by
  have hst : startD 2 [D.loc S0.length, .int (k : Int)] = [some (.loc S0.length), some (.int (k : Int))] := rfl
  have f1 : dFld ocs_rest "rest" (.loc S0.length) (rdrS S0 s) = .ok (.str (L s.r)) (rdrS S0 s) := fld_rest
  have p1 : setI ocs_rest "rest" (.loc S0.length) (.str (L (s.r.drop k))) (rdrS S0 s) = some (rdrS S0 { s with r := s.r.drop k }) := put_rest _
  have sl := sl_from_L s.r h k
  refine fnC_nx rfl (ρ := [some (.loc S0.length), some (.int (k : Int))]) ?_ (by rw [rdrS_len, rdrS_len])
  rw [hst]
  unfold B_TermReader_skip
  simp only [eVar, eC, eOp, eT, eAnd, eOr, eNot, eIf, eAndV, eOrV, eNotV, eCall, aNil, aCons, aStar, sOf, eTup, eFl, eLoc, eSl, oNone, oSome, iOf, eNeg, eChain, eMt, bOf, eDict0, eRev, eListRg, iZipD, sRaise1, sRaise0, eCallV, List.lookup, R.bind_ok, R.bind_er, R.bind_stuck, R.toS_ok, R.toS_er, R.toS_stuck, SR.next_nx, SR.next_rt, SR.next_er, SR.next_bk, SR.next_ct, SR.next_stuck, sNil, sSeq, sBrk, sCnt, sExp, sRet, sRetN, sIf, sSet, sAsg, sAug, sPar2, sPar3, tN, DL.tTup, DL.tNil, DL.tCons, DL.tSub, iSeq, srcOf_tup, srcOf_fl, srcOf_kl, srcOf_ti, iRange1, iRange2, sFor, startD, List.map_cons, List.map_nil, List.length_cons, List.length_nil, List.replicate, List.cons_append, List.nil_append, List.getElem?_cons_zero, List.getElem?_cons_succ, List.set_cons_zero, List.set_cons_succ, dSub_int, dFdiv_int, dMod_int, dLt_int, dLe_int, dGt_int, dGe_int, dAddI_int, dSubI_int, dIsN_non, isN, dAdd_int, ll0, ll1, ll2, ll3, ll4, ll5, ll6, ll7, ll8, ll9, ll10, ll11, ll12, ll13, ll14, ll15, ll16, ll17, ll18, ll19, ll20, ll21, ll22, ll23, ll24, ll25, ll26, ll27, ll28, ll29, ll30, ll31, ll32, ll33, ll34, ll35, ll36, ll37, ll38, ll39, ll40, Nat.reduceSub, Nat.reduceAdd, Nat.reduceEqDiff, if_true, if_false, ifp_t, ifp_f, reduceIte, Bool.true_eq_false, Bool.false_eq_true, Option.map_some, Option.map_none, Option.bind_some, Option.bind_none, tSq, sSet2, seqOf_fl, seqOf_tup, seqOf_ti, eFld, eMth, eNew, sMatch, cText, cAny, cNil, tAttr, f1, sl, p1]
theorem add_ok (x : List Nat) (a : Int) (h1 : s.nm.length < 10 ^ 6) (h2 : s.row.length < 10 ^ 6) : F_TermReader_add_token [.loc S0.length, .str (L x), .int a] (rdrS S0 s) = .ok .non (rdrS S0 { s with nm := s.nm ++ [x], row := s.row ++ [a] }) := by
  have hst : startD 3 [D.loc S0.length, .str (L x), .int a] = [some (.loc S0.length), some (.str (L x)), some (.int a)] := rfl
  have f1 : dFld ocs_names "names" (.loc S0.length) (rdrS S0 s) = .ok (.loc (S0.length + 2)) (rdrS S0 s) := fld_nm
  have f2 : dFld ocs_row "row" (.loc S0.length) (rdrS S0 { s with nm := s.nm ++ [x] }) = .ok (.loc (S0.length + 1)) (rdrS S0 { s with nm := s.nm ++ [x] }) := fld_row
  have i1 := isLst_at (rd_nm (S0 := S0) (s := s))
  have i2 := isLst_at (rd_row (S0 := S0) (s := { s with nm := s.nm ++ [x] }))
  have a1 := app_nm (S0 := S0) x h1
  have a2 := app_row (S0 := S0) (s := { s with nm := s.nm ++ [x] }) a h2
  refine fnC_nx rfl (ρ := [some (.loc S0.length), some (.str (L x)), some (.int a)]) ?_ (by rw [rdrS_len, rdrS_len])
  rw [hst]
  unfold B_TermReader_add_token
  simp only [eVar, eC, eOp, eT, eAnd, eOr, eNot, eIf, eAndV, eOrV, eNotV, eCall, aNil, aCons, aStar, sOf, eTup, eFl, eLoc, eSl, oNone, oSome, iOf, eNeg, eChain, eMt, bOf, eDict0, eRev, eListRg, iZipD, sRaise1, sRaise0, eCallV, List.lookup, R.bind_ok, R.bind_er, R.bind_stuck, R.toS_ok, R.toS_er, R.toS_stuck, SR.next_nx, SR.next_rt, SR.next_er, SR.next_bk, SR.next_ct, SR.next_stuck, sNil, sSeq, sBrk, sCnt, sExp, sRet, sRetN, sIf, sSet, sAsg, sAug, sPar2, sPar3, tN, DL.tTup, DL.tNil, DL.tCons, DL.tSub, iSeq, srcOf_tup, srcOf_fl, srcOf_kl, srcOf_ti, iRange1, iRange2, sFor, startD, List.map_cons, List.map_nil, List.length_cons, List.length_nil, List.replicate, List.cons_append, List.nil_append, List.getElem?_cons_zero, List.getElem?_cons_succ, List.set_cons_zero, List.set_cons_succ, dSub_int, dFdiv_int, dMod_int, dLt_int, dLe_int, dGt_int, dGe_int, dAddI_int, dSubI_int, dIsN_non, isN, dAdd_int, ll0, ll1, ll2, ll3, ll4, ll5, ll6, ll7, ll8, ll9, ll10, ll11, ll12, ll13, ll14, ll15, ll16, ll17, ll18, ll19, ll20, ll21, ll22, ll23, ll24, ll25, ll26, ll27, ll28, ll29, ll30, ll31, ll32, ll33, ll34, ll35, ll36, ll37, ll38, ll39, ll40, Nat.reduceSub, Nat.reduceAdd, Nat.reduceEqDiff, if_true, if_false, ifp_t, ifp_f, reduceIte, Bool.true_eq_false, Bool.false_eq_true, Option.map_some, Option.map_none, Option.bind_some, Option.bind_none, tSq, sSet2, seqOf_fl, seqOf_tup, seqOf_ti, eFld, eMth, eNew, sMatch, cText, cAny, cNil, tAttr, f1, i1, a1, f2, i2, a2]
theorem one_sign {l : List Nat} {c : Nat} : (l.take 1 = [c]) ↔ ∃ r, l = c :: r := by
  cases l with
  | nil => simp
  | cons a l => simp
theorem clo_ok : ∀ (r : List Nat) (row : List Int) (nm : List (List Nat)) (op : List (List Nat × Int)) (x1 x2 : Option D) (n : Nat), r.length < n → Sm (10 ^ 5) ⟨r, row, nm, op⟩ →
    ∃ y1 y2, whileD C1_TermReader_close_terms L1_TermReader_close_terms n [some (.loc S0.length), x1, x2] (rdrS S0 ⟨r, row, nm, op⟩) = .nx [some (.loc S0.length), y1, y2] (rdrS S0 (clo r row nm op))
  | r, row, nm, op, x1, x2, 0, hn, _ => by omega
  | r, row, nm, op, x1, x2, n + 1, hn, hs => by
    obtain ⟨m1, m2, m3⟩ := hs
    simp only at m1 m2 m3
    have f1 : dFld ocs_opened "opened" (.loc S0.length) (rdrS S0 ⟨r, row, nm, op⟩) = .ok (.loc (S0.length + 3)) (rdrS S0 ⟨r, row, nm, op⟩) := fld_op
    have n1 := nil_op (S0 := S0) (s := ⟨r, row, nm, op⟩) true
    simp only [if_true] at n1
    have f2 : dFld ocs_rest "rest" (.loc S0.length) (rdrS S0 ⟨r, row, nm, op⟩) = .ok (.str (L r)) (rdrS S0 ⟨r, row, nm, op⟩) := fld_rest
    have sl : ∀ S, dSl mkFl (.str (L r)) none (some 1) S = .ok (.str (L (r.take 1))) S := fun S => sl_to_L r (by omega) 1 S
    have q : ∀ S, dEq false (.str (L (r.take 1))) (.str ")") S = .ok (.bl (decide (r.take 1 = [41]))) S := fun S => by
      have := eq_L false (r.take 1) [41] S
      simp only [Bool.false_eq_true, if_false] at this
      exact this
    cases hl : op.getLast? with
    | none =>
      have he : op = [] := by simpa using hl
      subst he
      refine ⟨x1, x2, ?_⟩
      have ec : clo r row nm [] = ⟨r, row, nm, []⟩ := by
        cases r with
        | nil => rfl
        | cons c r => rw [clo]; simp
      rw [ec]
      refine whileD_end ?_
      have nb : dEqY true (.loc (S0.length + 3)) (.fl []) (rdrS S0 ⟨r, row, nm, []⟩) = .ok (.bl false) (rdrS S0 ⟨r, row, nm, []⟩) := n1
      simp only [eVar, eC, eOp, eT, eAnd, eOr, eNot, eIf, eAndV, eOrV, eNotV, eCall, aNil, aCons, aStar, sOf, eTup, eFl, eLoc, eSl, oNone, oSome, iOf, eNeg, eChain, eMt, bOf, eDict0, eRev, eListRg, iZipD, sRaise1, sRaise0, eCallV, List.lookup, R.bind_ok, R.bind_er, R.bind_stuck, R.toS_ok, R.toS_er, R.toS_stuck, SR.next_nx, SR.next_rt, SR.next_er, SR.next_bk, SR.next_ct, SR.next_stuck, sNil, sSeq, sBrk, sCnt, sExp, sRet, sRetN, sIf, sSet, sAsg, sAug, sPar2, sPar3, tN, DL.tTup, DL.tNil, DL.tCons, DL.tSub, iSeq, srcOf_tup, srcOf_fl, srcOf_kl, srcOf_ti, iRange1, iRange2, sFor, startD, List.map_cons, List.map_nil, List.length_cons, List.length_nil, List.replicate, List.cons_append, List.nil_append, List.getElem?_cons_zero, List.getElem?_cons_succ, List.set_cons_zero, List.set_cons_succ, dSub_int, dFdiv_int, dMod_int, dLt_int, dLe_int, dGt_int, dGe_int, dAddI_int, dSubI_int, dIsN_non, isN, dAdd_int, ll0, ll1, ll2, ll3, ll4, ll5, ll6, ll7, ll8, ll9, ll10, ll11, ll12, ll13, ll14, ll15, ll16, ll17, ll18, ll19, ll20, ll21, ll22, ll23, ll24, ll25, ll26, ll27, ll28, ll29, ll30, ll31, ll32, ll33, ll34, ll35, ll36, ll37, ll38, ll39, ll40, Nat.reduceSub, Nat.reduceAdd, Nat.reduceEqDiff, if_true, if_false, ifp_t, ifp_f, reduceIte, Bool.true_eq_false, Bool.false_eq_true, Option.map_some, Option.map_none, Option.bind_some, Option.bind_none, tSq, sSet2, seqOf_fl, seqOf_tup, seqOf_ti, eFld, eMth, eNew, sMatch, cText, cAny, cNil, tAttr, C1_TermReader_close_terms, f1, nb]
    | some p =>
      obtain ⟨pn, pa⟩ := p
      have hsp := last_split hl
      have ne : op.isEmpty = false := by
        cases op with
        | nil => simp at hl
        | cons a b => rfl
      have nb : dEqY true (.loc (S0.length + 3)) (.fl []) (rdrS S0 ⟨r, row, nm, op⟩) = .ok (.bl true) (rdrS S0 ⟨r, row, nm, op⟩) := by rw [n1, ne]; rfl
      by_cases hc : r.take 1 = [41]
      · obtain ⟨r', rfl⟩ := one_sign.mp hc
        rw [decide_eq_true hc] at q
        have hlen := congrArg List.length hsp
        rw [List.length_append, List.length_singleton] at hlen
        rw [List.length_cons] at m1 m2 m3 hn
        obtain ⟨y1, y2, ih⟩ := clo_ok r' (row ++ [pa]) (nm ++ [pn]) op.dropLast (some (.str (L pn))) (some (.int pa)) n (by omega) ⟨by simp only [List.length_append, List.length_singleton]; omega, by simp only [List.length_append, List.length_singleton]; omega, by simp only; omega⟩
        refine ⟨y1, y2, ?_⟩
        have ec : clo (41 :: r') row nm op = clo r' (row ++ [pa]) (nm ++ [pn]) op.dropLast := by
          rw [clo, if_pos rfl, hl]
        rw [ec]
        rw [whileD_next (S1 := rdrS S0 ⟨41 :: r', row, nm, op⟩) (ρ2 := [some (.loc S0.length), some (.str (L pn)), some (.int pa)]) (S2 := rdrS S0 ⟨r', row ++ [pa], nm ++ [pn], op.dropLast⟩) ?_ ?_]
        · exact ih
        · simp only [eVar, eC, eOp, eT, eAnd, eOr, eNot, eIf, eAndV, eOrV, eNotV, eCall, aNil, aCons, aStar, sOf, eTup, eFl, eLoc, eSl, oNone, oSome, iOf, eNeg, eChain, eMt, bOf, eDict0, eRev, eListRg, iZipD, sRaise1, sRaise0, eCallV, List.lookup, R.bind_ok, R.bind_er, R.bind_stuck, R.toS_ok, R.toS_er, R.toS_stuck, SR.next_nx, SR.next_rt, SR.next_er, SR.next_bk, SR.next_ct, SR.next_stuck, sNil, sSeq, sBrk, sCnt, sExp, sRet, sRetN, sIf, sSet, sAsg, sAug, sPar2, sPar3, tN, DL.tTup, DL.tNil, DL.tCons, DL.tSub, iSeq, srcOf_tup, srcOf_fl, srcOf_kl, srcOf_ti, iRange1, iRange2, sFor, startD, List.map_cons, List.map_nil, List.length_cons, List.length_nil, List.replicate, List.cons_append, List.nil_append, List.getElem?_cons_zero, List.getElem?_cons_succ, List.set_cons_zero, List.set_cons_succ, dSub_int, dFdiv_int, dMod_int, dLt_int, dLe_int, dGt_int, dGe_int, dAddI_int, dSubI_int, dIsN_non, isN, dAdd_int, ll0, ll1, ll2, ll3, ll4, ll5, ll6, ll7, ll8, ll9, ll10, ll11, ll12, ll13, ll14, ll15, ll16, ll17, ll18, ll19, ll20, ll21, ll22, ll23, ll24, ll25, ll26, ll27, ll28, ll29, ll30, ll31, ll32, ll33, ll34, ll35, ll36, ll37, ll38, ll39, ll40, Nat.reduceSub, Nat.reduceAdd, Nat.reduceEqDiff, if_true, if_false, ifp_t, ifp_f, reduceIte, Bool.true_eq_false, Bool.false_eq_true, Option.map_some, Option.map_none, Option.bind_some, Option.bind_none, tSq, sSet2, seqOf_fl, seqOf_tup, seqOf_ti, eFld, eMth, eNew, sMatch, cText, cAny, cNil, tAttr, C1_TermReader_close_terms, f1, nb, f2, sl, q]
        · have pp : mPop (.loc (S0.length + 3)) [] (rdrS S0 ⟨41 :: r', row, nm, op⟩) = .ok (.tup [.str (L pn), .int pa]) (rdrS S0 ⟨41 :: r', row, nm, op.dropLast⟩) := pop_op (S0 := S0) (s := ⟨41 :: r', row, nm, op⟩) hsp
          have il := isLst_at (rd_op (S0 := S0) (s := ⟨41 :: r', row, nm, op⟩))
          have sq : ∀ S, seqOf S (.tup [.str (L pn), .int pa]) = some [.str (L pn), .int pa] := fun S => rfl
          have ad := add_ok (S0 := S0) (s := ⟨41 :: r', row, nm, op.dropLast⟩) pn pa (by simp only; omega) (by simp only; omega)
          have sk : F_TermReader_skip [.loc S0.length, .int 1] (rdrS S0 ⟨41 :: r', row ++ [pa], nm ++ [pn], op.dropLast⟩) = .ok .non (rdrS S0 ⟨r', row ++ [pa], nm ++ [pn], op.dropLast⟩) := skip_ok (S0 := S0) (s := ⟨41 :: r', row ++ [pa], nm ++ [pn], op.dropLast⟩) 1 (by simp only [List.length_cons]; omega)
          have k1 := mth_rd (S0 := S0) (m := "add_token") (by decide)
          have k2 := mth_rd (S0 := S0) (m := "skip") (by decide)
          simp only [eVar, eC, eOp, eT, eAnd, eOr, eNot, eIf, eAndV, eOrV, eNotV, eCall, aNil, aCons, aStar, sOf, eTup, eFl, eLoc, eSl, oNone, oSome, iOf, eNeg, eChain, eMt, bOf, eDict0, eRev, eListRg, iZipD, sRaise1, sRaise0, eCallV, List.lookup, R.bind_ok, R.bind_er, R.bind_stuck, R.toS_ok, R.toS_er, R.toS_stuck, SR.next_nx, SR.next_rt, SR.next_er, SR.next_bk, SR.next_ct, SR.next_stuck, sNil, sSeq, sBrk, sCnt, sExp, sRet, sRetN, sIf, sSet, sAsg, sAug, sPar2, sPar3, tN, DL.tTup, DL.tNil, DL.tCons, DL.tSub, iSeq, srcOf_tup, srcOf_fl, srcOf_kl, srcOf_ti, iRange1, iRange2, sFor, startD, List.map_cons, List.map_nil, List.length_cons, List.length_nil, List.replicate, List.cons_append, List.nil_append, List.getElem?_cons_zero, List.getElem?_cons_succ, List.set_cons_zero, List.set_cons_succ, dSub_int, dFdiv_int, dMod_int, dLt_int, dLe_int, dGt_int, dGe_int, dAddI_int, dSubI_int, dIsN_non, isN, dAdd_int, ll0, ll1, ll2, ll3, ll4, ll5, ll6, ll7, ll8, ll9, ll10, ll11, ll12, ll13, ll14, ll15, ll16, ll17, ll18, ll19, ll20, ll21, ll22, ll23, ll24, ll25, ll26, ll27, ll28, ll29, ll30, ll31, ll32, ll33, ll34, ll35, ll36, ll37, ll38, ll39, ll40, Nat.reduceSub, Nat.reduceAdd, Nat.reduceEqDiff, if_true, if_false, ifp_t, ifp_f, reduceIte, Bool.true_eq_false, Bool.false_eq_true, Option.map_some, Option.map_none, Option.bind_some, Option.bind_none, tSq, sSet2, seqOf_fl, seqOf_tup, seqOf_ti, eFld, eMth, eNew, sMatch, cText, cAny, cNil, tAttr, L1_TermReader_close_terms, f1, il, pp, tSq, sq, k1, k2, ad, sk]
      · rw [decide_eq_false hc] at q
        refine ⟨x1, x2, ?_⟩
        have ec : clo r row nm op = ⟨r, row, nm, op⟩ := by
          cases r with
          | nil => rfl
          | cons c r =>
            rw [clo, if_neg]
            intro e
            exact hc (by rw [e]; rfl)
        rw [ec]
        refine whileD_end ?_
        simp only [eVar, eC, eOp, eT, eAnd, eOr, eNot, eIf, eAndV, eOrV, eNotV, eCall, aNil, aCons, aStar, sOf, eTup, eFl, eLoc, eSl, oNone, oSome, iOf, eNeg, eChain, eMt, bOf, eDict0, eRev, eListRg, iZipD, sRaise1, sRaise0, eCallV, List.lookup, R.bind_ok, R.bind_er, R.bind_stuck, R.toS_ok, R.toS_er, R.toS_stuck, SR.next_nx, SR.next_rt, SR.next_er, SR.next_bk, SR.next_ct, SR.next_stuck, sNil, sSeq, sBrk, sCnt, sExp, sRet, sRetN, sIf, sSet, sAsg, sAug, sPar2, sPar3, tN, DL.tTup, DL.tNil, DL.tCons, DL.tSub, iSeq, srcOf_tup, srcOf_fl, srcOf_kl, srcOf_ti, iRange1, iRange2, sFor, startD, List.map_cons, List.map_nil, List.length_cons, List.length_nil, List.replicate, List.cons_append, List.nil_append, List.getElem?_cons_zero, List.getElem?_cons_succ, List.set_cons_zero, List.set_cons_succ, dSub_int, dFdiv_int, dMod_int, dLt_int, dLe_int, dGt_int, dGe_int, dAddI_int, dSubI_int, dIsN_non, isN, dAdd_int, ll0, ll1, ll2, ll3, ll4, ll5, ll6, ll7, ll8, ll9, ll10, ll11, ll12, ll13, ll14, ll15, ll16, ll17, ll18, ll19, ll20, ll21, ll22, ll23, ll24, ll25, ll26, ll27, ll28, ll29, ll30, ll31, ll32, ll33, ll34, ll35, ll36, ll37, ll38, ll39, ll40, Nat.reduceSub, Nat.reduceAdd, Nat.reduceEqDiff, if_true, if_false, ifp_t, ifp_f, reduceIte, Bool.true_eq_false, Bool.false_eq_true, Option.map_some, Option.map_none, Option.bind_some, Option.bind_none, tSq, sSet2, seqOf_fl, seqOf_tup, seqOf_ti, eFld, eMth, eNew, sMatch, cText, cAny, cNil, tAttr, C1_TermReader_close_terms, f1, nb, f2, sl, q]
theorem close_ok (h : Sm (10 ^ 5) s) (hl : s.r.length < 4000) : F_TermReader_close_terms [.loc S0.length] (rdrS S0 s) = .ok .non (rdrS S0 (clo s.r s.row s.nm s.op)) := by
  have hst : startD 3 [D.loc S0.length] = [some (.loc S0.length), none, none] := rfl
  obtain ⟨r, row, nm, op⟩ := s
  obtain ⟨y1, y2, e⟩ := clo_ok (S0 := S0) r row nm op none none 4000 hl h
  refine fnC_nx rfl (ρ := [some (.loc S0.length), y1, y2]) ?_ (by rw [rdrS_len, rdrS_len])
  rw [hst]
  exact e
theorem two_sign (l : List Nat) (S : Sto) : dEq true (.str (L (l.take 2))) (.str ", ") S = .ok (.bl (!decide (l.take 2 = [44, 32]))) S := by
  have := eq_L true (l.take 2) [44, 32] S
  simp only [if_true] at this
  exact this
theorem next_ok (h : Sm (10 ^ 5) s) : F_TermReader_next_part [.loc S0.length] (rdrS S0 s) = .ok (.bl (nxt s).1) (rdrS S0 (nxt s).2) := by
  have hst : startD 3 [D.loc S0.length] = [some (.loc S0.length), none, none] := rfl
  obtain ⟨r, row, nm, op⟩ := s
  obtain ⟨m1, m2, m3⟩ := h
  simp only at m1 m2 m3
  have f1 : dFld ocs_opened "opened" (.loc S0.length) (rdrS S0 ⟨r, row, nm, op⟩) = .ok (.loc (S0.length + 3)) (rdrS S0 ⟨r, row, nm, op⟩) := fld_op
  have n1 := nil_op (S0 := S0) (s := ⟨r, row, nm, op⟩) false
  simp only [Bool.false_eq_true, if_false] at n1
  have f2 : dFld ocs_rest "rest" (.loc S0.length) (rdrS S0 ⟨r, row, nm, op⟩) = .ok (.str (L r)) (rdrS S0 ⟨r, row, nm, op⟩) := fld_rest
  have sl : ∀ S, dSl mkFl (.str (L r)) none (some 2) S = .ok (.str (L (r.take 2))) S := fun S => sl_to_L r (by omega) 2 S
  have q := two_sign r
  refine fnC_rt rfl ?_ (by rw [rdrS_len, rdrS_len])
  rw [hst]
  unfold B_TermReader_next_part nxt
  cases hl : op.getLast? with
  | none =>
    have he : op = [] := by simpa using hl
    subst he
    have nb : dEqY false (.loc (S0.length + 3)) (.fl []) (rdrS S0 ⟨r, row, nm, []⟩) = .ok (.bl true) (rdrS S0 ⟨r, row, nm, []⟩) := n1
    simp only [eVar, eC, eOp, eT, eAnd, eOr, eNot, eIf, eAndV, eOrV, eNotV, eCall, aNil, aCons, aStar, sOf, eTup, eFl, eLoc, eSl, oNone, oSome, iOf, eNeg, eChain, eMt, bOf, eDict0, eRev, eListRg, iZipD, sRaise1, sRaise0, eCallV, List.lookup, R.bind_ok, R.bind_er, R.bind_stuck, R.toS_ok, R.toS_er, R.toS_stuck, SR.next_nx, SR.next_rt, SR.next_er, SR.next_bk, SR.next_ct, SR.next_stuck, sNil, sSeq, sBrk, sCnt, sExp, sRet, sRetN, sIf, sSet, sAsg, sAug, sPar2, sPar3, tN, DL.tTup, DL.tNil, DL.tCons, DL.tSub, iSeq, srcOf_tup, srcOf_fl, srcOf_kl, srcOf_ti, iRange1, iRange2, sFor, startD, List.map_cons, List.map_nil, List.length_cons, List.length_nil, List.replicate, List.cons_append, List.nil_append, List.getElem?_cons_zero, List.getElem?_cons_succ, List.set_cons_zero, List.set_cons_succ, dSub_int, dFdiv_int, dMod_int, dLt_int, dLe_int, dGt_int, dGe_int, dAddI_int, dSubI_int, dIsN_non, isN, dAdd_int, ll0, ll1, ll2, ll3, ll4, ll5, ll6, ll7, ll8, ll9, ll10, ll11, ll12, ll13, ll14, ll15, ll16, ll17, ll18, ll19, ll20, ll21, ll22, ll23, ll24, ll25, ll26, ll27, ll28, ll29, ll30, ll31, ll32, ll33, ll34, ll35, ll36, ll37, ll38, ll39, ll40, Nat.reduceSub, Nat.reduceAdd, Nat.reduceEqDiff, if_true, if_false, ifp_t, ifp_f, reduceIte, Bool.true_eq_false, Bool.false_eq_true, Option.map_some, Option.map_none, Option.bind_some, Option.bind_none, tSq, sSet2, seqOf_fl, seqOf_tup, seqOf_ti, eFld, eMth, eNew, sMatch, cText, cAny, cNil, tAttr, f1, nb]
  | some p =>
    obtain ⟨pn, pa⟩ := p
    have hsp := last_split hl
    have ne : op.isEmpty = false := by
      cases op with
      | nil => simp at hl
      | cons a b => rfl
    have nb : dEqY false (.loc (S0.length + 3)) (.fl []) (rdrS S0 ⟨r, row, nm, op⟩) = .ok (.bl false) (rdrS S0 ⟨r, row, nm, op⟩) := by rw [n1, ne]
    dsimp only
    by_cases hc : r.take 2 = [44, 32]
    · rw [if_pos hc]
      rw [decide_eq_true hc] at q
      have hlen := congrArg List.length hsp
      rw [List.length_append, List.length_singleton] at hlen
      have pp : mPop (.loc (S0.length + 3)) [] (rdrS S0 ⟨r, row, nm, op⟩) = .ok (.tup [.str (L pn), .int pa]) (rdrS S0 ⟨r, row, nm, op.dropLast⟩) := pop_op (S0 := S0) (s := ⟨r, row, nm, op⟩) hsp
      have il := isLst_at (rd_op (S0 := S0) (s := ⟨r, row, nm, op⟩))
      have sq : ∀ S, seqOf S (.tup [.str (L pn), .int pa]) = some [.str (L pn), .int pa] := fun S => rfl
      have f3 : dFld ocs_opened "opened" (.loc S0.length) (rdrS S0 ⟨r, row, nm, op.dropLast⟩) = .ok (.loc (S0.length + 3)) (rdrS S0 ⟨r, row, nm, op.dropLast⟩) := fld_op
      have il2 := isLst_at (rd_op (S0 := S0) (s := ⟨r, row, nm, op.dropLast⟩))
      have ap : mAppend (.loc (S0.length + 3)) [.tup [.str (L pn), .int (pa + 1)]] (rdrS S0 ⟨r, row, nm, op.dropLast⟩) = .ok .non (rdrS S0 ⟨r, row, nm, op.dropLast ++ [(pn, pa + 1)]⟩) := app_op (S0 := S0) (s := ⟨r, row, nm, op.dropLast⟩) (pn, pa + 1) (by simp only; omega)
      have sk : F_TermReader_skip [.loc S0.length, .int 2] (rdrS S0 ⟨r, row, nm, op.dropLast ++ [(pn, pa + 1)]⟩) = .ok .non (rdrS S0 ⟨r.drop 2, row, nm, op.dropLast ++ [(pn, pa + 1)]⟩) := skip_ok (S0 := S0) (s := ⟨r, row, nm, op.dropLast ++ [(pn, pa + 1)]⟩) 2 (by simp only; omega)
      have k2 := mth_rd (S0 := S0) (m := "skip") (by decide)
      simp only [eVar, eC, eOp, eT, eAnd, eOr, eNot, eIf, eAndV, eOrV, eNotV, eCall, aNil, aCons, aStar, sOf, eTup, eFl, eLoc, eSl, oNone, oSome, iOf, eNeg, eChain, eMt, bOf, eDict0, eRev, eListRg, iZipD, sRaise1, sRaise0, eCallV, List.lookup, R.bind_ok, R.bind_er, R.bind_stuck, R.toS_ok, R.toS_er, R.toS_stuck, SR.next_nx, SR.next_rt, SR.next_er, SR.next_bk, SR.next_ct, SR.next_stuck, sNil, sSeq, sBrk, sCnt, sExp, sRet, sRetN, sIf, sSet, sAsg, sAug, sPar2, sPar3, tN, DL.tTup, DL.tNil, DL.tCons, DL.tSub, iSeq, srcOf_tup, srcOf_fl, srcOf_kl, srcOf_ti, iRange1, iRange2, sFor, startD, List.map_cons, List.map_nil, List.length_cons, List.length_nil, List.replicate, List.cons_append, List.nil_append, List.getElem?_cons_zero, List.getElem?_cons_succ, List.set_cons_zero, List.set_cons_succ, dSub_int, dFdiv_int, dMod_int, dLt_int, dLe_int, dGt_int, dGe_int, dAddI_int, dSubI_int, dIsN_non, isN, dAdd_int, ll0, ll1, ll2, ll3, ll4, ll5, ll6, ll7, ll8, ll9, ll10, ll11, ll12, ll13, ll14, ll15, ll16, ll17, ll18, ll19, ll20, ll21, ll22, ll23, ll24, ll25, ll26, ll27, ll28, ll29, ll30, ll31, ll32, ll33, ll34, ll35, ll36, ll37, ll38, ll39, ll40, Nat.reduceSub, Nat.reduceAdd, Nat.reduceEqDiff, if_true, if_false, ifp_t, ifp_f, reduceIte, Bool.true_eq_false, Bool.false_eq_true, Option.map_some, Option.map_none, Option.bind_some, Option.bind_none, tSq, sSet2, seqOf_fl, seqOf_tup, seqOf_ti, eFld, eMth, eNew, sMatch, cText, cAny, cNil, tAttr, f1, nb, f2, sl, q, Bool.not_true, il, pp, tSq, sq, f3, il2, ap, k2, sk]
    · rw [if_neg hc]
      rw [decide_eq_false hc] at q
      simp only [eVar, eC, eOp, eT, eAnd, eOr, eNot, eIf, eAndV, eOrV, eNotV, eCall, aNil, aCons, aStar, sOf, eTup, eFl, eLoc, eSl, oNone, oSome, iOf, eNeg, eChain, eMt, bOf, eDict0, eRev, eListRg, iZipD, sRaise1, sRaise0, eCallV, List.lookup, R.bind_ok, R.bind_er, R.bind_stuck, R.toS_ok, R.toS_er, R.toS_stuck, SR.next_nx, SR.next_rt, SR.next_er, SR.next_bk, SR.next_ct, SR.next_stuck, sNil, sSeq, sBrk, sCnt, sExp, sRet, sRetN, sIf, sSet, sAsg, sAug, sPar2, sPar3, tN, DL.tTup, DL.tNil, DL.tCons, DL.tSub, iSeq, srcOf_tup, srcOf_fl, srcOf_kl, srcOf_ti, iRange1, iRange2, sFor, startD, List.map_cons, List.map_nil, List.length_cons, List.length_nil, List.replicate, List.cons_append, List.nil_append, List.getElem?_cons_zero, List.getElem?_cons_succ, List.set_cons_zero, List.set_cons_succ, dSub_int, dFdiv_int, dMod_int, dLt_int, dLe_int, dGt_int, dGe_int, dAddI_int, dSubI_int, dIsN_non, isN, dAdd_int, ll0, ll1, ll2, ll3, ll4, ll5, ll6, ll7, ll8, ll9, ll10, ll11, ll12, ll13, ll14, ll15, ll16, ll17, ll18, ll19, ll20, ll21, ll22, ll23, ll24, ll25, ll26, ll27, ll28, ll29, ll30, ll31, ll32, ll33, ll34, ll35, ll36, ll37, ll38, ll39, ll40, Nat.reduceSub, Nat.reduceAdd, Nat.reduceEqDiff, if_true, if_false, ifp_t, ifp_f, reduceIte, Bool.true_eq_false, Bool.false_eq_true, Option.map_some, Option.map_none, Option.bind_some, Option.bind_none, tSq, sSet2, seqOf_fl, seqOf_tup, seqOf_ti, eFld, eMth, eNew, sMatch, cText, cAny, cNil, tAttr, f1, nb, f2, sl, q, Bool.not_false]
theorem read_ok (h : Sm (10 ^ 4) s) (hl : s.r.length < 4000) : F_TermReader_read_name [.loc S0.length] (rdrS S0 s) = .ok (.bl (rnm s).1) (rdrS S0 (rnm s).2) := by
  have hst : startD 2 [D.loc S0.length] = [some (.loc S0.length), none] := rfl
  obtain ⟨r, row, nm, op⟩ := s
  obtain ⟨m1, m2, m3⟩ := h
  simp only at m1 m2 m3 hl
  have sp := span_len r
  have f1 : dFld ocs_rest "rest" (.loc S0.length) (rdrS S0 ⟨r, row, nm, op⟩) = .ok (.str (L r)) (rdrS S0 ⟨r, row, nm, op⟩) := fld_rest
  have s1 := split_ok r (by omega)
  have sq : ∀ S, seqOf S (.tup [.str (L (r.takeWhile lt)), .str (L (r.dropWhile lt))]) = some [.str (L (r.takeWhile lt)), .str (L (r.dropWhile lt))] := fun S => rfl
  have p1 : setI ocs_rest "rest" (.loc S0.length) (.str (L (r.dropWhile lt))) (rdrS S0 ⟨r, row, nm, op⟩) = some (rdrS S0 ⟨r.dropWhile lt, row, nm, op⟩) := put_rest _
  have ln := len_L (r.takeWhile lt) (by omega)
  refine fnC_rt rfl ?_ (by rw [rdrS_len, rdrS_len])
  rw [hst]
  unfold rnm
  simp only
  generalize hN : r.takeWhile lt = NN at *
  generalize hR : r.dropWhile lt = RR at *
  have f2 : dFld ocs_rest "rest" (.loc S0.length) (rdrS S0 ⟨RR, row, nm, op⟩) = .ok (.str (L RR)) (rdrS S0 ⟨RR, row, nm, op⟩) := fld_rest
  have sl : ∀ S, dSl mkFl (.str (L RR)) none (some 1) S = .ok (.str (L (RR.take 1))) S := fun S => sl_to_L RR (by omega) 1 S
  unfold B_TermReader_read_name
  by_cases hn : 1 ≤ NN.length ∧ NN.length ≤ 8
  · rw [if_pos hn]
    have l1 : (1 : Int) ≤ (NN.length : Int) := by omega
    have l2 : (NN.length : Int) ≤ 8 := by omega
    by_cases hc : RR.take 1 = [40]
    · rw [if_pos hc]
      have ec : L (RR.take 1) = (("(" : String) : Str) := by rw [hc]; rfl
      have sk : F_TermReader_skip [.loc S0.length, .int 1] (rdrS S0 ⟨RR, row, nm, op⟩) = .ok .non (rdrS S0 ⟨RR.drop 1, row, nm, op⟩) := skip_ok (S0 := S0) (s := ⟨RR, row, nm, op⟩) 1 (by simp only; omega)
      have k2 := mth_rd (S0 := S0) (m := "skip") (by decide)
      have f3 : dFld ocs_opened "opened" (.loc S0.length) (rdrS S0 ⟨RR.drop 1, row, nm, op⟩) = .ok (.loc (S0.length + 3)) (rdrS S0 ⟨RR.drop 1, row, nm, op⟩) := fld_op
      have il := isLst_at (rd_op (S0 := S0) (s := ⟨RR.drop 1, row, nm, op⟩))
      have ap : mAppend (.loc (S0.length + 3)) [.tup [.str (L NN), .int 1]] (rdrS S0 ⟨RR.drop 1, row, nm, op⟩) = .ok .non (rdrS S0 ⟨RR.drop 1, row, nm, op ++ [(NN, 1)]⟩) := app_op (S0 := S0) (s := ⟨RR.drop 1, row, nm, op⟩) (NN, 1) (by simp only; omega)
      simp only [eVar, eC, eOp, eT, eAnd, eOr, eNot, eIf, eAndV, eOrV, eNotV, eCall, aNil, aCons, aStar, sOf, eTup, eFl, eLoc, eSl, oNone, oSome, iOf, eNeg, eChain, eMt, bOf, eDict0, eRev, eListRg, iZipD, sRaise1, sRaise0, eCallV, List.lookup, R.bind_ok, R.bind_er, R.bind_stuck, R.toS_ok, R.toS_er, R.toS_stuck, SR.next_nx, SR.next_rt, SR.next_er, SR.next_bk, SR.next_ct, SR.next_stuck, sNil, sSeq, sBrk, sCnt, sExp, sRet, sRetN, sIf, sSet, sAsg, sAug, sPar2, sPar3, tN, DL.tTup, DL.tNil, DL.tCons, DL.tSub, iSeq, srcOf_tup, srcOf_fl, srcOf_kl, srcOf_ti, iRange1, iRange2, sFor, startD, List.map_cons, List.map_nil, List.length_cons, List.length_nil, List.replicate, List.cons_append, List.nil_append, List.getElem?_cons_zero, List.getElem?_cons_succ, List.set_cons_zero, List.set_cons_succ, dSub_int, dFdiv_int, dMod_int, dLt_int, dLe_int, dGt_int, dGe_int, dAddI_int, dSubI_int, dIsN_non, isN, dAdd_int, ll0, ll1, ll2, ll3, ll4, ll5, ll6, ll7, ll8, ll9, ll10, ll11, ll12, ll13, ll14, ll15, ll16, ll17, ll18, ll19, ll20, ll21, ll22, ll23, ll24, ll25, ll26, ll27, ll28, ll29, ll30, ll31, ll32, ll33, ll34, ll35, ll36, ll37, ll38, ll39, ll40, Nat.reduceSub, Nat.reduceAdd, Nat.reduceEqDiff, if_true, if_false, ifp_t, ifp_f, reduceIte, Bool.true_eq_false, Bool.false_eq_true, Option.map_some, Option.map_none, Option.bind_some, Option.bind_none, tSq, sSet2, seqOf_fl, seqOf_tup, seqOf_ti, eFld, eMth, eNew, sMatch, cText, cAny, cNil, tAttr, f1, s1, tSq, sq, p1, ln, d_LONGEST, l1, l2, decide_true, Bool.not_true, f2, sl, ec, k2, sk, f3, il, ap]
    · rw [if_neg hc]
      have ec : (L (RR.take 1) = (("(" : String) : Str)) = False := by
        rw [eq_iff_iff, iff_false]
        intro e
        exact hc (L_inj.mp (show L (RR.take 1) = L [40] from e))
      have ad := add_ok (S0 := S0) (s := ⟨RR, row, nm, op⟩) NN 0 (by simp only; omega) (by simp only; omega)
      have k1 := mth_rd (S0 := S0) (m := "add_token") (by decide)
      have k2 := mth_rd (S0 := S0) (m := "close_terms") (by decide)
      have k3 := mth_rd (S0 := S0) (m := "next_part") (by decide)
      have hs : Sm (10 ^ 4) ⟨RR, row ++ [0], nm ++ [NN], op⟩ := ⟨by simp only [List.length_append, List.length_singleton]; omega, by simp only [List.length_append, List.length_singleton]; omega, by simp only; omega⟩
      have cl := close_ok (S0 := S0) (s := ⟨RR, row ++ [0], nm ++ [NN], op⟩) ⟨by have := hs.1; omega, by have := hs.2.1; omega, by have := hs.2.2; omega⟩ (by simp only; omega)
      simp only at cl
      unfold aftT
      simp only
      obtain ⟨c1, c2, c3, c4, c5⟩ := clo_less RR (row ++ [0]) (nm ++ [NN]) op
      have hs2 : Sm (10 ^ 5) (clo RR (row ++ [0]) (nm ++ [NN]) op) := by
        have := hs.less (t := clo RR (row ++ [0]) (nm ++ [NN]) op) c1 c2 c3
        exact ⟨by have := this.1; omega, by have := this.2.1; omega, by have := this.2.2; omega⟩
      generalize clo RR (row ++ [0]) (nm ++ [NN]) op = C at *
      have f3 : dFld ocs_rest "rest" (.loc S0.length) (rdrS S0 C) = .ok (.str (L C.r)) (rdrS S0 C) := fld_rest
      have q : ∀ S, dEq false (.str (L C.r)) (.str "") S = .ok (.bl (decide (C.r = []))) S := fun S => by
        have := eq_L false C.r [] S
        simp only [Bool.false_eq_true, if_false] at this
        exact this
      by_cases he : C.r = []
      · rw [if_pos he]
        rw [decide_eq_true he] at q
        simp only [eVar, eC, eOp, eT, eAnd, eOr, eNot, eIf, eAndV, eOrV, eNotV, eCall, aNil, aCons, aStar, sOf, eTup, eFl, eLoc, eSl, oNone, oSome, iOf, eNeg, eChain, eMt, bOf, eDict0, eRev, eListRg, iZipD, sRaise1, sRaise0, eCallV, List.lookup, R.bind_ok, R.bind_er, R.bind_stuck, R.toS_ok, R.toS_er, R.toS_stuck, SR.next_nx, SR.next_rt, SR.next_er, SR.next_bk, SR.next_ct, SR.next_stuck, sNil, sSeq, sBrk, sCnt, sExp, sRet, sRetN, sIf, sSet, sAsg, sAug, sPar2, sPar3, tN, DL.tTup, DL.tNil, DL.tCons, DL.tSub, iSeq, srcOf_tup, srcOf_fl, srcOf_kl, srcOf_ti, iRange1, iRange2, sFor, startD, List.map_cons, List.map_nil, List.length_cons, List.length_nil, List.replicate, List.cons_append, List.nil_append, List.getElem?_cons_zero, List.getElem?_cons_succ, List.set_cons_zero, List.set_cons_succ, dSub_int, dFdiv_int, dMod_int, dLt_int, dLe_int, dGt_int, dGe_int, dAddI_int, dSubI_int, dIsN_non, isN, dAdd_int, ll0, ll1, ll2, ll3, ll4, ll5, ll6, ll7, ll8, ll9, ll10, ll11, ll12, ll13, ll14, ll15, ll16, ll17, ll18, ll19, ll20, ll21, ll22, ll23, ll24, ll25, ll26, ll27, ll28, ll29, ll30, ll31, ll32, ll33, ll34, ll35, ll36, ll37, ll38, ll39, ll40, Nat.reduceSub, Nat.reduceAdd, Nat.reduceEqDiff, if_true, if_false, ifp_t, ifp_f, reduceIte, Bool.true_eq_false, Bool.false_eq_true, Option.map_some, Option.map_none, Option.bind_some, Option.bind_none, tSq, sSet2, seqOf_fl, seqOf_tup, seqOf_ti, eFld, eMth, eNew, sMatch, cText, cAny, cNil, tAttr, f1, s1, tSq, sq, p1, ln, d_LONGEST, l1, l2, decide_true, Bool.not_true, f2, sl, ec, k1, ad, k2, cl, f3, q]
      · rw [if_neg he]
        rw [decide_eq_false he] at q
        have nx := next_ok (S0 := S0) hs2
        simp only [eVar, eC, eOp, eT, eAnd, eOr, eNot, eIf, eAndV, eOrV, eNotV, eCall, aNil, aCons, aStar, sOf, eTup, eFl, eLoc, eSl, oNone, oSome, iOf, eNeg, eChain, eMt, bOf, eDict0, eRev, eListRg, iZipD, sRaise1, sRaise0, eCallV, List.lookup, R.bind_ok, R.bind_er, R.bind_stuck, R.toS_ok, R.toS_er, R.toS_stuck, SR.next_nx, SR.next_rt, SR.next_er, SR.next_bk, SR.next_ct, SR.next_stuck, sNil, sSeq, sBrk, sCnt, sExp, sRet, sRetN, sIf, sSet, sAsg, sAug, sPar2, sPar3, tN, DL.tTup, DL.tNil, DL.tCons, DL.tSub, iSeq, srcOf_tup, srcOf_fl, srcOf_kl, srcOf_ti, iRange1, iRange2, sFor, startD, List.map_cons, List.map_nil, List.length_cons, List.length_nil, List.replicate, List.cons_append, List.nil_append, List.getElem?_cons_zero, List.getElem?_cons_succ, List.set_cons_zero, List.set_cons_succ, dSub_int, dFdiv_int, dMod_int, dLt_int, dLe_int, dGt_int, dGe_int, dAddI_int, dSubI_int, dIsN_non, isN, dAdd_int, ll0, ll1, ll2, ll3, ll4, ll5, ll6, ll7, ll8, ll9, ll10, ll11, ll12, ll13, ll14, ll15, ll16, ll17, ll18, ll19, ll20, ll21, ll22, ll23, ll24, ll25, ll26, ll27, ll28, ll29, ll30, ll31, ll32, ll33, ll34, ll35, ll36, ll37, ll38, ll39, ll40, Nat.reduceSub, Nat.reduceAdd, Nat.reduceEqDiff, if_true, if_false, ifp_t, ifp_f, reduceIte, Bool.true_eq_false, Bool.false_eq_true, Option.map_some, Option.map_none, Option.bind_some, Option.bind_none, tSq, sSet2, seqOf_fl, seqOf_tup, seqOf_ti, eFld, eMth, eNew, sMatch, cText, cAny, cNil, tAttr, f1, s1, tSq, sq, p1, ln, d_LONGEST, l1, l2, decide_true, Bool.not_true, f2, sl, ec, k1, ad, k2, cl, f3, q, k3, nx]
  · rw [if_neg hn]
    by_cases l1 : (1 : Int) ≤ (NN.length : Int)
    · have l2 : ¬ (NN.length : Int) ≤ 8 := by omega
      simp only [eVar, eC, eOp, eT, eAnd, eOr, eNot, eIf, eAndV, eOrV, eNotV, eCall, aNil, aCons, aStar, sOf, eTup, eFl, eLoc, eSl, oNone, oSome, iOf, eNeg, eChain, eMt, bOf, eDict0, eRev, eListRg, iZipD, sRaise1, sRaise0, eCallV, List.lookup, R.bind_ok, R.bind_er, R.bind_stuck, R.toS_ok, R.toS_er, R.toS_stuck, SR.next_nx, SR.next_rt, SR.next_er, SR.next_bk, SR.next_ct, SR.next_stuck, sNil, sSeq, sBrk, sCnt, sExp, sRet, sRetN, sIf, sSet, sAsg, sAug, sPar2, sPar3, tN, DL.tTup, DL.tNil, DL.tCons, DL.tSub, iSeq, srcOf_tup, srcOf_fl, srcOf_kl, srcOf_ti, iRange1, iRange2, sFor, startD, List.map_cons, List.map_nil, List.length_cons, List.length_nil, List.replicate, List.cons_append, List.nil_append, List.getElem?_cons_zero, List.getElem?_cons_succ, List.set_cons_zero, List.set_cons_succ, dSub_int, dFdiv_int, dMod_int, dLt_int, dLe_int, dGt_int, dGe_int, dAddI_int, dSubI_int, dIsN_non, isN, dAdd_int, ll0, ll1, ll2, ll3, ll4, ll5, ll6, ll7, ll8, ll9, ll10, ll11, ll12, ll13, ll14, ll15, ll16, ll17, ll18, ll19, ll20, ll21, ll22, ll23, ll24, ll25, ll26, ll27, ll28, ll29, ll30, ll31, ll32, ll33, ll34, ll35, ll36, ll37, ll38, ll39, ll40, Nat.reduceSub, Nat.reduceAdd, Nat.reduceEqDiff, if_true, if_false, ifp_t, ifp_f, reduceIte, Bool.true_eq_false, Bool.false_eq_true, Option.map_some, Option.map_none, Option.bind_some, Option.bind_none, tSq, sSet2, seqOf_fl, seqOf_tup, seqOf_ti, eFld, eMth, eNew, sMatch, cText, cAny, cNil, tAttr, f1, s1, tSq, sq, p1, ln, d_LONGEST, l1, l2, decide_true, decide_false, Bool.not_false]
    · simp only [eVar, eC, eOp, eT, eAnd, eOr, eNot, eIf, eAndV, eOrV, eNotV, eCall, aNil, aCons, aStar, sOf, eTup, eFl, eLoc, eSl, oNone, oSome, iOf, eNeg, eChain, eMt, bOf, eDict0, eRev, eListRg, iZipD, sRaise1, sRaise0, eCallV, List.lookup, R.bind_ok, R.bind_er, R.bind_stuck, R.toS_ok, R.toS_er, R.toS_stuck, SR.next_nx, SR.next_rt, SR.next_er, SR.next_bk, SR.next_ct, SR.next_stuck, sNil, sSeq, sBrk, sCnt, sExp, sRet, sRetN, sIf, sSet, sAsg, sAug, sPar2, sPar3, tN, DL.tTup, DL.tNil, DL.tCons, DL.tSub, iSeq, srcOf_tup, srcOf_fl, srcOf_kl, srcOf_ti, iRange1, iRange2, sFor, startD, List.map_cons, List.map_nil, List.length_cons, List.length_nil, List.replicate, List.cons_append, List.nil_append, List.getElem?_cons_zero, List.getElem?_cons_succ, List.set_cons_zero, List.set_cons_succ, dSub_int, dFdiv_int, dMod_int, dLt_int, dLe_int, dGt_int, dGe_int, dAddI_int, dSubI_int, dIsN_non, isN, dAdd_int, ll0, ll1, ll2, ll3, ll4, ll5, ll6, ll7, ll8, ll9, ll10, ll11, ll12, ll13, ll14, ll15, ll16, ll17, ll18, ll19, ll20, ll21, ll22, ll23, ll24, ll25, ll26, ll27, ll28, ll29, ll30, ll31, ll32, ll33, ll34, ll35, ll36, ll37, ll38, ll39, ll40, Nat.reduceSub, Nat.reduceAdd, Nat.reduceEqDiff, if_true, if_false, ifp_t, ifp_f, reduceIte, Bool.true_eq_false, Bool.false_eq_true, Option.map_some, Option.map_none, Option.bind_some, Option.bind_none, tSq, sSet2, seqOf_fl, seqOf_tup, seqOf_ti, eFld, eMth, eNew, sMatch, cText, cAny, cNil, tAttr, f1, s1, tSq, sq, p1, ln, d_LONGEST, l1, decide_false, Bool.not_false]
theorem rnm_row {s : RS} (h : (rnm s).1 = true) (h0 : (rnm s).2.op = []) : (rnm s).2.row ≠ [] := by
  unfold rnm at h h0 ⊢
  split
  · rename_i hn
    rw [if_pos hn] at h h0
    split
    · rename_i hc
      rw [if_pos hc] at h0
      simp at h0
    · obtain ⟨a1, a2, a3, a4, a5⟩ := aftT_less ⟨s.r.dropWhile lt, s.row ++ [0], s.nm ++ [s.r.takeWhile lt], s.op⟩
      intro e
      rw [e] at a5
      simp at a5
  · rename_i hn
    rw [if_neg hn] at h
    cases h
theorem right_loop : ∀ (n : Nat) (s : RS), s.r.length < n → s.r.length < 4000 → Sm (10 ^ 4) s →
    ∃ ρ, whileD C1_TermReader_is_right L1_TermReader_is_right n [some (.loc S0.length)] (rdrS S0 s) = (if (trun n s).1 = true then .rt (.bl true) (rdrS S0 (trun n s).2) else .nx ρ (rdrS S0 (trun n s).2)) ∨ ((trun n s).1 = false ∧ whileD C1_TermReader_is_right L1_TermReader_is_right n [some (.loc S0.length)] (rdrS S0 s) = .rt (.bl false) (rdrS S0 (trun n s).2))
  | 0, s, h, _, _ => by omega
  | n + 1, s, h, hl, hs => by
    have rd := read_ok (S0 := S0) hs hl
    have k1 := mth_rd (S0 := S0) (m := "read_name") (by decide)
    have less := (rnm_less s).2.2.2
    have sm := rnm_sm hs
    have rr := @rnm_row s
    rw [trun]
    cases e : rnm s with
    | mk b s' =>
      rw [e] at rd less sm rr
      simp only at rd less sm rr
      cases b with
      | false =>
        refine ⟨[some (.loc S0.length)], .inl ?_⟩
        simp only [Bool.false_eq_true, if_false]
        refine whileD_end ?_
        simp only [eVar, eC, eOp, eT, eAnd, eOr, eNot, eIf, eAndV, eOrV, eNotV, eCall, aNil, aCons, aStar, sOf, eTup, eFl, eLoc, eSl, oNone, oSome, iOf, eNeg, eChain, eMt, bOf, eDict0, eRev, eListRg, iZipD, sRaise1, sRaise0, eCallV, List.lookup, R.bind_ok, R.bind_er, R.bind_stuck, R.toS_ok, R.toS_er, R.toS_stuck, SR.next_nx, SR.next_rt, SR.next_er, SR.next_bk, SR.next_ct, SR.next_stuck, sNil, sSeq, sBrk, sCnt, sExp, sRet, sRetN, sIf, sSet, sAsg, sAug, sPar2, sPar3, tN, DL.tTup, DL.tNil, DL.tCons, DL.tSub, iSeq, srcOf_tup, srcOf_fl, srcOf_kl, srcOf_ti, iRange1, iRange2, sFor, startD, List.map_cons, List.map_nil, List.length_cons, List.length_nil, List.replicate, List.cons_append, List.nil_append, List.getElem?_cons_zero, List.getElem?_cons_succ, List.set_cons_zero, List.set_cons_succ, dSub_int, dFdiv_int, dMod_int, dLt_int, dLe_int, dGt_int, dGe_int, dAddI_int, dSubI_int, dIsN_non, isN, dAdd_int, ll0, ll1, ll2, ll3, ll4, ll5, ll6, ll7, ll8, ll9, ll10, ll11, ll12, ll13, ll14, ll15, ll16, ll17, ll18, ll19, ll20, ll21, ll22, ll23, ll24, ll25, ll26, ll27, ll28, ll29, ll30, ll31, ll32, ll33, ll34, ll35, ll36, ll37, ll38, ll39, ll40, Nat.reduceSub, Nat.reduceAdd, Nat.reduceEqDiff, if_true, if_false, ifp_t, ifp_f, reduceIte, Bool.true_eq_false, Bool.false_eq_true, Option.map_some, Option.map_none, Option.bind_some, Option.bind_none, tSq, sSet2, seqOf_fl, seqOf_tup, seqOf_ti, eFld, eMth, eNew, sMatch, cText, cAny, cNil, tAttr, C1_TermReader_is_right, k1, rd]
      | true =>
        have hlt := less rfl
        have hC : C1_TermReader_is_right [some (.loc S0.length)] (rdrS S0 s) = .ok true (rdrS S0 s') := by
          simp only [eVar, eC, eOp, eT, eAnd, eOr, eNot, eIf, eAndV, eOrV, eNotV, eCall, aNil, aCons, aStar, sOf, eTup, eFl, eLoc, eSl, oNone, oSome, iOf, eNeg, eChain, eMt, bOf, eDict0, eRev, eListRg, iZipD, sRaise1, sRaise0, eCallV, List.lookup, R.bind_ok, R.bind_er, R.bind_stuck, R.toS_ok, R.toS_er, R.toS_stuck, SR.next_nx, SR.next_rt, SR.next_er, SR.next_bk, SR.next_ct, SR.next_stuck, sNil, sSeq, sBrk, sCnt, sExp, sRet, sRetN, sIf, sSet, sAsg, sAug, sPar2, sPar3, tN, DL.tTup, DL.tNil, DL.tCons, DL.tSub, iSeq, srcOf_tup, srcOf_fl, srcOf_kl, srcOf_ti, iRange1, iRange2, sFor, startD, List.map_cons, List.map_nil, List.length_cons, List.length_nil, List.replicate, List.cons_append, List.nil_append, List.getElem?_cons_zero, List.getElem?_cons_succ, List.set_cons_zero, List.set_cons_succ, dSub_int, dFdiv_int, dMod_int, dLt_int, dLe_int, dGt_int, dGe_int, dAddI_int, dSubI_int, dIsN_non, isN, dAdd_int, ll0, ll1, ll2, ll3, ll4, ll5, ll6, ll7, ll8, ll9, ll10, ll11, ll12, ll13, ll14, ll15, ll16, ll17, ll18, ll19, ll20, ll21, ll22, ll23, ll24, ll25, ll26, ll27, ll28, ll29, ll30, ll31, ll32, ll33, ll34, ll35, ll36, ll37, ll38, ll39, ll40, Nat.reduceSub, Nat.reduceAdd, Nat.reduceEqDiff, if_true, if_false, ifp_t, ifp_f, reduceIte, Bool.true_eq_false, Bool.false_eq_true, Option.map_some, Option.map_none, Option.bind_some, Option.bind_none, tSq, sSet2, seqOf_fl, seqOf_tup, seqOf_ti, eFld, eMth, eNew, sMatch, cText, cAny, cNil, tAttr, C1_TermReader_is_right, k1, rd]
        have f1 : dFld ocs_rest "rest" (.loc S0.length) (rdrS S0 s') = .ok (.str (L s'.r)) (rdrS S0 s') := fld_rest
        have q : ∀ S, dEq false (.str (L s'.r)) (.str "") S = .ok (.bl (decide (s'.r = []))) S := fun S => by
          have := eq_L false s'.r [] S
          simp only [Bool.false_eq_true, if_false] at this
          exact this
        simp only
        by_cases hr : s'.r = []
        · rw [if_pos hr]
          rw [decide_eq_true hr] at q
          simp only
          have f2 : dFld ocs_opened "opened" (.loc S0.length) (rdrS S0 s') = .ok (.loc (S0.length + 3)) (rdrS S0 s') := fld_op
          have n1 := nil_op (S0 := S0) (s := s') false
          simp only [Bool.false_eq_true, if_false] at n1
          have f3 : dFld ocs_row "row" (.loc S0.length) (rdrS S0 s') = .ok (.loc (S0.length + 1)) (rdrS S0 s') := fld_row
          have ln : bLen [.loc (S0.length + 1)] (rdrS S0 s') = .ok (.int (s'.row.length : Int)) (rdrS S0 s') := by
            show (match getQ (rdrS S0 s') (S0.length + 1) with
              | some xs => R.ok (D.int (xs.length : Nat)) (rdrS S0 s')
              | none => .stuck) = _
            rw [rd_rowQ]
            show R.ok (D.int ((s'.row.map D.int).length : Nat)) (rdrS S0 s') = _
            rw [List.length_map]
          have body : L1_TermReader_is_right [some (.loc S0.length)] (rdrS S0 s') = .rt (.bl (fin1 s')) (rdrS S0 s') := by
            unfold fin1
            cases ho : s'.op with
            | cons a b =>
              rw [ho] at n1
              have nb : dEqY false (.loc (S0.length + 3)) (.fl []) (rdrS S0 s') = .ok (.bl false) (rdrS S0 s') := n1
              have e0 : (a :: b).isEmpty = false := rfl
              rw [e0, Bool.false_and]
              simp only [eVar, eC, eOp, eT, eAnd, eOr, eNot, eIf, eAndV, eOrV, eNotV, eCall, aNil, aCons, aStar, sOf, eTup, eFl, eLoc, eSl, oNone, oSome, iOf, eNeg, eChain, eMt, bOf, eDict0, eRev, eListRg, iZipD, sRaise1, sRaise0, eCallV, List.lookup, R.bind_ok, R.bind_er, R.bind_stuck, R.toS_ok, R.toS_er, R.toS_stuck, SR.next_nx, SR.next_rt, SR.next_er, SR.next_bk, SR.next_ct, SR.next_stuck, sNil, sSeq, sBrk, sCnt, sExp, sRet, sRetN, sIf, sSet, sAsg, sAug, sPar2, sPar3, tN, DL.tTup, DL.tNil, DL.tCons, DL.tSub, iSeq, srcOf_tup, srcOf_fl, srcOf_kl, srcOf_ti, iRange1, iRange2, sFor, startD, List.map_cons, List.map_nil, List.length_cons, List.length_nil, List.replicate, List.cons_append, List.nil_append, List.getElem?_cons_zero, List.getElem?_cons_succ, List.set_cons_zero, List.set_cons_succ, dSub_int, dFdiv_int, dMod_int, dLt_int, dLe_int, dGt_int, dGe_int, dAddI_int, dSubI_int, dIsN_non, isN, dAdd_int, ll0, ll1, ll2, ll3, ll4, ll5, ll6, ll7, ll8, ll9, ll10, ll11, ll12, ll13, ll14, ll15, ll16, ll17, ll18, ll19, ll20, ll21, ll22, ll23, ll24, ll25, ll26, ll27, ll28, ll29, ll30, ll31, ll32, ll33, ll34, ll35, ll36, ll37, ll38, ll39, ll40, Nat.reduceSub, Nat.reduceAdd, Nat.reduceEqDiff, if_true, if_false, ifp_t, ifp_f, reduceIte, Bool.true_eq_false, Bool.false_eq_true, Option.map_some, Option.map_none, Option.bind_some, Option.bind_none, tSq, sSet2, seqOf_fl, seqOf_tup, seqOf_ti, eFld, eMth, eNew, sMatch, cText, cAny, cNil, tAttr, L1_TermReader_is_right, f1, q, f2, nb]
            | nil =>
              rw [ho] at n1
              have nb : dEqY false (.loc (S0.length + 3)) (.fl []) (rdrS S0 s') = .ok (.bl true) (rdrS S0 s') := n1
              have e0 : ([] : List (List Nat × Int)).isEmpty = true := rfl
              have hne := rr rfl ho
              have mx : bMaxT [.loc (S0.length + 1)] (rdrS S0 s') = .ok (D.int (maxL s'.row)) (rdrS S0 s') := by
                show (match (getL (rdrS S0 s') (S0.length + 1)).bind intsOf with
                  | some is => if is = [] then R.stuck else R.ok (D.int (maxL is)) (rdrS S0 s')
                  | none => .stuck) = _
                rw [rd_row]
                show (match intsOf (s'.row.map D.int) with
                  | some is => if is = [] then R.stuck else R.ok (D.int (maxL is)) (rdrS S0 s')
                  | none => .stuck) = _
                rw [intsOf_map]
                simp only
                rw [if_neg hne]
              rw [e0, Bool.true_and]
              by_cases l1 : s'.row.length ≤ 24
              · have l1' : (s'.row.length : Int) ≤ 24 := by omega
                rw [decide_eq_true l1, Bool.true_and]
                simp only [eVar, eC, eOp, eT, eAnd, eOr, eNot, eIf, eAndV, eOrV, eNotV, eCall, aNil, aCons, aStar, sOf, eTup, eFl, eLoc, eSl, oNone, oSome, iOf, eNeg, eChain, eMt, bOf, eDict0, eRev, eListRg, iZipD, sRaise1, sRaise0, eCallV, List.lookup, R.bind_ok, R.bind_er, R.bind_stuck, R.toS_ok, R.toS_er, R.toS_stuck, SR.next_nx, SR.next_rt, SR.next_er, SR.next_bk, SR.next_ct, SR.next_stuck, sNil, sSeq, sBrk, sCnt, sExp, sRet, sRetN, sIf, sSet, sAsg, sAug, sPar2, sPar3, tN, DL.tTup, DL.tNil, DL.tCons, DL.tSub, iSeq, srcOf_tup, srcOf_fl, srcOf_kl, srcOf_ti, iRange1, iRange2, sFor, startD, List.map_cons, List.map_nil, List.length_cons, List.length_nil, List.replicate, List.cons_append, List.nil_append, List.getElem?_cons_zero, List.getElem?_cons_succ, List.set_cons_zero, List.set_cons_succ, dSub_int, dFdiv_int, dMod_int, dLt_int, dLe_int, dGt_int, dGe_int, dAddI_int, dSubI_int, dIsN_non, isN, dAdd_int, ll0, ll1, ll2, ll3, ll4, ll5, ll6, ll7, ll8, ll9, ll10, ll11, ll12, ll13, ll14, ll15, ll16, ll17, ll18, ll19, ll20, ll21, ll22, ll23, ll24, ll25, ll26, ll27, ll28, ll29, ll30, ll31, ll32, ll33, ll34, ll35, ll36, ll37, ll38, ll39, ll40, Nat.reduceSub, Nat.reduceAdd, Nat.reduceEqDiff, if_true, if_false, ifp_t, ifp_f, reduceIte, Bool.true_eq_false, Bool.false_eq_true, Option.map_some, Option.map_none, Option.bind_some, Option.bind_none, tSq, sSet2, seqOf_fl, seqOf_tup, seqOf_ti, eFld, eMth, eNew, sMatch, cText, cAny, cNil, tAttr, L1_TermReader_is_right, f1, q, f2, nb, f3, ln, d_MAX_TOKENS, l1', decide_true, mx, d_MAX_ARITY]
              · have l1' : ¬ (s'.row.length : Int) ≤ 24 := by omega
                rw [decide_eq_false l1, Bool.false_and]
                simp only [eVar, eC, eOp, eT, eAnd, eOr, eNot, eIf, eAndV, eOrV, eNotV, eCall, aNil, aCons, aStar, sOf, eTup, eFl, eLoc, eSl, oNone, oSome, iOf, eNeg, eChain, eMt, bOf, eDict0, eRev, eListRg, iZipD, sRaise1, sRaise0, eCallV, List.lookup, R.bind_ok, R.bind_er, R.bind_stuck, R.toS_ok, R.toS_er, R.toS_stuck, SR.next_nx, SR.next_rt, SR.next_er, SR.next_bk, SR.next_ct, SR.next_stuck, sNil, sSeq, sBrk, sCnt, sExp, sRet, sRetN, sIf, sSet, sAsg, sAug, sPar2, sPar3, tN, DL.tTup, DL.tNil, DL.tCons, DL.tSub, iSeq, srcOf_tup, srcOf_fl, srcOf_kl, srcOf_ti, iRange1, iRange2, sFor, startD, List.map_cons, List.map_nil, List.length_cons, List.length_nil, List.replicate, List.cons_append, List.nil_append, List.getElem?_cons_zero, List.getElem?_cons_succ, List.set_cons_zero, List.set_cons_succ, dSub_int, dFdiv_int, dMod_int, dLt_int, dLe_int, dGt_int, dGe_int, dAddI_int, dSubI_int, dIsN_non, isN, dAdd_int, ll0, ll1, ll2, ll3, ll4, ll5, ll6, ll7, ll8, ll9, ll10, ll11, ll12, ll13, ll14, ll15, ll16, ll17, ll18, ll19, ll20, ll21, ll22, ll23, ll24, ll25, ll26, ll27, ll28, ll29, ll30, ll31, ll32, ll33, ll34, ll35, ll36, ll37, ll38, ll39, ll40, Nat.reduceSub, Nat.reduceAdd, Nat.reduceEqDiff, if_true, if_false, ifp_t, ifp_f, reduceIte, Bool.true_eq_false, Bool.false_eq_true, Option.map_some, Option.map_none, Option.bind_some, Option.bind_none, tSq, sSet2, seqOf_fl, seqOf_tup, seqOf_ti, eFld, eMth, eNew, sMatch, cText, cAny, cNil, tAttr, L1_TermReader_is_right, f1, q, f2, nb, f3, ln, d_MAX_TOKENS, l1', decide_false]
          rw [whileD_ret hC body]
          cases fin1 s' with
          | true => exact ⟨[], .inl rfl⟩
          | false => exact ⟨[], .inr ⟨rfl, rfl⟩⟩
        · rw [if_neg hr]
          rw [decide_eq_false hr] at q
          have body : L1_TermReader_is_right [some (.loc S0.length)] (rdrS S0 s') = .nx [some (.loc S0.length)] (rdrS S0 s') := by
            simp only [eVar, eC, eOp, eT, eAnd, eOr, eNot, eIf, eAndV, eOrV, eNotV, eCall, aNil, aCons, aStar, sOf, eTup, eFl, eLoc, eSl, oNone, oSome, iOf, eNeg, eChain, eMt, bOf, eDict0, eRev, eListRg, iZipD, sRaise1, sRaise0, eCallV, List.lookup, R.bind_ok, R.bind_er, R.bind_stuck, R.toS_ok, R.toS_er, R.toS_stuck, SR.next_nx, SR.next_rt, SR.next_er, SR.next_bk, SR.next_ct, SR.next_stuck, sNil, sSeq, sBrk, sCnt, sExp, sRet, sRetN, sIf, sSet, sAsg, sAug, sPar2, sPar3, tN, DL.tTup, DL.tNil, DL.tCons, DL.tSub, iSeq, srcOf_tup, srcOf_fl, srcOf_kl, srcOf_ti, iRange1, iRange2, sFor, startD, List.map_cons, List.map_nil, List.length_cons, List.length_nil, List.replicate, List.cons_append, List.nil_append, List.getElem?_cons_zero, List.getElem?_cons_succ, List.set_cons_zero, List.set_cons_succ, dSub_int, dFdiv_int, dMod_int, dLt_int, dLe_int, dGt_int, dGe_int, dAddI_int, dSubI_int, dIsN_non, isN, dAdd_int, ll0, ll1, ll2, ll3, ll4, ll5, ll6, ll7, ll8, ll9, ll10, ll11, ll12, ll13, ll14, ll15, ll16, ll17, ll18, ll19, ll20, ll21, ll22, ll23, ll24, ll25, ll26, ll27, ll28, ll29, ll30, ll31, ll32, ll33, ll34, ll35, ll36, ll37, ll38, ll39, ll40, Nat.reduceSub, Nat.reduceAdd, Nat.reduceEqDiff, if_true, if_false, ifp_t, ifp_f, reduceIte, Bool.true_eq_false, Bool.false_eq_true, Option.map_some, Option.map_none, Option.bind_some, Option.bind_none, tSq, sSet2, seqOf_fl, seqOf_tup, seqOf_ti, eFld, eMth, eNew, sMatch, cText, cAny, cNil, tAttr, L1_TermReader_is_right, f1, q]
          rw [whileD_next hC body]
          exact right_loop n s' (by omega) (by omega) sm
theorem is_right_ok (h : Sm (10 ^ 4) s) (hl : s.r.length < 4000) : F_TermReader_is_right [.loc S0.length] (rdrS S0 s) = .ok (.bl (trun 4000 s).1) (rdrS S0 (trun 4000 s).2) := by
  have hst : startD 1 [D.loc S0.length] = [some (.loc S0.length)] := rfl
  obtain ⟨ρ, e⟩ := right_loop (S0 := S0) 4000 s hl hl h
  refine fnC_rt rfl ?_ (by rw [rdrS_len, rdrS_len])
  rw [hst]
  unfold B_TermReader_is_right
  rcases e with e | ⟨e1, e⟩
  · cases hb : (trun 4000 s).1 with
    | true =>
      rw [hb, if_pos rfl] at e
      simp only [eVar, eC, eOp, eT, eAnd, eOr, eNot, eIf, eAndV, eOrV, eNotV, eCall, aNil, aCons, aStar, sOf, eTup, eFl, eLoc, eSl, oNone, oSome, iOf, eNeg, eChain, eMt, bOf, eDict0, eRev, eListRg, iZipD, sRaise1, sRaise0, eCallV, List.lookup, R.bind_ok, R.bind_er, R.bind_stuck, R.toS_ok, R.toS_er, R.toS_stuck, SR.next_nx, SR.next_rt, SR.next_er, SR.next_bk, SR.next_ct, SR.next_stuck, sNil, sSeq, sBrk, sCnt, sExp, sRet, sRetN, sIf, sSet, sAsg, sAug, sPar2, sPar3, tN, DL.tTup, DL.tNil, DL.tCons, DL.tSub, iSeq, srcOf_tup, srcOf_fl, srcOf_kl, srcOf_ti, iRange1, iRange2, sFor, startD, List.map_cons, List.map_nil, List.length_cons, List.length_nil, List.replicate, List.cons_append, List.nil_append, List.getElem?_cons_zero, List.getElem?_cons_succ, List.set_cons_zero, List.set_cons_succ, dSub_int, dFdiv_int, dMod_int, dLt_int, dLe_int, dGt_int, dGe_int, dAddI_int, dSubI_int, dIsN_non, isN, dAdd_int, ll0, ll1, ll2, ll3, ll4, ll5, ll6, ll7, ll8, ll9, ll10, ll11, ll12, ll13, ll14, ll15, ll16, ll17, ll18, ll19, ll20, ll21, ll22, ll23, ll24, ll25, ll26, ll27, ll28, ll29, ll30, ll31, ll32, ll33, ll34, ll35, ll36, ll37, ll38, ll39, ll40, Nat.reduceSub, Nat.reduceAdd, Nat.reduceEqDiff, if_true, if_false, ifp_t, ifp_f, reduceIte, Bool.true_eq_false, Bool.false_eq_true, Option.map_some, Option.map_none, Option.bind_some, Option.bind_none, tSq, sSet2, seqOf_fl, seqOf_tup, seqOf_ti, eFld, eMth, eNew, sMatch, cText, cAny, cNil, tAttr, e]
    | false =>
      rw [hb, if_neg (by decide)] at e
      simp only [eVar, eC, eOp, eT, eAnd, eOr, eNot, eIf, eAndV, eOrV, eNotV, eCall, aNil, aCons, aStar, sOf, eTup, eFl, eLoc, eSl, oNone, oSome, iOf, eNeg, eChain, eMt, bOf, eDict0, eRev, eListRg, iZipD, sRaise1, sRaise0, eCallV, List.lookup, R.bind_ok, R.bind_er, R.bind_stuck, R.toS_ok, R.toS_er, R.toS_stuck, SR.next_nx, SR.next_rt, SR.next_er, SR.next_bk, SR.next_ct, SR.next_stuck, sNil, sSeq, sBrk, sCnt, sExp, sRet, sRetN, sIf, sSet, sAsg, sAug, sPar2, sPar3, tN, DL.tTup, DL.tNil, DL.tCons, DL.tSub, iSeq, srcOf_tup, srcOf_fl, srcOf_kl, srcOf_ti, iRange1, iRange2, sFor, startD, List.map_cons, List.map_nil, List.length_cons, List.length_nil, List.replicate, List.cons_append, List.nil_append, List.getElem?_cons_zero, List.getElem?_cons_succ, List.set_cons_zero, List.set_cons_succ, dSub_int, dFdiv_int, dMod_int, dLt_int, dLe_int, dGt_int, dGe_int, dAddI_int, dSubI_int, dIsN_non, isN, dAdd_int, ll0, ll1, ll2, ll3, ll4, ll5, ll6, ll7, ll8, ll9, ll10, ll11, ll12, ll13, ll14, ll15, ll16, ll17, ll18, ll19, ll20, ll21, ll22, ll23, ll24, ll25, ll26, ll27, ll28, ll29, ll30, ll31, ll32, ll33, ll34, ll35, ll36, ll37, ll38, ll39, ll40, Nat.reduceSub, Nat.reduceAdd, Nat.reduceEqDiff, if_true, if_false, ifp_t, ifp_f, reduceIte, Bool.true_eq_false, Bool.false_eq_true, Option.map_some, Option.map_none, Option.bind_some, Option.bind_none, tSq, sSet2, seqOf_fl, seqOf_tup, seqOf_ti, eFld, eMth, eNew, sMatch, cText, cAny, cNil, tAttr, e]
  · rw [e1]
    simp only [eVar, eC, eOp, eT, eAnd, eOr, eNot, eIf, eAndV, eOrV, eNotV, eCall, aNil, aCons, aStar, sOf, eTup, eFl, eLoc, eSl, oNone, oSome, iOf, eNeg, eChain, eMt, bOf, eDict0, eRev, eListRg, iZipD, sRaise1, sRaise0, eCallV, List.lookup, R.bind_ok, R.bind_er, R.bind_stuck, R.toS_ok, R.toS_er, R.toS_stuck, SR.next_nx, SR.next_rt, SR.next_er, SR.next_bk, SR.next_ct, SR.next_stuck, sNil, sSeq, sBrk, sCnt, sExp, sRet, sRetN, sIf, sSet, sAsg, sAug, sPar2, sPar3, tN, DL.tTup, DL.tNil, DL.tCons, DL.tSub, iSeq, srcOf_tup, srcOf_fl, srcOf_kl, srcOf_ti, iRange1, iRange2, sFor, startD, List.map_cons, List.map_nil, List.length_cons, List.length_nil, List.replicate, List.cons_append, List.nil_append, List.getElem?_cons_zero, List.getElem?_cons_succ, List.set_cons_zero, List.set_cons_succ, dSub_int, dFdiv_int, dMod_int, dLt_int, dLe_int, dGt_int, dGe_int, dAddI_int, dSubI_int, dIsN_non, isN, dAdd_int, ll0, ll1, ll2, ll3, ll4, ll5, ll6, ll7, ll8, ll9, ll10, ll11, ll12, ll13, ll14, ll15, ll16, ll17, ll18, ll19, ll20, ll21, ll22, ll23, ll24, ll25, ll26, ll27, ll28, ll29, ll30, ll31, ll32, ll33, ll34, ll35, ll36, ll37, ll38, ll39, ll40, Nat.reduceSub, Nat.reduceAdd, Nat.reduceEqDiff, if_true, if_false, ifp_t, ifp_f, reduceIte, Bool.true_eq_false, Bool.false_eq_true, Option.map_some, Option.map_none, Option.bind_some, Option.bind_none, tSq, sSet2, seqOf_fl, seqOf_tup, seqOf_ti, eFld, eMth, eNew, sMatch, cText, cAny, cNil, tAttr, e]
end
theorem close_A {S0 l : Sto} {d : D} (hd : low S0.length d = true) : close S0 d (S0 ++ l) = .ok d S0 := by
  unfold close
  split
  · rename_i h
    have : l = [] := by simpa using h
    rw [this, List.append_nil]
  · rw [if_pos ⟨Trunc.same _ _, hd⟩, List.take_left]
theorem closeE_A {S0 l : Sto} {e : Ex} (hd : lowF S0.length e.fs = true) : closeE S0 e (S0 ++ l) = .er e S0 := by
  unfold closeE
  split
  · rename_i h
    have : l = [] := by simpa using h
    rw [this, List.append_nil]
  · rw [if_pos ⟨Trunc.same _ _, hd⟩, List.take_left]
theorem fnC_rtA {n m : Nat} {B : Ev → Sto → SR} {ds : List D} {S0 l : Sto} {d : D} (hm : ds.length = m) (h : B (startD n ds) S0 = .rt d (S0 ++ l)) (hd : low S0.length d = true) : fnC close n m B ds S0 = .ok d S0 := by
  unfold fnC
  rw [if_pos hm, h]
  exact close_A hd
theorem fnC_erA {n m : Nat} {B : Ev → Sto → SR} {ds : List D} {S0 l : Sto} {e : Ex} {ρ : Ev} (hm : ds.length = m) (h : B (startD n ds) S0 = .er e ρ (S0 ++ l)) (hd : lowF S0.length e.fs = true) : fnC close n m B ds S0 = .er e S0 := by
  unfold fnC
  rw [if_pos hm, h]
  exact closeE_A hd
theorem set_I (S0 tl : Sto) (cs : List Str) (c f : Str) (fs : List (Str × D)) (v : D) (hc : cs.contains c = true) (hf : fs.length < 1000) : setI cs f (.loc S0.length) v (S0 ++ .ins c fs :: tl) = some (S0 ++ .ins c (putD f v fs) :: tl) := by
  unfold setI
  have e : (S0 ++ Ob.ins c fs :: tl)[S0.length]? = some (.ins c fs) := by simp
  simp only [e]
  rw [if_pos ⟨hc, hf⟩]
  have := app_set S0 (Ob.ins c fs :: tl) 0 (.ins c (putD f v fs))
  rw [Nat.add_zero] at this
  rw [this]
  rfl
def rs0 (l : List Nat) : RS := ⟨l, [], [], []⟩
theorem init_ok (S0 : Sto) (l : List Nat) : F_TermReader___init__ [.loc S0.length, .str (L l)] (S0 ++ [.ins "TermReader" []]) = .ok .non (rdrS S0 (rs0 l)) := by
  have hst : startD 2 [D.loc S0.length, .str (L l)] = [some (.loc S0.length), some (.str (L l))] := rfl
  have p1 : setI ocs_rest "rest" (.loc S0.length) (.str (L l)) (S0 ++ [.ins "TermReader" []]) = some (S0 ++ [.ins "TermReader" [("rest", .str (L l))]]) := set_I _ _ _ _ _ _ _ rfl (by simp)
  have p2 : setI ocs_row "row" (.loc S0.length) (.loc (S0.length + 1)) (S0 ++ [.ins "TermReader" [("rest", .str (L l))]] ++ [.lst []]) = some (S0 ++ [.ins "TermReader" [("rest", .str (L l)), ("row", .loc (S0.length + 1))], .lst []]) := by
    rw [List.append_assoc]
    exact set_I _ _ _ _ _ _ _ rfl (by simp)
  have p3 : setI ocs_names "names" (.loc S0.length) (.loc (S0.length + 2)) (S0 ++ [.ins "TermReader" [("rest", .str (L l)), ("row", .loc (S0.length + 1))], .lst []] ++ [.lst []]) = some (S0 ++ [.ins "TermReader" [("rest", .str (L l)), ("row", .loc (S0.length + 1)), ("names", .loc (S0.length + 2))], .lst [], .lst []]) := by
    rw [List.append_assoc]
    exact set_I _ _ _ _ _ _ _ rfl (by simp)
  have p4 : setI ocs_opened "opened" (.loc S0.length) (.loc (S0.length + 3)) (S0 ++ [.ins "TermReader" [("rest", .str (L l)), ("row", .loc (S0.length + 1)), ("names", .loc (S0.length + 2))], .lst [], .lst []] ++ [.lst []]) = some (rdrS S0 (rs0 l)) := by
    rw [List.append_assoc]
    exact set_I _ _ _ _ _ _ _ rfl (by simp)
  have l1 : (S0 ++ [Ob.ins "TermReader" [("rest", D.str (L l))]]).length = S0.length + 1 := by simp
  have l2 : (S0 ++ [Ob.ins "TermReader" [("rest", D.str (L l)), ("row", .loc (S0.length + 1))], .lst []]).length = S0.length + 2 := by simp
  have l3 : (S0 ++ [Ob.ins "TermReader" [("rest", D.str (L l)), ("row", .loc (S0.length + 1)), ("names", .loc (S0.length + 2))], .lst [], .lst []]).length = S0.length + 3 := by simp
  unfold F_TermReader___init__ fnC
  rw [if_pos (show [D.loc S0.length, .str (L l)].length = 2 from rfl), hst]
  unfold B_TermReader___init__
  simp only [eVar, eC, eOp, eT, eAnd, eOr, eNot, eIf, eAndV, eOrV, eNotV, eCall, aNil, aCons, aStar, sOf, eTup, eFl, eLoc, eSl, oNone, oSome, iOf, eNeg, eChain, eMt, bOf, eDict0, eRev, eListRg, iZipD, sRaise1, sRaise0, eCallV, List.lookup, R.bind_ok, R.bind_er, R.bind_stuck, R.toS_ok, R.toS_er, R.toS_stuck, SR.next_nx, SR.next_rt, SR.next_er, SR.next_bk, SR.next_ct, SR.next_stuck, sNil, sSeq, sBrk, sCnt, sExp, sRet, sRetN, sIf, sSet, sAsg, sAug, sPar2, sPar3, tN, DL.tTup, DL.tNil, DL.tCons, DL.tSub, iSeq, srcOf_tup, srcOf_fl, srcOf_kl, srcOf_ti, iRange1, iRange2, sFor, startD, List.map_cons, List.map_nil, List.length_cons, List.length_nil, List.replicate, List.cons_append, List.nil_append, List.getElem?_cons_zero, List.getElem?_cons_succ, List.set_cons_zero, List.set_cons_succ, dSub_int, dFdiv_int, dMod_int, dLt_int, dLe_int, dGt_int, dGe_int, dAddI_int, dSubI_int, dIsN_non, isN, dAdd_int, ll0, ll1, ll2, ll3, ll4, ll5, ll6, ll7, ll8, ll9, ll10, ll11, ll12, ll13, ll14, ll15, ll16, ll17, ll18, ll19, ll20, ll21, ll22, ll23, ll24, ll25, ll26, ll27, ll28, ll29, ll30, ll31, ll32, ll33, ll34, ll35, ll36, ll37, ll38, ll39, ll40, Nat.reduceSub, Nat.reduceAdd, Nat.reduceEqDiff, if_true, if_false, ifp_t, ifp_f, reduceIte, Bool.true_eq_false, Bool.false_eq_true, Option.map_some, Option.map_none, Option.bind_some, Option.bind_none, tSq, sSet2, seqOf_fl, seqOf_tup, seqOf_ti, eFld, eMth, eNew, sMatch, cText, cAny, cNil, tAttr, p1, l1, p2, l2, p3, l3, p4, closeK]
theorem parse_ok (S0 : Sto) {l : List Nat} (hl : l.length < 4000) : F_parse_term [.str (L l)] S0 = (if (RUN (rs0 l)).1 = true then .ok (.tup [ti (RUN (rs0 l)).2.row, .tup ((RUN (rs0 l)).2.nm.map fun n => .str (L n))]) S0 else .er ⟨.own "BadText", [("index", .int 0)]⟩ S0) := by
  have hst : startD 2 [D.str (L l)] = [some (.str (L l)), none] := rfl
  have it : ∀ S, bIsi [.str (L l), .ty "str"] S = .ok (.bl true) S := fun S => isi_strA (v := .str (L l)) rfl S
  have ini := init_ok S0 l
  have hz : Sm (10 ^ 4) (rs0 l) := ⟨by simp only [rs0, List.length_nil]; omega, by simp only [rs0, List.length_nil]; omega, by simp only [rs0, List.length_nil]; omega⟩
  have rt := is_right_ok (S0 := S0) (s := rs0 l) hz hl
  have e : trun 4000 (rs0 l) = RUN (rs0 l) := trun_fuel _ _ _ hl (Nat.lt_succ_self _)
  rw [e] at rt
  have k1 := mth_rd (S0 := S0) (m := "is_right") (by decide)
  generalize RUN (rs0 l) = RR at *
  obtain ⟨b, s⟩ := RR
  cases b with
  | true =>
    simp only [if_true]
    have f1 : dFld ocs_row "row" (.loc S0.length) (rdrS S0 s) = .ok (.loc (S0.length + 1)) (rdrS S0 s) := fld_row
    have f2 : dFld ocs_names "names" (.loc S0.length) (rdrS S0 s) = .ok (.loc (S0.length + 2)) (rdrS S0 s) := fld_nm
    have t1 := bTuple_loc (rd_rowQ (S0 := S0) (s := s))
    have t2 := bTuple_loc (rd_nmQ (S0 := S0) (s := s))
    refine fnC_rtA (l := [.ins "TermReader" [("rest", .str (L s.r)), ("row", .loc (S0.length + 1)), ("names", .loc (S0.length + 2)), ("opened", .loc (S0.length + 3))], .lst (s.row.map D.int), .lst (s.nm.map fun n => .str (L n)), .lst (s.op.map opD)]) rfl ?_ ?_
    · rw [hst]
      show _ = SR.rt _ (rdrS S0 s)
      unfold B_parse_term
      simp only [eVar, eC, eOp, eT, eAnd, eOr, eNot, eIf, eAndV, eOrV, eNotV, eCall, aNil, aCons, aStar, sOf, eTup, eFl, eLoc, eSl, oNone, oSome, iOf, eNeg, eChain, eMt, bOf, eDict0, eRev, eListRg, iZipD, sRaise1, sRaise0, eCallV, List.lookup, R.bind_ok, R.bind_er, R.bind_stuck, R.toS_ok, R.toS_er, R.toS_stuck, SR.next_nx, SR.next_rt, SR.next_er, SR.next_bk, SR.next_ct, SR.next_stuck, sNil, sSeq, sBrk, sCnt, sExp, sRet, sRetN, sIf, sSet, sAsg, sAug, sPar2, sPar3, tN, DL.tTup, DL.tNil, DL.tCons, DL.tSub, iSeq, srcOf_tup, srcOf_fl, srcOf_kl, srcOf_ti, iRange1, iRange2, sFor, startD, List.map_cons, List.map_nil, List.length_cons, List.length_nil, List.replicate, List.cons_append, List.nil_append, List.getElem?_cons_zero, List.getElem?_cons_succ, List.set_cons_zero, List.set_cons_succ, dSub_int, dFdiv_int, dMod_int, dLt_int, dLe_int, dGt_int, dGe_int, dAddI_int, dSubI_int, dIsN_non, isN, dAdd_int, ll0, ll1, ll2, ll3, ll4, ll5, ll6, ll7, ll8, ll9, ll10, ll11, ll12, ll13, ll14, ll15, ll16, ll17, ll18, ll19, ll20, ll21, ll22, ll23, ll24, ll25, ll26, ll27, ll28, ll29, ll30, ll31, ll32, ll33, ll34, ll35, ll36, ll37, ll38, ll39, ll40, Nat.reduceSub, Nat.reduceAdd, Nat.reduceEqDiff, if_true, if_false, ifp_t, ifp_f, reduceIte, Bool.true_eq_false, Bool.false_eq_true, Option.map_some, Option.map_none, Option.bind_some, Option.bind_none, tSq, sSet2, seqOf_fl, seqOf_tup, seqOf_ti, eFld, eMth, eNew, sMatch, cText, cAny, cNil, tAttr, it, Bool.not_true, ini, k1, rt, f1, t1, f2, t2]
      rfl
    · have h1 : lowL S0.length (s.row.map D.int) = true := lowL_ints _ _
      have h2 : lowL S0.length (s.nm.map fun n => D.str (L n)) = true := lowL_of fun d hd => by
        obtain ⟨n, _, rfl⟩ := List.mem_map.mp hd
        rfl
      show (lowL S0.length (s.row.map D.int) && (lowL S0.length (s.nm.map fun n => D.str (L n)) && true)) = true
      rw [h1, h2]; rfl
  | false =>
    simp only [Bool.false_eq_true, if_false]
    refine fnC_erA (ρ := [some (.str (L l)), some (.loc S0.length)]) (l := [.ins "TermReader" [("rest", .str (L s.r)), ("row", .loc (S0.length + 1)), ("names", .loc (S0.length + 2)), ("opened", .loc (S0.length + 3))], .lst (s.row.map D.int), .lst (s.nm.map fun n => .str (L n)), .lst (s.op.map opD)]) rfl ?_ rfl
    rw [hst]
    show _ = SR.er _ _ (rdrS S0 s)
    unfold B_parse_term
    simp only [eVar, eC, eOp, eT, eAnd, eOr, eNot, eIf, eAndV, eOrV, eNotV, eCall, aNil, aCons, aStar, sOf, eTup, eFl, eLoc, eSl, oNone, oSome, iOf, eNeg, eChain, eMt, bOf, eDict0, eRev, eListRg, iZipD, sRaise1, sRaise0, eCallV, List.lookup, R.bind_ok, R.bind_er, R.bind_stuck, R.toS_ok, R.toS_er, R.toS_stuck, SR.next_nx, SR.next_rt, SR.next_er, SR.next_bk, SR.next_ct, SR.next_stuck, sNil, sSeq, sBrk, sCnt, sExp, sRet, sRetN, sIf, sSet, sAsg, sAug, sPar2, sPar3, tN, DL.tTup, DL.tNil, DL.tCons, DL.tSub, iSeq, srcOf_tup, srcOf_fl, srcOf_kl, srcOf_ti, iRange1, iRange2, sFor, startD, List.map_cons, List.map_nil, List.length_cons, List.length_nil, List.replicate, List.cons_append, List.nil_append, List.getElem?_cons_zero, List.getElem?_cons_succ, List.set_cons_zero, List.set_cons_succ, dSub_int, dFdiv_int, dMod_int, dLt_int, dLe_int, dGt_int, dGe_int, dAddI_int, dSubI_int, dIsN_non, isN, dAdd_int, ll0, ll1, ll2, ll3, ll4, ll5, ll6, ll7, ll8, ll9, ll10, ll11, ll12, ll13, ll14, ll15, ll16, ll17, ll18, ll19, ll20, ll21, ll22, ll23, ll24, ll25, ll26, ll27, ll28, ll29, ll30, ll31, ll32, ll33, ll34, ll35, ll36, ll37, ll38, ll39, ll40, Nat.reduceSub, Nat.reduceAdd, Nat.reduceEqDiff, if_true, if_false, ifp_t, ifp_f, reduceIte, Bool.true_eq_false, Bool.false_eq_true, Option.map_some, Option.map_none, Option.bind_some, Option.bind_none, tSq, sSet2, seqOf_fl, seqOf_tup, seqOf_ti, eFld, eMth, eNew, sMatch, cText, cAny, cNil, tAttr, it, Bool.not_true, ini, k1, rt, Bool.not_false]
theorem ix_L {l : List Nat} (hl : l.length ≤ 10 ^ 6) {j c : Nat} (h : l[j]? = some c) (S : Sto) : dIx (.str (L l)) (.int (j : Int)) S = .ok (.str (L [c])) S := by
  have hj : j < l.length := (List.getElem?_eq_some_iff.mp h).1
  have e : dIx (.str (L l)) (.int (j : Int)) S = ifp ((L l).length ≤ sizeLine) (match atI (L l).cps.toList (j : Int) with
    | some c => R.ok (D.str ⟨#[c]⟩) S
    | none => .stuck) .stuck := rfl
  rw [e, ifp_pos (by rw [L_len]; exact Nat.le_trans hl (by decide)), L_cps, atI_nn (by omega) (by omega), Int.toNat_natCast, h]
  rfl
theorem in_L (c : Nat) (S : Sto) : dInS (.str (L [c])) (.str "abcdefghijklmnopqrstuvwxyz") S = .ok (.bl (DL.lt c)) S := by
  show R.ok (D.bl (!(Builtin.Str.occurrences abc ⟨#[c]⟩ 0 abc.length 1).isEmpty)) S = _
  rw [in_abc]
theorem mid_L (l : List Nat) (hl : l.length ≤ 10 ^ 6) (a k : Nat) (S : Sto) : dSl mkFl (.str (L l)) (some (a : Int)) (some ((a + k : Nat) : Int)) S = .ok (.str (L ((l.drop a).take k))) S := by
  rw [sl_str (by rw [L_len]; exact hl)]
  congr 2
  unfold cutS
  rw [L_cps, L_len, HT.sIx_nat, HT.sIx_nat]
  show L _ = L _
  congr 1
  by_cases h : a ≤ l.length
  · rw [Nat.min_eq_left h]
    by_cases h2 : a + k ≤ l.length
    · rw [Nat.min_eq_left h2, show a + k - a = k by omega]
    · rw [Nat.min_eq_right (by omega), List.take_of_length_le (by rw [List.length_drop]; exact Nat.le_refl _), List.take_of_length_le (by rw [List.length_drop]; omega)]
  · have e1 : min a l.length = l.length := Nat.min_eq_right (by omega)
    rw [e1, List.drop_of_length_le (Nat.le_refl _), List.drop_of_length_le (show l.length ≤ a by omega)]
    simp
theorem scan_ok {l : List Nat} (hl : l.length ≤ 10 ^ 5) (rec : Fn) (x1 x3 x4 x5 x6 x7 x8 : Option D) (S : Sto) : ∀ (n j : Nat), j ≤ l.length → (l.drop j).length < n →
    whileD (C1__law_read rec) (L1__law_read rec) n [some (.str (L l)), x1, some (.int (j : Int)), x3, x4, x5, x6, x7, x8] S = .nx [some (.str (L l)), x1, some (.int ((j + ((l.drop j).takeWhile DL.lt).length : Nat) : Int)), x3, x4, x5, x6, x7, x8] S
  | 0, j, _, h => by omega
  | n + 1, j, hj, h => by
    have ln := len_L l (Nat.le_trans hl (by decide))
    by_cases he : j = l.length
    · subst he
      rw [List.drop_length, List.takeWhile_nil]
      refine whileD_end ?_
      have z : decide ((l.length : Int) < (l.length : Int)) = false := decide_eq_false (by omega)
      simp only [eVar, eC, eOp, eT, eAnd, eOr, eNot, eIf, eAndV, eOrV, eNotV, eCall, aNil, aCons, aStar, sOf, eTup, eFl, eLoc, eSl, oNone, oSome, iOf, eNeg, eChain, eMt, bOf, eDict0, eRev, eListRg, iZipD, sRaise1, sRaise0, eCallV, List.lookup, R.bind_ok, R.bind_er, R.bind_stuck, R.toS_ok, R.toS_er, R.toS_stuck, SR.next_nx, SR.next_rt, SR.next_er, SR.next_bk, SR.next_ct, SR.next_stuck, sNil, sSeq, sBrk, sCnt, sExp, sRet, sRetN, sIf, sSet, sAsg, sAug, sPar2, sPar3, tN, DL.tTup, DL.tNil, DL.tCons, DL.tSub, iSeq, srcOf_tup, srcOf_fl, srcOf_kl, srcOf_ti, iRange1, iRange2, sFor, startD, List.map_cons, List.map_nil, List.length_cons, List.length_nil, List.replicate, List.cons_append, List.nil_append, List.getElem?_cons_zero, List.getElem?_cons_succ, List.set_cons_zero, List.set_cons_succ, dSub_int, dFdiv_int, dMod_int, dLt_int, dLe_int, dGt_int, dGe_int, dAddI_int, dSubI_int, dIsN_non, isN, dAdd_int, ll0, ll1, ll2, ll3, ll4, ll5, ll6, ll7, ll8, ll9, ll10, ll11, ll12, ll13, ll14, ll15, ll16, ll17, ll18, ll19, ll20, ll21, ll22, ll23, ll24, ll25, ll26, ll27, ll28, ll29, ll30, ll31, ll32, ll33, ll34, ll35, ll36, ll37, ll38, ll39, ll40, Nat.reduceSub, Nat.reduceAdd, Nat.reduceEqDiff, if_true, if_false, ifp_t, ifp_f, reduceIte, Bool.true_eq_false, Bool.false_eq_true, Option.map_some, Option.map_none, Option.bind_some, Option.bind_none, tSq, sSet2, seqOf_fl, seqOf_tup, seqOf_ti, C1__law_read, ln, z]
    · have hlt : j < l.length := by omega
      have hg : l[j]? = some l[j] := List.getElem?_eq_getElem hlt
      have ix := ix_L (Nat.le_trans hl (by decide)) hg
      have ins := in_L l[j]
      have z : decide ((j : Int) < (l.length : Int)) = true := decide_eq_true (by omega)
      rw [List.length_drop] at h
      have ed : l.drop j = l[j] :: l.drop (j + 1) := List.drop_eq_getElem_cons hlt
      rw [ed, List.takeWhile_cons]
      generalize l[j] = c at *
      cases hc : DL.lt c with
      | false =>
        rw [hc] at ins
        refine whileD_end ?_
        simp only [eVar, eC, eOp, eT, eAnd, eOr, eNot, eIf, eAndV, eOrV, eNotV, eCall, aNil, aCons, aStar, sOf, eTup, eFl, eLoc, eSl, oNone, oSome, iOf, eNeg, eChain, eMt, bOf, eDict0, eRev, eListRg, iZipD, sRaise1, sRaise0, eCallV, List.lookup, R.bind_ok, R.bind_er, R.bind_stuck, R.toS_ok, R.toS_er, R.toS_stuck, SR.next_nx, SR.next_rt, SR.next_er, SR.next_bk, SR.next_ct, SR.next_stuck, sNil, sSeq, sBrk, sCnt, sExp, sRet, sRetN, sIf, sSet, sAsg, sAug, sPar2, sPar3, tN, DL.tTup, DL.tNil, DL.tCons, DL.tSub, iSeq, srcOf_tup, srcOf_fl, srcOf_kl, srcOf_ti, iRange1, iRange2, sFor, startD, List.map_cons, List.map_nil, List.length_cons, List.length_nil, List.replicate, List.cons_append, List.nil_append, List.getElem?_cons_zero, List.getElem?_cons_succ, List.set_cons_zero, List.set_cons_succ, dSub_int, dFdiv_int, dMod_int, dLt_int, dLe_int, dGt_int, dGe_int, dAddI_int, dSubI_int, dIsN_non, isN, dAdd_int, ll0, ll1, ll2, ll3, ll4, ll5, ll6, ll7, ll8, ll9, ll10, ll11, ll12, ll13, ll14, ll15, ll16, ll17, ll18, ll19, ll20, ll21, ll22, ll23, ll24, ll25, ll26, ll27, ll28, ll29, ll30, ll31, ll32, ll33, ll34, ll35, ll36, ll37, ll38, ll39, ll40, Nat.reduceSub, Nat.reduceAdd, Nat.reduceEqDiff, if_true, if_false, ifp_t, ifp_f, reduceIte, Bool.true_eq_false, Bool.false_eq_true, Option.map_some, Option.map_none, Option.bind_some, Option.bind_none, tSq, sSet2, seqOf_fl, seqOf_tup, seqOf_ti, C1__law_read, ln, z, ix, ins]
      | true =>
        rw [hc] at ins
        have hC : C1__law_read rec [some (.str (L l)), x1, some (.int (j : Int)), x3, x4, x5, x6, x7, x8] S = .ok true S := by
          simp only [eVar, eC, eOp, eT, eAnd, eOr, eNot, eIf, eAndV, eOrV, eNotV, eCall, aNil, aCons, aStar, sOf, eTup, eFl, eLoc, eSl, oNone, oSome, iOf, eNeg, eChain, eMt, bOf, eDict0, eRev, eListRg, iZipD, sRaise1, sRaise0, eCallV, List.lookup, R.bind_ok, R.bind_er, R.bind_stuck, R.toS_ok, R.toS_er, R.toS_stuck, SR.next_nx, SR.next_rt, SR.next_er, SR.next_bk, SR.next_ct, SR.next_stuck, sNil, sSeq, sBrk, sCnt, sExp, sRet, sRetN, sIf, sSet, sAsg, sAug, sPar2, sPar3, tN, DL.tTup, DL.tNil, DL.tCons, DL.tSub, iSeq, srcOf_tup, srcOf_fl, srcOf_kl, srcOf_ti, iRange1, iRange2, sFor, startD, List.map_cons, List.map_nil, List.length_cons, List.length_nil, List.replicate, List.cons_append, List.nil_append, List.getElem?_cons_zero, List.getElem?_cons_succ, List.set_cons_zero, List.set_cons_succ, dSub_int, dFdiv_int, dMod_int, dLt_int, dLe_int, dGt_int, dGe_int, dAddI_int, dSubI_int, dIsN_non, isN, dAdd_int, ll0, ll1, ll2, ll3, ll4, ll5, ll6, ll7, ll8, ll9, ll10, ll11, ll12, ll13, ll14, ll15, ll16, ll17, ll18, ll19, ll20, ll21, ll22, ll23, ll24, ll25, ll26, ll27, ll28, ll29, ll30, ll31, ll32, ll33, ll34, ll35, ll36, ll37, ll38, ll39, ll40, Nat.reduceSub, Nat.reduceAdd, Nat.reduceEqDiff, if_true, if_false, ifp_t, ifp_f, reduceIte, Bool.true_eq_false, Bool.false_eq_true, Option.map_some, Option.map_none, Option.bind_some, Option.bind_none, tSq, sSet2, seqOf_fl, seqOf_tup, seqOf_ti, C1__law_read, ln, z, ix, ins]
        have hB : L1__law_read rec [some (.str (L l)), x1, some (.int (j : Int)), x3, x4, x5, x6, x7, x8] S = .nx [some (.str (L l)), x1, some (.int ((j + 1 : Nat) : Int)), x3, x4, x5, x6, x7, x8] S := by
          have e : (j : Int) + 1 = ((j + 1 : Nat) : Int) := by omega
          simp only [eVar, eC, eOp, eT, eAnd, eOr, eNot, eIf, eAndV, eOrV, eNotV, eCall, aNil, aCons, aStar, sOf, eTup, eFl, eLoc, eSl, oNone, oSome, iOf, eNeg, eChain, eMt, bOf, eDict0, eRev, eListRg, iZipD, sRaise1, sRaise0, eCallV, List.lookup, R.bind_ok, R.bind_er, R.bind_stuck, R.toS_ok, R.toS_er, R.toS_stuck, SR.next_nx, SR.next_rt, SR.next_er, SR.next_bk, SR.next_ct, SR.next_stuck, sNil, sSeq, sBrk, sCnt, sExp, sRet, sRetN, sIf, sSet, sAsg, sAug, sPar2, sPar3, tN, DL.tTup, DL.tNil, DL.tCons, DL.tSub, iSeq, srcOf_tup, srcOf_fl, srcOf_kl, srcOf_ti, iRange1, iRange2, sFor, startD, List.map_cons, List.map_nil, List.length_cons, List.length_nil, List.replicate, List.cons_append, List.nil_append, List.getElem?_cons_zero, List.getElem?_cons_succ, List.set_cons_zero, List.set_cons_succ, dSub_int, dFdiv_int, dMod_int, dLt_int, dLe_int, dGt_int, dGe_int, dAddI_int, dSubI_int, dIsN_non, isN, dAdd_int, ll0, ll1, ll2, ll3, ll4, ll5, ll6, ll7, ll8, ll9, ll10, ll11, ll12, ll13, ll14, ll15, ll16, ll17, ll18, ll19, ll20, ll21, ll22, ll23, ll24, ll25, ll26, ll27, ll28, ll29, ll30, ll31, ll32, ll33, ll34, ll35, ll36, ll37, ll38, ll39, ll40, Nat.reduceSub, Nat.reduceAdd, Nat.reduceEqDiff, if_true, if_false, ifp_t, ifp_f, reduceIte, Bool.true_eq_false, Bool.false_eq_true, Option.map_some, Option.map_none, Option.bind_some, Option.bind_none, tSq, sSet2, seqOf_fl, seqOf_tup, seqOf_ti, L1__law_read, e]
        rw [whileD_next hC hB, scan_ok hl rec x1 x3 x4 x5 x6 x7 x8 S n (j + 1) hlt (by rw [List.length_drop]; omega)]
        rw [if_pos rfl, List.length_cons, show j + 1 + ((l.drop (j + 1)).takeWhile DL.lt).length = j + (((l.drop (j + 1)).takeWhile DL.lt).length + 1) by omega]
def nmT (nm : List (List Nat)) : D := .tup (nm.map fun n => .str (L n))
/-- what the law's reader answers -/
def encR (n : Nat) : Option Rd3 → D
  | none => .fl []
  | some (row, nm, r) => .fl [ti row, nmT nm, .int ((n - r.length : Nat) : Int)]
theorem nmT_add (a b : List (List Nat)) (h : a.length + b.length ≤ 10 ^ 6) (S : Sto) : dAdd (nmT a) (nmT b) S = .ok (nmT (a ++ b)) S := by
  unfold nmT
  rw [add_tup _ _ (by rw [List.length_map, List.length_map]; exact h), List.map_append]
theorem ti_add (a b : List Int) (h : a.length + b.length ≤ 10 ^ 6) (S : Sto) : dAdd (ti a) (ti b) S = .ok (ti (a ++ b)) S := add_ti a b (Nat.le_trans h (by decide)) S
theorem cnt_drop (l : List Nat) {a b : Nat} (h : a ≤ b) : (l.drop b).count 40 ≤ (l.drop a).count 40 := by
  have e : l.drop b = (l.drop a).drop (b - a) := by rw [List.drop_drop]; congr 1; omega
  rw [e]
  exact (List.drop_sublist _ _).count_le _
/-- the parts of a term -/
theorem parts_ok {l : List Nat} (hl : l.length < 4000) {rec : Fn} (x1 x2 : Option D) (S : Sto) (c : Nat) (ih : ∀ f j, j ≤ l.length → (l.drop j).count 40 < c → 2 * (l.drop j).length + 1 ≤ f → rec [.str (L l), .int (j : Int)] S = .ok (encR l.length (rdP f (l.drop j))) S) :
    ∀ (f n j : Nat) (k : Nat) (R0 : List Int) (N0 : List (List Nat)) (x8 : Option D), j ≤ l.length → (l.drop j).count 40 < c → 2 * (l.drop j).length + 2 ≤ f → (l.drop j).length < n → R0.length + (l.drop j).length ≤ 4000 → N0.length ≤ R0.length →
    (prt f (l.drop j) (k : Int) = none ∧ (whileD (C2__law_read rec) (L2__law_read rec) n [some (.str (L l)), x1, x2, some (ti R0), some (nmT N0), some (.int (k : Int)), some (.int (j : Int)), some (.bl true), x8] S = .rt (.fl []) S ∨
      ∃ R1 N1 k1 j1 y7 y8, (l.drop j1).take 1 ≠ [41] ∧ whileD (C2__law_read rec) (L2__law_read rec) n [some (.str (L l)), x1, x2, some (ti R0), some (nmT N0), some (.int (k : Int)), some (.int (j : Int)), some (.bl true), x8] S = .nx [some (.str (L l)), x1, x2, some R1, some N1, some k1, some (.int ((j1 : Nat) : Int)), y7, y8] S)) ∨
    (∃ (row : List Int) (nm : List (List Nat)) (k1 j1 : Nat) (y7 y8 : Option D), prt f (l.drop j) (k : Int) = some (row ++ [(k1 : Int)], nm, l.drop (j1 + 1)) ∧ j1 < l.length ∧ nm.length ≤ row.length ∧ R0.length + row.length ≤ 4000 ∧ (l.drop j1).take 1 = [41] ∧
      whileD (C2__law_read rec) (L2__law_read rec) n [some (.str (L l)), x1, x2, some (ti R0), some (nmT N0), some (.int (k : Int)), some (.int (j : Int)), some (.bl true), x8] S = .nx [some (.str (L l)), x1, x2, some (ti (R0 ++ row)), some (nmT (N0 ++ nm)), some (.int (k1 : Int)), some (.int (j1 : Int)), y7, y8] S)
  | 0, n, j, k, R0, N0, x8, hj, hc, hf, hn, hR, hN => by omega
  | f + 1, 0, j, k, R0, N0, x8, hj, hc, hf, hn, hR, hN => by omega
  | f + 1, n + 1, j, k, R0, N0, x8, hj, hc, hf, hn, hR, hN => by
    have rd := ih f j hj hc (by omega)
    have hC : ∀ x8, C2__law_read rec [some (.str (L l)), x1, x2, some (ti R0), some (nmT N0), some (.int (k : Int)), some (.int (j : Int)), some (.bl true), x8] S = .ok true S := fun x8 => by
      simp only [eVar, eC, eOp, eT, eAnd, eOr, eNot, eIf, eAndV, eOrV, eNotV, eCall, aNil, aCons, aStar, sOf, eTup, eFl, eLoc, eSl, oNone, oSome, iOf, eNeg, eChain, eMt, bOf, eDict0, eRev, eListRg, iZipD, sRaise1, sRaise0, eCallV, List.lookup, R.bind_ok, R.bind_er, R.bind_stuck, R.toS_ok, R.toS_er, R.toS_stuck, SR.next_nx, SR.next_rt, SR.next_er, SR.next_bk, SR.next_ct, SR.next_stuck, sNil, sSeq, sBrk, sCnt, sExp, sRet, sRetN, sIf, sSet, sAsg, sAug, sPar2, sPar3, tN, DL.tTup, DL.tNil, DL.tCons, DL.tSub, iSeq, srcOf_tup, srcOf_fl, srcOf_kl, srcOf_ti, iRange1, iRange2, sFor, startD, List.map_cons, List.map_nil, List.length_cons, List.length_nil, List.replicate, List.cons_append, List.nil_append, List.getElem?_cons_zero, List.getElem?_cons_succ, List.set_cons_zero, List.set_cons_succ, dSub_int, dFdiv_int, dMod_int, dLt_int, dLe_int, dGt_int, dGe_int, dAddI_int, dSubI_int, dIsN_non, isN, dAdd_int, ll0, ll1, ll2, ll3, ll4, ll5, ll6, ll7, ll8, ll9, ll10, ll11, ll12, ll13, ll14, ll15, ll16, ll17, ll18, ll19, ll20, ll21, ll22, ll23, ll24, ll25, ll26, ll27, ll28, ll29, ll30, ll31, ll32, ll33, ll34, ll35, ll36, ll37, ll38, ll39, ll40, Nat.reduceSub, Nat.reduceAdd, Nat.reduceEqDiff, if_true, if_false, ifp_t, ifp_f, reduceIte, Bool.true_eq_false, Bool.false_eq_true, Option.map_some, Option.map_none, Option.bind_some, Option.bind_none, tSq, sSet2, seqOf_fl, seqOf_tup, seqOf_ti, C2__law_read]
    cases hp : rdP f (l.drop j) with
    | none =>
      rw [hp] at rd
      refine .inl ⟨by rw [prt, hp], .inl ?_⟩
      have rd' : rec [.str (L l), .int (j : Int)] S = .ok (.fl []) S := rd
      have eq : ∀ S, dEqY false (.fl []) (.fl []) S = .ok (.bl true) S := fun S => rfl
      refine whileD_ret (hC _) ?_
      generalize nmT N0 = ND at *
      generalize ti R0 = RD at *
      simp only [eVar, eC, eOp, eT, eAnd, eOr, eNot, eIf, eAndV, eOrV, eNotV, eCall, aNil, aCons, aStar, sOf, eTup, eFl, eLoc, eSl, oNone, oSome, iOf, eNeg, eChain, eMt, bOf, eDict0, eRev, eListRg, iZipD, sRaise1, sRaise0, eCallV, List.lookup, R.bind_ok, R.bind_er, R.bind_stuck, R.toS_ok, R.toS_er, R.toS_stuck, SR.next_nx, SR.next_rt, SR.next_er, SR.next_bk, SR.next_ct, SR.next_stuck, sNil, sSeq, sBrk, sCnt, sExp, sRet, sRetN, sIf, sSet, sAsg, sAug, sPar2, sPar3, tN, DL.tTup, DL.tNil, DL.tCons, DL.tSub, iSeq, srcOf_tup, srcOf_fl, srcOf_kl, srcOf_ti, iRange1, iRange2, sFor, startD, List.map_cons, List.map_nil, List.length_cons, List.length_nil, List.replicate, List.cons_append, List.nil_append, List.getElem?_cons_zero, List.getElem?_cons_succ, List.set_cons_zero, List.set_cons_succ, dSub_int, dFdiv_int, dMod_int, dLt_int, dLe_int, dGt_int, dGe_int, dAddI_int, dSubI_int, dIsN_non, isN, dAdd_int, ll0, ll1, ll2, ll3, ll4, ll5, ll6, ll7, ll8, ll9, ll10, ll11, ll12, ll13, ll14, ll15, ll16, ll17, ll18, ll19, ll20, ll21, ll22, ll23, ll24, ll25, ll26, ll27, ll28, ll29, ll30, ll31, ll32, ll33, ll34, ll35, ll36, ll37, ll38, ll39, ll40, Nat.reduceSub, Nat.reduceAdd, Nat.reduceEqDiff, if_true, if_false, ifp_t, ifp_f, reduceIte, Bool.true_eq_false, Bool.false_eq_true, Option.map_some, Option.map_none, Option.bind_some, Option.bind_none, tSq, sSet2, seqOf_fl, seqOf_tup, seqOf_ti, L2__law_read, rd', eq]
    | some q =>
      obtain ⟨row, nm, r2⟩ := q
      have gq := rdP_good f (l.drop j) hp
      have g1 : r2 <:+ l := gq.suf.trans (List.drop_suffix _ _)
      have g5 : row.length + r2.length ≤ (l.drop j).length := gq.len
      have hpos : 0 < row.length := List.length_pos_iff.mpr gq.ne
      have hnm : nm.length ≤ row.length := rdP_nm f (l.drop j) hp
      have hle := g1.length_le
      have er : r2 = l.drop (l.length - r2.length) := drop_suf g1
      rw [hp] at rd
      have rd' : rec [.str (L l), .int (j : Int)] S = .ok (.fl [ti row, nmT nm, .int ((l.length - r2.length : Nat) : Int)]) S := rd
      generalize hj2 : l.length - r2.length = j2 at *
      have hjj : j ≤ j2 := by rw [List.length_drop] at g5; omega
      have eq : ∀ (A B C : D) S, dEqY false (.fl [A, B, C]) (.fl []) S = .ok (.bl false) S := fun A B C S => rfl
      have i0 : ∀ (A B C : D) S, dIx (.fl [A, B, C]) (.int 0) S = .ok A S := fun A B C S => rfl
      have i1 : ∀ (A B C : D) S, dIx (.fl [A, B, C]) (.int 1) S = .ok B S := fun A B C S => rfl
      have i2 : ∀ (A B C : D) S, dIx (.fl [A, B, C]) (.int 2) S = .ok C S := fun A B C S => rfl
      have aR := ti_add R0 row (by omega)
      have aN := nmT_add N0 nm (by omega)
      have md : ∀ S, dSl mkFl (.str (L l)) (some (j2 : Int)) (some ((j2 : Int) + 2)) S = .ok (.str (L (r2.take 2))) S := fun S => by
        have := mid_L l (by omega) j2 2 S
        rw [← er] at this
        rw [show (j2 : Int) + 2 = ((j2 + 2 : Nat) : Int) by omega]
        exact this
      have q2 : ∀ S, dEq false (.str (L (r2.take 2))) (.str ", ") S = .ok (.bl (decide (r2.take 2 = [44, 32]))) S := fun S => by
        have := eq_L false (r2.take 2) [44, 32] S
        simp only [Bool.false_eq_true, if_false] at this
        exact this
      have m2 : ∀ b : Bool, ∀ S, dMulT (.int 2) (.int (if b then 1 else 0)) S = .ok (.int (2 * (if b then 1 else 0))) S := fun b S => mulT_int (by omega) S
      by_cases h2 : r2.take 2 = [44, 32]
      · have hlen : 2 ≤ r2.length := by
          have := congrArg List.length h2
          rw [List.length_take] at this
          simp at this
          omega
        rw [decide_eq_true h2] at q2
        have e3 : r2.drop 2 = l.drop (j2 + 2) := by
          conv => lhs; rw [er]
          rw [List.drop_drop]
        have hj2l : j2 + 2 ≤ l.length := by omega
        have len2 : (l.drop (j2 + 2)).length = r2.length - 2 := by rw [List.length_drop]; omega
        have hB : L2__law_read rec [some (.str (L l)), x1, x2, some (ti R0), some (nmT N0), some (.int (k : Int)), some (.int (j : Int)), some (.bl true), x8] S = .nx [some (.str (L l)), x1, x2, some (ti (R0 ++ row)), some (nmT (N0 ++ nm)), some (.int ((k + 1 : Nat) : Int)), some (.int ((j2 + 2 : Nat) : Int)), some (.bl true), some (.fl [ti row, nmT nm, .int (j2 : Int)])] S := by
          have mm : ∀ S, dMulT (.int 2) (.int 1) S = .ok (.int 2) S := fun S => m2 true S
          have bi : ∀ S, bInt [.bl true] S = .ok (.int 1) S := fun S => rfl
          have ek : (k : Int) + 1 = ((k + 1 : Nat) : Int) := by omega
          have ej : (j2 : Int) + 2 = ((j2 + 2 : Nat) : Int) := by omega
          rw [ej] at md
          generalize nmT N0 = ND at *
          generalize ti R0 = RD at *
          generalize nmT nm = ND1 at *
          generalize ti row = RD1 at *
          generalize nmT (N0 ++ nm) = ND2 at *
          generalize ti (R0 ++ row) = RD2 at *
          simp only [eVar, eC, eOp, eT, eAnd, eOr, eNot, eIf, eAndV, eOrV, eNotV, eCall, aNil, aCons, aStar, sOf, eTup, eFl, eLoc, eSl, oNone, oSome, iOf, eNeg, eChain, eMt, bOf, eDict0, eRev, eListRg, iZipD, sRaise1, sRaise0, eCallV, List.lookup, R.bind_ok, R.bind_er, R.bind_stuck, R.toS_ok, R.toS_er, R.toS_stuck, SR.next_nx, SR.next_rt, SR.next_er, SR.next_bk, SR.next_ct, SR.next_stuck, sNil, sSeq, sBrk, sCnt, sExp, sRet, sRetN, sIf, sSet, sAsg, sAug, sPar2, sPar3, tN, DL.tTup, DL.tNil, DL.tCons, DL.tSub, iSeq, srcOf_tup, srcOf_fl, srcOf_kl, srcOf_ti, iRange1, iRange2, sFor, startD, List.map_cons, List.map_nil, List.length_cons, List.length_nil, List.replicate, List.cons_append, List.nil_append, List.getElem?_cons_zero, List.getElem?_cons_succ, List.set_cons_zero, List.set_cons_succ, dSub_int, dFdiv_int, dMod_int, dLt_int, dLe_int, dGt_int, dGe_int, dAddI_int, dSubI_int, dIsN_non, isN, dAdd_int, ll0, ll1, ll2, ll3, ll4, ll5, ll6, ll7, ll8, ll9, ll10, ll11, ll12, ll13, ll14, ll15, ll16, ll17, ll18, ll19, ll20, ll21, ll22, ll23, ll24, ll25, ll26, ll27, ll28, ll29, ll30, ll31, ll32, ll33, ll34, ll35, ll36, ll37, ll38, ll39, ll40, Nat.reduceSub, Nat.reduceAdd, Nat.reduceEqDiff, if_true, if_false, ifp_t, ifp_f, reduceIte, Bool.true_eq_false, Bool.false_eq_true, Option.map_some, Option.map_none, Option.bind_some, Option.bind_none, tSq, sSet2, seqOf_fl, seqOf_tup, seqOf_ti, L2__law_read, rd', eq, i0, i1, i2, aR, aN, ek, ej, md, q2, bi, mm]
        have nx := parts_ok hl x1 x2 S c ih f n (j2 + 2) (k + 1) (R0 ++ row) (N0 ++ nm) (some (.fl [ti row, nmT nm, .int (j2 : Int)])) hj2l (Nat.lt_of_le_of_lt (cnt_drop l (by omega)) hc) (by rw [len2]; omega) (by rw [len2]; omega) (by rw [len2, List.length_append]; omega) (by rw [List.length_append, List.length_append]; omega)
        have ek : (k : Int) + 1 = ((k + 1 : Nat) : Int) := by omega
        rw [whileD_next (hC x8) hB]
        rw [prt, hp]
        simp only
        rw [if_pos h2, e3, ek]
        rcases nx with ⟨n1, n2⟩ | ⟨row2, nm2, k1, j1, y7, y8, n1, n2, n3, n4, n5, n6⟩
        · exact .inl ⟨by rw [n1]; rfl, n2⟩
        · refine .inr ⟨row ++ row2, nm ++ nm2, k1, j1, y7, y8, ?_, n2, by rw [List.length_append, List.length_append]; omega, by rw [List.length_append] at n4 ⊢; omega, n5, ?_⟩
          · rw [n1]
            show some (row ++ (row2 ++ [(k1 : Int)]), nm ++ nm2, l.drop (j1 + 1)) = _
            rw [List.append_assoc]
          · rw [n6, List.append_assoc, List.append_assoc]
      · rw [decide_eq_false h2] at q2
        have hB : L2__law_read rec [some (.str (L l)), x1, x2, some (ti R0), some (nmT N0), some (.int (k : Int)), some (.int (j : Int)), some (.bl true), x8] S = .nx [some (.str (L l)), x1, x2, some (ti (R0 ++ row)), some (nmT (N0 ++ nm)), some (.int ((k + 1 : Nat) : Int)), some (.int (j2 : Int)), some (.bl false), some (.fl [ti row, nmT nm, .int (j2 : Int)])] S := by
          have mm : ∀ S, dMulT (.int 2) (.int 0) S = .ok (.int 0) S := fun S => m2 false S
          have bi : ∀ S, bInt [.bl false] S = .ok (.int 0) S := fun S => rfl
          have ek : (k : Int) + 1 = ((k + 1 : Nat) : Int) := by omega
          generalize nmT N0 = ND at *
          generalize ti R0 = RD at *
          generalize nmT nm = ND1 at *
          generalize ti row = RD1 at *
          generalize nmT (N0 ++ nm) = ND2 at *
          generalize ti (R0 ++ row) = RD2 at *
          simp only [eVar, eC, eOp, eT, eAnd, eOr, eNot, eIf, eAndV, eOrV, eNotV, eCall, aNil, aCons, aStar, sOf, eTup, eFl, eLoc, eSl, oNone, oSome, iOf, eNeg, eChain, eMt, bOf, eDict0, eRev, eListRg, iZipD, sRaise1, sRaise0, eCallV, List.lookup, R.bind_ok, R.bind_er, R.bind_stuck, R.toS_ok, R.toS_er, R.toS_stuck, SR.next_nx, SR.next_rt, SR.next_er, SR.next_bk, SR.next_ct, SR.next_stuck, sNil, sSeq, sBrk, sCnt, sExp, sRet, sRetN, sIf, sSet, sAsg, sAug, sPar2, sPar3, tN, DL.tTup, DL.tNil, DL.tCons, DL.tSub, iSeq, srcOf_tup, srcOf_fl, srcOf_kl, srcOf_ti, iRange1, iRange2, sFor, startD, List.map_cons, List.map_nil, List.length_cons, List.length_nil, List.replicate, List.cons_append, List.nil_append, List.getElem?_cons_zero, List.getElem?_cons_succ, List.set_cons_zero, List.set_cons_succ, dSub_int, dFdiv_int, dMod_int, dLt_int, dLe_int, dGt_int, dGe_int, dAddI_int, dSubI_int, dIsN_non, isN, dAdd_int, ll0, ll1, ll2, ll3, ll4, ll5, ll6, ll7, ll8, ll9, ll10, ll11, ll12, ll13, ll14, ll15, ll16, ll17, ll18, ll19, ll20, ll21, ll22, ll23, ll24, ll25, ll26, ll27, ll28, ll29, ll30, ll31, ll32, ll33, ll34, ll35, ll36, ll37, ll38, ll39, ll40, Nat.reduceSub, Nat.reduceAdd, Nat.reduceEqDiff, if_true, if_false, ifp_t, ifp_f, reduceIte, Bool.true_eq_false, Bool.false_eq_true, Option.map_some, Option.map_none, Option.bind_some, Option.bind_none, tSq, sSet2, seqOf_fl, seqOf_tup, seqOf_ti, L2__law_read, rd', eq, i0, i1, i2, aR, aN, ek, md, q2, bi, mm, Int.add_zero]
        have hE : ∀ (A B C D' E : Option D), C2__law_read rec [some (.str (L l)), x1, x2, A, B, C, D', some (.bl false), E] S = .ok false S := fun A B C D' E => by
          simp only [eVar, eC, eOp, eT, eAnd, eOr, eNot, eIf, eAndV, eOrV, eNotV, eCall, aNil, aCons, aStar, sOf, eTup, eFl, eLoc, eSl, oNone, oSome, iOf, eNeg, eChain, eMt, bOf, eDict0, eRev, eListRg, iZipD, sRaise1, sRaise0, eCallV, List.lookup, R.bind_ok, R.bind_er, R.bind_stuck, R.toS_ok, R.toS_er, R.toS_stuck, SR.next_nx, SR.next_rt, SR.next_er, SR.next_bk, SR.next_ct, SR.next_stuck, sNil, sSeq, sBrk, sCnt, sExp, sRet, sRetN, sIf, sSet, sAsg, sAug, sPar2, sPar3, tN, DL.tTup, DL.tNil, DL.tCons, DL.tSub, iSeq, srcOf_tup, srcOf_fl, srcOf_kl, srcOf_ti, iRange1, iRange2, sFor, startD, List.map_cons, List.map_nil, List.length_cons, List.length_nil, List.replicate, List.cons_append, List.nil_append, List.getElem?_cons_zero, List.getElem?_cons_succ, List.set_cons_zero, List.set_cons_succ, dSub_int, dFdiv_int, dMod_int, dLt_int, dLe_int, dGt_int, dGe_int, dAddI_int, dSubI_int, dIsN_non, isN, dAdd_int, ll0, ll1, ll2, ll3, ll4, ll5, ll6, ll7, ll8, ll9, ll10, ll11, ll12, ll13, ll14, ll15, ll16, ll17, ll18, ll19, ll20, ll21, ll22, ll23, ll24, ll25, ll26, ll27, ll28, ll29, ll30, ll31, ll32, ll33, ll34, ll35, ll36, ll37, ll38, ll39, ll40, Nat.reduceSub, Nat.reduceAdd, Nat.reduceEqDiff, if_true, if_false, ifp_t, ifp_f, reduceIte, Bool.true_eq_false, Bool.false_eq_true, Option.map_some, Option.map_none, Option.bind_some, Option.bind_none, tSq, sSet2, seqOf_fl, seqOf_tup, seqOf_ti, C2__law_read]
        have hn1 : ∃ m, n = m + 1 := by
          have : 0 < n := by omega
          exact ⟨n - 1, by omega⟩
        obtain ⟨m, rfl⟩ := hn1
        rw [whileD_next (hC x8) hB, whileD_end (hE _ _ _ _ _)]
        rw [prt, hp]
        simp only
        rw [if_neg h2]
        by_cases h1 : r2.take 1 = [41]
        · have hlen : 1 ≤ r2.length := by
            have := congrArg List.length h1
            rw [List.length_take] at this
            simp at this
            omega
          refine .inr ⟨row, nm, k + 1, j2, _, _, ?_, by omega, hnm, by omega, by rw [← er]; exact h1, rfl⟩
          rw [if_pos h1, show (k : Int) + 1 = ((k + 1 : Nat) : Int) by omega]
          congr 3
          conv => lhs; rw [er]
          rw [List.drop_drop]
        · refine .inl ⟨by rw [if_neg h1], .inr ⟨_, _, _, j2, _, _, by rw [← er]; exact h1, rfl⟩⟩
theorem drop_while {l : List Nat} {j : Nat} : (l.drop j).dropWhile DL.lt = l.drop (j + ((l.drop j).takeWhile DL.lt).length) := by
  have key : ∀ r : List Nat, r.dropWhile DL.lt = r.drop (r.takeWhile DL.lt).length := by
    intro r
    induction r with
    | nil => rfl
    | cons c r ih =>
      rw [List.dropWhile_cons, List.takeWhile_cons]
      split
      · rw [ih]; rfl
      · rfl
  rw [key, List.drop_drop]
theorem lread_ok {l : List Nat} (hl : l.length < 4000) : ∀ (n f j : Nat), j ≤ l.length → (l.drop j).count 40 < n → 2 * (l.drop j).length + 1 ≤ f → ∀ S, F__law_read n [.str (L l), .int (j : Int)] S = .ok (encR l.length (rdP f (l.drop j))) S
  | 0, f, j, _, h, _, S => by omega
  | n + 1, 0, j, _, _, h, S => by omega
  | n + 1, f + 1, j, hj, hc, hf, S => by
    have hst : startD 9 [D.str (L l), .int (j : Int)] = [some (.str (L l)), some (.int (j : Int)), none, none, none, none, none, none, none] := rfl
    have hsc := scan_ok (l := l) (by omega) (F__law_read n) (some (.int (j : Int))) none none none none none none S 4000 j hj (by rw [List.length_drop]; omega)
    have dw := drop_while (l := l) (j := j)
    have sp := span_len (l.drop j)
    have hx : (l.drop j).take ((l.drop j).takeWhile DL.lt).length = (l.drop j).takeWhile DL.lt := by
      have := List.take_left' (l₁ := (l.drop j).takeWhile DL.lt) (l₂ := (l.drop j).dropWhile DL.lt) rfl
      rw [List.takeWhile_append_dropWhile] at this
      exact this
    have md := mid_L l (by omega) j ((l.drop j).takeWhile DL.lt).length
    rw [hx] at md
    rw [dw] at sp
    have sub : (((j + ((l.drop j).takeWhile DL.lt).length : Nat) : Int)) - (j : Int) = ((((l.drop j).takeWhile DL.lt).length : Nat) : Int) := by omega
    refine fnC_rt rfl ?_ rfl
    rw [hst]
    unfold B__law_read
    by_cases hn : 1 ≤ ((l.drop j).takeWhile DL.lt).length ∧ ((l.drop j).takeWhile DL.lt).length ≤ 8
    · have z1 : decide ((1 : Int) ≤ ((((l.drop j).takeWhile DL.lt).length : Nat) : Int)) = true := decide_eq_true (by omega)
      have z2 : decide (((((l.drop j).takeWhile DL.lt).length : Nat) : Int) ≤ 8) = true := decide_eq_true (by omega)
      rw [List.length_drop, List.length_drop] at sp
      have hel : j + ((l.drop j).takeWhile DL.lt).length ≤ l.length := by omega
      have m1 := mid_L l (by omega) (j + ((l.drop j).takeWhile DL.lt).length) 1
      have hcd := cnt_drop l (show j ≤ j + ((l.drop j).takeWhile DL.lt).length by omega)
      have hxn : ((l.drop j).takeWhile DL.lt).length ≥ 1 := hn.1
      generalize hX : (l.drop j).takeWhile DL.lt = X at *
      generalize hE : j + X.length = e at *
      have ee : (e : Int) + 1 = ((e + 1 : Nat) : Int) := by omega
      have q1 : ∀ S, dEq true (.str (L ((l.drop e).take 1))) (.str "(") S = .ok (.bl (!decide ((l.drop e).take 1 = [40]))) S := fun S => by
        have := eq_L true ((l.drop e).take 1) [40] S
        simp only [if_true] at this
        exact this
      by_cases h4 : (l.drop e).take 1 = [40]
      · rw [decide_eq_true h4] at q1
        have he : e < l.length := by
          have := congrArg List.length h4
          rw [List.length_take, List.length_drop] at this
          simp at this
          omega
        have ed : l.drop e = 40 :: l.drop (e + 1) := by
          have e2 := List.drop_eq_getElem_cons he
          rw [e2] at h4
          have h6 : [l[e]] = [40] := h4
          rw [e2, (List.cons.inj h6).1]
        have hcn : (l.drop (e + 1)).count 40 < n := by
          have : (l.drop e).count 40 = (l.drop (e + 1)).count 40 + 1 := by rw [ed, List.count_cons_self]
          omega
        have hl1 : (l.drop (e + 1)).length = l.length - e - 1 := by rw [List.length_drop]; omega
        have pk := parts_ok hl (rec := F__law_read n) (some (.int (j : Int))) (some (.int (e : Int))) S n (fun f j hj hc hf => lread_ok hl n f j hj hc hf S) f 4000 (e + 1) 0 [] [] none he hcn (by rw [hl1]; rw [List.length_drop] at hf; omega) (by rw [hl1]; omega) (by rw [hl1, List.length_nil]; omega) (Nat.le_refl _)
        have er : rdP (f + 1) (l.drop j) = (prt f (l.drop (e + 1)) 0).map (fun q => (q.1, q.2.1 ++ [X], q.2.2)) := by
          rw [rdP, hX, if_pos hn, dw, ed]
          simp only [if_true]
        rw [er]
        have ez : ((0 : Nat) : Int) = 0 := rfl
        rw [ez] at pk
        have t0 : ti [] = .tup [] := rfl
        have n0 : nmT [] = .tup [] := rfl
        rw [t0, n0] at pk
        rcases pk with ⟨p1, p2 | ⟨R1, N1, k1, j1, y7, y8, p2, p3⟩⟩ | ⟨row, nm, k1, j1, y7, y8, p1, p2, p3, p4, p5, p6⟩
        · rw [p1]
          show _ = SR.rt (.fl []) S
          generalize F__law_read n = FR at *
          simp only [eVar, eC, eOp, eT, eAnd, eOr, eNot, eIf, eAndV, eOrV, eNotV, eCall, aNil, aCons, aStar, sOf, eTup, eFl, eLoc, eSl, oNone, oSome, iOf, eNeg, eChain, eMt, bOf, eDict0, eRev, eListRg, iZipD, sRaise1, sRaise0, eCallV, List.lookup, R.bind_ok, R.bind_er, R.bind_stuck, R.toS_ok, R.toS_er, R.toS_stuck, SR.next_nx, SR.next_rt, SR.next_er, SR.next_bk, SR.next_ct, SR.next_stuck, sNil, sSeq, sBrk, sCnt, sExp, sRet, sRetN, sIf, sSet, sAsg, sAug, sPar2, sPar3, tN, DL.tTup, DL.tNil, DL.tCons, DL.tSub, iSeq, srcOf_tup, srcOf_fl, srcOf_kl, srcOf_ti, iRange1, iRange2, sFor, startD, List.map_cons, List.map_nil, List.length_cons, List.length_nil, List.replicate, List.cons_append, List.nil_append, List.getElem?_cons_zero, List.getElem?_cons_succ, List.set_cons_zero, List.set_cons_succ, dSub_int, dFdiv_int, dMod_int, dLt_int, dLe_int, dGt_int, dGe_int, dAddI_int, dSubI_int, dIsN_non, isN, dAdd_int, ll0, ll1, ll2, ll3, ll4, ll5, ll6, ll7, ll8, ll9, ll10, ll11, ll12, ll13, ll14, ll15, ll16, ll17, ll18, ll19, ll20, ll21, ll22, ll23, ll24, ll25, ll26, ll27, ll28, ll29, ll30, ll31, ll32, ll33, ll34, ll35, ll36, ll37, ll38, ll39, ll40, Nat.reduceSub, Nat.reduceAdd, Nat.reduceEqDiff, if_true, if_false, ifp_t, ifp_f, reduceIte, Bool.true_eq_false, Bool.false_eq_true, Option.map_some, Option.map_none, Option.bind_some, Option.bind_none, tSq, sSet2, seqOf_fl, seqOf_tup, seqOf_ti, hsc, sub, z1, z2, ee, m1, q1, Bool.not_true, p2]
        · rw [p1]
          show _ = SR.rt (.fl []) S
          have m3 := mid_L l (by omega) j1 1
          have e3 : (j1 : Int) + 1 = ((j1 + 1 : Nat) : Int) := by omega
          have q3 : ∀ S, dEq true (.str (L ((l.drop j1).take 1))) (.str ")") S = .ok (.bl true) S := fun S => by
            have := eq_L true ((l.drop j1).take 1) [41] S
            rw [decide_eq_false p2] at this
            exact this
          generalize F__law_read n = FR at *
          simp only [eVar, eC, eOp, eT, eAnd, eOr, eNot, eIf, eAndV, eOrV, eNotV, eCall, aNil, aCons, aStar, sOf, eTup, eFl, eLoc, eSl, oNone, oSome, iOf, eNeg, eChain, eMt, bOf, eDict0, eRev, eListRg, iZipD, sRaise1, sRaise0, eCallV, List.lookup, R.bind_ok, R.bind_er, R.bind_stuck, R.toS_ok, R.toS_er, R.toS_stuck, SR.next_nx, SR.next_rt, SR.next_er, SR.next_bk, SR.next_ct, SR.next_stuck, sNil, sSeq, sBrk, sCnt, sExp, sRet, sRetN, sIf, sSet, sAsg, sAug, sPar2, sPar3, tN, DL.tTup, DL.tNil, DL.tCons, DL.tSub, iSeq, srcOf_tup, srcOf_fl, srcOf_kl, srcOf_ti, iRange1, iRange2, sFor, startD, List.map_cons, List.map_nil, List.length_cons, List.length_nil, List.replicate, List.cons_append, List.nil_append, List.getElem?_cons_zero, List.getElem?_cons_succ, List.set_cons_zero, List.set_cons_succ, dSub_int, dFdiv_int, dMod_int, dLt_int, dLe_int, dGt_int, dGe_int, dAddI_int, dSubI_int, dIsN_non, isN, dAdd_int, ll0, ll1, ll2, ll3, ll4, ll5, ll6, ll7, ll8, ll9, ll10, ll11, ll12, ll13, ll14, ll15, ll16, ll17, ll18, ll19, ll20, ll21, ll22, ll23, ll24, ll25, ll26, ll27, ll28, ll29, ll30, ll31, ll32, ll33, ll34, ll35, ll36, ll37, ll38, ll39, ll40, Nat.reduceSub, Nat.reduceAdd, Nat.reduceEqDiff, if_true, if_false, ifp_t, ifp_f, reduceIte, Bool.true_eq_false, Bool.false_eq_true, Option.map_some, Option.map_none, Option.bind_some, Option.bind_none, tSq, sSet2, seqOf_fl, seqOf_tup, seqOf_ti, hsc, sub, z1, z2, ee, m1, q1, Bool.not_true, p3, e3, m3, q3]
        · rw [p1]
          show _ = SR.rt (encR l.length (some (row ++ [(k1 : Int)], nm ++ [X], l.drop (j1 + 1)))) S
          have m3 := mid_L l (by omega) j1 1
          have e3 : (j1 : Int) + 1 = ((j1 + 1 : Nat) : Int) := by omega
          have q3 : ∀ S, dEq true (.str (L ((l.drop j1).take 1))) (.str ")") S = .ok (.bl false) S := fun S => by
            have := eq_L true ((l.drop j1).take 1) [41] S
            rw [decide_eq_true p5] at this
            exact this
          have aR : ∀ S, dAdd (ti ([] ++ row)) (.tup [.int (k1 : Int)]) S = .ok (ti (row ++ [(k1 : Int)])) S := fun S => ti_add row [(k1 : Int)] (by simp only [List.length_nil, List.length_singleton] at p4 ⊢; omega) S
          have aN : ∀ S, dAdd (nmT ([] ++ nm)) (.tup [.str (L X)]) S = .ok (nmT (nm ++ [X])) S := fun S => nmT_add nm [X] (by simp only [List.length_nil, List.length_singleton] at p4 ⊢; omega) S
          have er : encR l.length (some (row ++ [(k1 : Int)], nm ++ [X], l.drop (j1 + 1))) = .fl [ti (row ++ [(k1 : Int)]), nmT (nm ++ [X]), .int ((j1 + 1 : Nat) : Int)] := by
            show D.fl [ti (row ++ [(k1 : Int)]), nmT (nm ++ [X]), .int ((l.length - (l.drop (j1 + 1)).length : Nat) : Int)] = _
            rw [List.length_drop, show l.length - (l.length - (j1 + 1)) = j1 + 1 by omega]
          rw [er]
          generalize F__law_read n = FR at *
          generalize ti (row ++ [(k1 : Int)]) = RB at *
          generalize nmT (nm ++ [X]) = NB at *
          generalize ti ([] ++ row) = RA at *
          generalize nmT ([] ++ nm) = NA at *
          simp only [eVar, eC, eOp, eT, eAnd, eOr, eNot, eIf, eAndV, eOrV, eNotV, eCall, aNil, aCons, aStar, sOf, eTup, eFl, eLoc, eSl, oNone, oSome, iOf, eNeg, eChain, eMt, bOf, eDict0, eRev, eListRg, iZipD, sRaise1, sRaise0, eCallV, List.lookup, R.bind_ok, R.bind_er, R.bind_stuck, R.toS_ok, R.toS_er, R.toS_stuck, SR.next_nx, SR.next_rt, SR.next_er, SR.next_bk, SR.next_ct, SR.next_stuck, sNil, sSeq, sBrk, sCnt, sExp, sRet, sRetN, sIf, sSet, sAsg, sAug, sPar2, sPar3, tN, DL.tTup, DL.tNil, DL.tCons, DL.tSub, iSeq, srcOf_tup, srcOf_fl, srcOf_kl, srcOf_ti, iRange1, iRange2, sFor, startD, List.map_cons, List.map_nil, List.length_cons, List.length_nil, List.replicate, List.cons_append, List.nil_append, List.getElem?_cons_zero, List.getElem?_cons_succ, List.set_cons_zero, List.set_cons_succ, dSub_int, dFdiv_int, dMod_int, dLt_int, dLe_int, dGt_int, dGe_int, dAddI_int, dSubI_int, dIsN_non, isN, dAdd_int, ll0, ll1, ll2, ll3, ll4, ll5, ll6, ll7, ll8, ll9, ll10, ll11, ll12, ll13, ll14, ll15, ll16, ll17, ll18, ll19, ll20, ll21, ll22, ll23, ll24, ll25, ll26, ll27, ll28, ll29, ll30, ll31, ll32, ll33, ll34, ll35, ll36, ll37, ll38, ll39, ll40, Nat.reduceSub, Nat.reduceAdd, Nat.reduceEqDiff, if_true, if_false, ifp_t, ifp_f, reduceIte, Bool.true_eq_false, Bool.false_eq_true, Option.map_some, Option.map_none, Option.bind_some, Option.bind_none, tSq, sSet2, seqOf_fl, seqOf_tup, seqOf_ti, hsc, sub, z1, z2, ee, m1, q1, Bool.not_true, p6, e3, m3, q3, md, aR, aN]
      · rw [decide_eq_false h4] at q1
        have er : rdP (f + 1) (l.drop j) = some ([0], [X], l.drop e) := by
          rw [rdP, hX, if_pos hn, dw]
          cases hd : l.drop e with
          | nil => rfl
          | cons c r2 =>
            rw [hd] at h4
            simp only
            rw [if_neg]
            rintro rfl
            exact h4 rfl
        rw [er]
        have e2 : encR l.length (some ([0], [X], l.drop e)) = .fl [.tup [.int 0], .tup [.str (L X)], .int (e : Int)] := by
          show D.fl [ti [0], nmT [X], .int ((l.length - (l.drop e).length : Nat) : Int)] = _
          rw [List.length_drop, show l.length - (l.length - e) = e by omega]
          rfl
        rw [e2]
        generalize F__law_read n = FR at *
        simp only [eVar, eC, eOp, eT, eAnd, eOr, eNot, eIf, eAndV, eOrV, eNotV, eCall, aNil, aCons, aStar, sOf, eTup, eFl, eLoc, eSl, oNone, oSome, iOf, eNeg, eChain, eMt, bOf, eDict0, eRev, eListRg, iZipD, sRaise1, sRaise0, eCallV, List.lookup, R.bind_ok, R.bind_er, R.bind_stuck, R.toS_ok, R.toS_er, R.toS_stuck, SR.next_nx, SR.next_rt, SR.next_er, SR.next_bk, SR.next_ct, SR.next_stuck, sNil, sSeq, sBrk, sCnt, sExp, sRet, sRetN, sIf, sSet, sAsg, sAug, sPar2, sPar3, tN, DL.tTup, DL.tNil, DL.tCons, DL.tSub, iSeq, srcOf_tup, srcOf_fl, srcOf_kl, srcOf_ti, iRange1, iRange2, sFor, startD, List.map_cons, List.map_nil, List.length_cons, List.length_nil, List.replicate, List.cons_append, List.nil_append, List.getElem?_cons_zero, List.getElem?_cons_succ, List.set_cons_zero, List.set_cons_succ, dSub_int, dFdiv_int, dMod_int, dLt_int, dLe_int, dGt_int, dGe_int, dAddI_int, dSubI_int, dIsN_non, isN, dAdd_int, ll0, ll1, ll2, ll3, ll4, ll5, ll6, ll7, ll8, ll9, ll10, ll11, ll12, ll13, ll14, ll15, ll16, ll17, ll18, ll19, ll20, ll21, ll22, ll23, ll24, ll25, ll26, ll27, ll28, ll29, ll30, ll31, ll32, ll33, ll34, ll35, ll36, ll37, ll38, ll39, ll40, Nat.reduceSub, Nat.reduceAdd, Nat.reduceEqDiff, if_true, if_false, ifp_t, ifp_f, reduceIte, Bool.true_eq_false, Bool.false_eq_true, Option.map_some, Option.map_none, Option.bind_some, Option.bind_none, tSq, sSet2, seqOf_fl, seqOf_tup, seqOf_ti, hsc, sub, z1, z2, ee, m1, q1, Bool.not_false, Bool.not_true, md]
    · have er : rdP (f + 1) (l.drop j) = none := by rw [rdP, if_neg hn]
      rw [er]
      show _ = SR.rt (.fl []) S
      generalize F__law_read n = FR at *
      by_cases h1 : 1 ≤ ((l.drop j).takeWhile DL.lt).length
      · have z1 : decide ((1 : Int) ≤ ((((l.drop j).takeWhile DL.lt).length : Nat) : Int)) = true := decide_eq_true (by omega)
        have z2 : decide (((((l.drop j).takeWhile DL.lt).length : Nat) : Int) ≤ 8) = false := decide_eq_false (by omega)
        simp only [eVar, eC, eOp, eT, eAnd, eOr, eNot, eIf, eAndV, eOrV, eNotV, eCall, aNil, aCons, aStar, sOf, eTup, eFl, eLoc, eSl, oNone, oSome, iOf, eNeg, eChain, eMt, bOf, eDict0, eRev, eListRg, iZipD, sRaise1, sRaise0, eCallV, List.lookup, R.bind_ok, R.bind_er, R.bind_stuck, R.toS_ok, R.toS_er, R.toS_stuck, SR.next_nx, SR.next_rt, SR.next_er, SR.next_bk, SR.next_ct, SR.next_stuck, sNil, sSeq, sBrk, sCnt, sExp, sRet, sRetN, sIf, sSet, sAsg, sAug, sPar2, sPar3, tN, DL.tTup, DL.tNil, DL.tCons, DL.tSub, iSeq, srcOf_tup, srcOf_fl, srcOf_kl, srcOf_ti, iRange1, iRange2, sFor, startD, List.map_cons, List.map_nil, List.length_cons, List.length_nil, List.replicate, List.cons_append, List.nil_append, List.getElem?_cons_zero, List.getElem?_cons_succ, List.set_cons_zero, List.set_cons_succ, dSub_int, dFdiv_int, dMod_int, dLt_int, dLe_int, dGt_int, dGe_int, dAddI_int, dSubI_int, dIsN_non, isN, dAdd_int, ll0, ll1, ll2, ll3, ll4, ll5, ll6, ll7, ll8, ll9, ll10, ll11, ll12, ll13, ll14, ll15, ll16, ll17, ll18, ll19, ll20, ll21, ll22, ll23, ll24, ll25, ll26, ll27, ll28, ll29, ll30, ll31, ll32, ll33, ll34, ll35, ll36, ll37, ll38, ll39, ll40, Nat.reduceSub, Nat.reduceAdd, Nat.reduceEqDiff, if_true, if_false, ifp_t, ifp_f, reduceIte, Bool.true_eq_false, Bool.false_eq_true, Option.map_some, Option.map_none, Option.bind_some, Option.bind_none, tSq, sSet2, seqOf_fl, seqOf_tup, seqOf_ti, hsc, sub, z1, z2, Bool.not_false]
      · have z1 : decide ((1 : Int) ≤ ((((l.drop j).takeWhile DL.lt).length : Nat) : Int)) = false := decide_eq_false (by omega)
        simp only [eVar, eC, eOp, eT, eAnd, eOr, eNot, eIf, eAndV, eOrV, eNotV, eCall, aNil, aCons, aStar, sOf, eTup, eFl, eLoc, eSl, oNone, oSome, iOf, eNeg, eChain, eMt, bOf, eDict0, eRev, eListRg, iZipD, sRaise1, sRaise0, eCallV, List.lookup, R.bind_ok, R.bind_er, R.bind_stuck, R.toS_ok, R.toS_er, R.toS_stuck, SR.next_nx, SR.next_rt, SR.next_er, SR.next_bk, SR.next_ct, SR.next_stuck, sNil, sSeq, sBrk, sCnt, sExp, sRet, sRetN, sIf, sSet, sAsg, sAug, sPar2, sPar3, tN, DL.tTup, DL.tNil, DL.tCons, DL.tSub, iSeq, srcOf_tup, srcOf_fl, srcOf_kl, srcOf_ti, iRange1, iRange2, sFor, startD, List.map_cons, List.map_nil, List.length_cons, List.length_nil, List.replicate, List.cons_append, List.nil_append, List.getElem?_cons_zero, List.getElem?_cons_succ, List.set_cons_zero, List.set_cons_succ, dSub_int, dFdiv_int, dMod_int, dLt_int, dLe_int, dGt_int, dGe_int, dAddI_int, dSubI_int, dIsN_non, isN, dAdd_int, ll0, ll1, ll2, ll3, ll4, ll5, ll6, ll7, ll8, ll9, ll10, ll11, ll12, ll13, ll14, ll15, ll16, ll17, ll18, ll19, ll20, ll21, ll22, ll23, ll24, ll25, ll26, ll27, ll28, ll29, ll30, ll31, ll32, ll33, ll34, ll35, ll36, ll37, ll38, ll39, ll40, Nat.reduceSub, Nat.reduceAdd, Nat.reduceEqDiff, if_true, if_false, ifp_t, ifp_f, reduceIte, Bool.true_eq_false, Bool.false_eq_true, Option.map_some, Option.map_none, Option.bind_some, Option.bind_none, tSq, sSet2, seqOf_fl, seqOf_tup, seqOf_ti, hsc, sub, z1, Bool.not_false]
def ansL (l : List Nat) : D := match due l with
  | some (row, nm) => .tup [ti row, nmT nm]
  | none => .fl [.int 0]
theorem parsed_text {l : List Nat} (hl : l.length < 4000) (hc : l.count 40 < 130) (S : Sto) : F__law_parsed [.str (L l)] S = .ok (ansL l) S := by
  have hst : startD 2 [D.str (L l)] = [some (.str (L l)), none] := rfl
  have it : ∀ S, bIsi [.str (L l), .ty "str"] S = .ok (.bl true) S := fun S => isi_strA (v := .str (L l)) rfl S
  have rd := lread_ok hl 130 (2 * l.length + 1) 0 (Nat.zero_le _) (by rw [List.drop_zero]; exact hc) (by rw [List.drop_zero]; exact Nat.le_refl _)
  rw [List.drop_zero] at rd
  have rd' : ∀ S, F__law_read 130 [.str (L l), .int 0] S = .ok (encR l.length (rdP (2 * l.length + 1) l)) S := rd
  have ln := len_L l (by omega)
  refine fnC_rt rfl ?_ rfl
  rw [hst]
  unfold B__law_parsed
  cases e : rdP (2 * l.length + 1) l with
  | none =>
    rw [e] at rd'
    have rd2 : ∀ S, F__law_read 130 [.str (L l), .int 0] S = .ok (.fl []) S := rd'
    have eq : ∀ S, dEqY false (.fl []) (.fl []) S = .ok (.bl true) S := fun S => rfl
    have an : ansL l = .fl [.int 0] := by
      unfold ansL due
      rw [e]
    rw [an]
    generalize F__law_read 130 = FR at *
    simp only [eVar, eC, eOp, eT, eAnd, eOr, eNot, eIf, eAndV, eOrV, eNotV, eCall, aNil, aCons, aStar, sOf, eTup, eFl, eLoc, eSl, oNone, oSome, iOf, eNeg, eChain, eMt, bOf, eDict0, eRev, eListRg, iZipD, sRaise1, sRaise0, eCallV, List.lookup, R.bind_ok, R.bind_er, R.bind_stuck, R.toS_ok, R.toS_er, R.toS_stuck, SR.next_nx, SR.next_rt, SR.next_er, SR.next_bk, SR.next_ct, SR.next_stuck, sNil, sSeq, sBrk, sCnt, sExp, sRet, sRetN, sIf, sSet, sAsg, sAug, sPar2, sPar3, tN, DL.tTup, DL.tNil, DL.tCons, DL.tSub, iSeq, srcOf_tup, srcOf_fl, srcOf_kl, srcOf_ti, iRange1, iRange2, sFor, startD, List.map_cons, List.map_nil, List.length_cons, List.length_nil, List.replicate, List.cons_append, List.nil_append, List.getElem?_cons_zero, List.getElem?_cons_succ, List.set_cons_zero, List.set_cons_succ, dSub_int, dFdiv_int, dMod_int, dLt_int, dLe_int, dGt_int, dGe_int, dAddI_int, dSubI_int, dIsN_non, isN, dAdd_int, ll0, ll1, ll2, ll3, ll4, ll5, ll6, ll7, ll8, ll9, ll10, ll11, ll12, ll13, ll14, ll15, ll16, ll17, ll18, ll19, ll20, ll21, ll22, ll23, ll24, ll25, ll26, ll27, ll28, ll29, ll30, ll31, ll32, ll33, ll34, ll35, ll36, ll37, ll38, ll39, ll40, Nat.reduceSub, Nat.reduceAdd, Nat.reduceEqDiff, if_true, if_false, ifp_t, ifp_f, reduceIte, Bool.true_eq_false, Bool.false_eq_true, Option.map_some, Option.map_none, Option.bind_some, Option.bind_none, tSq, sSet2, seqOf_fl, seqOf_tup, seqOf_ti, it, Bool.not_true, rd2, eq]
  | some q =>
    obtain ⟨row, nm, r⟩ := q
    rw [e] at rd'
    have gq := rdP_good _ _ e
    have g5 : row.length + r.length ≤ l.length := gq.len
    have rd2 : ∀ S, F__law_read 130 [.str (L l), .int 0] S = .ok (.fl [ti row, nmT nm, .int ((l.length - r.length : Nat) : Int)]) S := rd'
    have eq : ∀ (A B C : D) S, dEqY false (.fl [A, B, C]) (.fl []) S = .ok (.bl false) S := fun A B C S => rfl
    have i0 : ∀ (A B C : D) S, dIx (.fl [A, B, C]) (.int 0) S = .ok A S := fun A B C S => rfl
    have i1 : ∀ (A B C : D) S, dIx (.fl [A, B, C]) (.int 1) S = .ok B S := fun A B C S => rfl
    have i2 : ∀ (A B C : D) S, dIx (.fl [A, B, C]) (.int 2) S = .ok C S := fun A B C S => rfl
    have q1 : ∀ S, dEq true (.int ((l.length - r.length : Nat) : Int)) (.int (l.length : Int)) S = .ok (.bl (!decide (r = []))) S := fun S => by
      rw [dEq_int]
      have : (((l.length - r.length : Nat) : Int) == (l.length : Int)) = decide (r = []) := by
        rw [Bool.eq_iff_iff, beq_iff_eq, decide_eq_true_iff]
        constructor
        · intro h; exact List.length_eq_zero_iff.mp (by omega)
        · rintro rfl; simp
      rw [this]; rfl
    have l0 := ti_len row
    have mx : ∀ S, bMaxT [ti row] S = .ok (.int (maxL row)) S := fun S => by
      show (match intsOf (row.map D.int) with
        | some is => if is = [] then R.stuck else R.ok (D.int (maxL is)) S
        | none => .stuck) = _
      rw [intsOf_map]
      simp only
      rw [if_neg gq.ne]
    by_cases hr : r = []
    · rw [decide_eq_true hr] at q1
      by_cases h1 : row.length ≤ 24
      · have z1 : decide ((row.length : Int) > 24) = false := decide_eq_false (by omega)
        by_cases h2 : maxL row ≤ 5
        · have z2 : decide (maxL row > 5) = false := decide_eq_false (by omega)
          have an : ansL l = .tup [ti row, nmT nm] := by
            unfold ansL due
            rw [e]
            simp only
            rw [if_pos ⟨hr, h1, h2⟩]
          rw [an]
          generalize F__law_read 130 = FR at *
          generalize ti row = RD at *
          generalize nmT nm = ND at *
          simp only [eVar, eC, eOp, eT, eAnd, eOr, eNot, eIf, eAndV, eOrV, eNotV, eCall, aNil, aCons, aStar, sOf, eTup, eFl, eLoc, eSl, oNone, oSome, iOf, eNeg, eChain, eMt, bOf, eDict0, eRev, eListRg, iZipD, sRaise1, sRaise0, eCallV, List.lookup, R.bind_ok, R.bind_er, R.bind_stuck, R.toS_ok, R.toS_er, R.toS_stuck, SR.next_nx, SR.next_rt, SR.next_er, SR.next_bk, SR.next_ct, SR.next_stuck, sNil, sSeq, sBrk, sCnt, sExp, sRet, sRetN, sIf, sSet, sAsg, sAug, sPar2, sPar3, tN, DL.tTup, DL.tNil, DL.tCons, DL.tSub, iSeq, srcOf_tup, srcOf_fl, srcOf_kl, srcOf_ti, iRange1, iRange2, sFor, startD, List.map_cons, List.map_nil, List.length_cons, List.length_nil, List.replicate, List.cons_append, List.nil_append, List.getElem?_cons_zero, List.getElem?_cons_succ, List.set_cons_zero, List.set_cons_succ, dSub_int, dFdiv_int, dMod_int, dLt_int, dLe_int, dGt_int, dGe_int, dAddI_int, dSubI_int, dIsN_non, isN, dAdd_int, ll0, ll1, ll2, ll3, ll4, ll5, ll6, ll7, ll8, ll9, ll10, ll11, ll12, ll13, ll14, ll15, ll16, ll17, ll18, ll19, ll20, ll21, ll22, ll23, ll24, ll25, ll26, ll27, ll28, ll29, ll30, ll31, ll32, ll33, ll34, ll35, ll36, ll37, ll38, ll39, ll40, Nat.reduceSub, Nat.reduceAdd, Nat.reduceEqDiff, if_true, if_false, ifp_t, ifp_f, reduceIte, Bool.true_eq_false, Bool.false_eq_true, Option.map_some, Option.map_none, Option.bind_some, Option.bind_none, tSq, sSet2, seqOf_fl, seqOf_tup, seqOf_ti, it, Bool.not_true, rd2, eq, i0, i1, i2, ln, q1, l0, z1, mx, z2]
        · have z2 : decide (maxL row > 5) = true := decide_eq_true (by omega)
          have an : ansL l = .fl [.int 0] := by
            unfold ansL due
            rw [e]
            simp only
            rw [if_neg (fun z => h2 z.2.2)]
          rw [an]
          generalize F__law_read 130 = FR at *
          generalize ti row = RD at *
          generalize nmT nm = ND at *
          simp only [eVar, eC, eOp, eT, eAnd, eOr, eNot, eIf, eAndV, eOrV, eNotV, eCall, aNil, aCons, aStar, sOf, eTup, eFl, eLoc, eSl, oNone, oSome, iOf, eNeg, eChain, eMt, bOf, eDict0, eRev, eListRg, iZipD, sRaise1, sRaise0, eCallV, List.lookup, R.bind_ok, R.bind_er, R.bind_stuck, R.toS_ok, R.toS_er, R.toS_stuck, SR.next_nx, SR.next_rt, SR.next_er, SR.next_bk, SR.next_ct, SR.next_stuck, sNil, sSeq, sBrk, sCnt, sExp, sRet, sRetN, sIf, sSet, sAsg, sAug, sPar2, sPar3, tN, DL.tTup, DL.tNil, DL.tCons, DL.tSub, iSeq, srcOf_tup, srcOf_fl, srcOf_kl, srcOf_ti, iRange1, iRange2, sFor, startD, List.map_cons, List.map_nil, List.length_cons, List.length_nil, List.replicate, List.cons_append, List.nil_append, List.getElem?_cons_zero, List.getElem?_cons_succ, List.set_cons_zero, List.set_cons_succ, dSub_int, dFdiv_int, dMod_int, dLt_int, dLe_int, dGt_int, dGe_int, dAddI_int, dSubI_int, dIsN_non, isN, dAdd_int, ll0, ll1, ll2, ll3, ll4, ll5, ll6, ll7, ll8, ll9, ll10, ll11, ll12, ll13, ll14, ll15, ll16, ll17, ll18, ll19, ll20, ll21, ll22, ll23, ll24, ll25, ll26, ll27, ll28, ll29, ll30, ll31, ll32, ll33, ll34, ll35, ll36, ll37, ll38, ll39, ll40, Nat.reduceSub, Nat.reduceAdd, Nat.reduceEqDiff, if_true, if_false, ifp_t, ifp_f, reduceIte, Bool.true_eq_false, Bool.false_eq_true, Option.map_some, Option.map_none, Option.bind_some, Option.bind_none, tSq, sSet2, seqOf_fl, seqOf_tup, seqOf_ti, it, Bool.not_true, rd2, eq, i0, i1, i2, ln, q1, l0, z1, mx, z2]
      · have z1 : decide ((row.length : Int) > 24) = true := decide_eq_true (by omega)
        have an : ansL l = .fl [.int 0] := by
          unfold ansL due
          rw [e]
          simp only
          rw [if_neg (fun z => h1 z.2.1)]
        rw [an]
        generalize F__law_read 130 = FR at *
        generalize ti row = RD at *
        generalize nmT nm = ND at *
        simp only [eVar, eC, eOp, eT, eAnd, eOr, eNot, eIf, eAndV, eOrV, eNotV, eCall, aNil, aCons, aStar, sOf, eTup, eFl, eLoc, eSl, oNone, oSome, iOf, eNeg, eChain, eMt, bOf, eDict0, eRev, eListRg, iZipD, sRaise1, sRaise0, eCallV, List.lookup, R.bind_ok, R.bind_er, R.bind_stuck, R.toS_ok, R.toS_er, R.toS_stuck, SR.next_nx, SR.next_rt, SR.next_er, SR.next_bk, SR.next_ct, SR.next_stuck, sNil, sSeq, sBrk, sCnt, sExp, sRet, sRetN, sIf, sSet, sAsg, sAug, sPar2, sPar3, tN, DL.tTup, DL.tNil, DL.tCons, DL.tSub, iSeq, srcOf_tup, srcOf_fl, srcOf_kl, srcOf_ti, iRange1, iRange2, sFor, startD, List.map_cons, List.map_nil, List.length_cons, List.length_nil, List.replicate, List.cons_append, List.nil_append, List.getElem?_cons_zero, List.getElem?_cons_succ, List.set_cons_zero, List.set_cons_succ, dSub_int, dFdiv_int, dMod_int, dLt_int, dLe_int, dGt_int, dGe_int, dAddI_int, dSubI_int, dIsN_non, isN, dAdd_int, ll0, ll1, ll2, ll3, ll4, ll5, ll6, ll7, ll8, ll9, ll10, ll11, ll12, ll13, ll14, ll15, ll16, ll17, ll18, ll19, ll20, ll21, ll22, ll23, ll24, ll25, ll26, ll27, ll28, ll29, ll30, ll31, ll32, ll33, ll34, ll35, ll36, ll37, ll38, ll39, ll40, Nat.reduceSub, Nat.reduceAdd, Nat.reduceEqDiff, if_true, if_false, ifp_t, ifp_f, reduceIte, Bool.true_eq_false, Bool.false_eq_true, Option.map_some, Option.map_none, Option.bind_some, Option.bind_none, tSq, sSet2, seqOf_fl, seqOf_tup, seqOf_ti, it, Bool.not_true, rd2, eq, i0, i1, i2, ln, q1, l0, z1]
    · rw [decide_eq_false hr] at q1
      have an : ansL l = .fl [.int 0] := by
        unfold ansL due
        rw [e]
        simp only
        rw [if_neg (fun z => hr z.1)]
      rw [an]
      generalize F__law_read 130 = FR at *
      generalize ti row = RD at *
      generalize nmT nm = ND at *
      simp only [eVar, eC, eOp, eT, eAnd, eOr, eNot, eIf, eAndV, eOrV, eNotV, eCall, aNil, aCons, aStar, sOf, eTup, eFl, eLoc, eSl, oNone, oSome, iOf, eNeg, eChain, eMt, bOf, eDict0, eRev, eListRg, iZipD, sRaise1, sRaise0, eCallV, List.lookup, R.bind_ok, R.bind_er, R.bind_stuck, R.toS_ok, R.toS_er, R.toS_stuck, SR.next_nx, SR.next_rt, SR.next_er, SR.next_bk, SR.next_ct, SR.next_stuck, sNil, sSeq, sBrk, sCnt, sExp, sRet, sRetN, sIf, sSet, sAsg, sAug, sPar2, sPar3, tN, DL.tTup, DL.tNil, DL.tCons, DL.tSub, iSeq, srcOf_tup, srcOf_fl, srcOf_kl, srcOf_ti, iRange1, iRange2, sFor, startD, List.map_cons, List.map_nil, List.length_cons, List.length_nil, List.replicate, List.cons_append, List.nil_append, List.getElem?_cons_zero, List.getElem?_cons_succ, List.set_cons_zero, List.set_cons_succ, dSub_int, dFdiv_int, dMod_int, dLt_int, dLe_int, dGt_int, dGe_int, dAddI_int, dSubI_int, dIsN_non, isN, dAdd_int, ll0, ll1, ll2, ll3, ll4, ll5, ll6, ll7, ll8, ll9, ll10, ll11, ll12, ll13, ll14, ll15, ll16, ll17, ll18, ll19, ll20, ll21, ll22, ll23, ll24, ll25, ll26, ll27, ll28, ll29, ll30, ll31, ll32, ll33, ll34, ll35, ll36, ll37, ll38, ll39, ll40, Nat.reduceSub, Nat.reduceAdd, Nat.reduceEqDiff, if_true, if_false, ifp_t, ifp_f, reduceIte, Bool.true_eq_false, Bool.false_eq_true, Option.map_some, Option.map_none, Option.bind_some, Option.bind_none, tSq, sSet2, seqOf_fl, seqOf_tup, seqOf_ti, it, Bool.not_true, Bool.not_false, rd2, eq, i0, i1, i2, ln, q1]
theorem told_text {l : List Nat} (hl : l.length < 4000) (S : Sto) : F__law_parse_told [.str (L l)] S = .ok (ansL l) S := by
  have hst : startD 2 [D.str (L l)] = [some (.str (L l)), none] := rfl
  have pk := fun S => parse_ok S hl
  have rd := run_due l
  unfold ansL
  refine fnC_rt rfl ?_ rfl
  rw [hst]
  unfold B__law_parse_told
  cases e : due l with
  | none =>
    rw [e] at rd
    have rd : (RUN (rs0 l)).1 = false := rd
    have pk2 : ∀ S, F_parse_term [.str (L l)] S = .er ⟨.own "BadText", [("index", .int 0)]⟩ S := fun S => by
      rw [pk, rd]; rfl
    have x1 : isXs xtab (.own "BadText") [.own "RingError"] = some true := by decide +kernel
    have i1 := isC (n := "BadText") (m := "BadText") (b := true) [("index", .int 0)] (by decide +kernel)
    have a1 := at1 (n := "BadText") (f := "index") (d := .int 0) (by decide +kernel)
    simp only [eVar, eC, eOp, eT, eAnd, eOr, eNot, eIf, eAndV, eOrV, eNotV, eCall, aNil, aCons, aStar, sOf, eTup, eFl, eLoc, eSl, oNone, oSome, iOf, eNeg, eChain, eMt, bOf, eDict0, eRev, eListRg, iZipD, sRaise1, sRaise0, eCallV, List.lookup, R.bind_ok, R.bind_er, R.bind_stuck, R.toS_ok, R.toS_er, R.toS_stuck, SR.next_nx, SR.next_rt, SR.next_er, SR.next_bk, SR.next_ct, SR.next_stuck, sNil, sSeq, sBrk, sCnt, sExp, sRet, sRetN, sIf, sSet, sAsg, sAug, sPar2, sPar3, tN, DL.tTup, DL.tNil, DL.tCons, DL.tSub, iSeq, srcOf_tup, srcOf_fl, srcOf_kl, srcOf_ti, iRange1, iRange2, sFor, startD, List.map_cons, List.map_nil, List.length_cons, List.length_nil, List.replicate, List.cons_append, List.nil_append, List.getElem?_cons_zero, List.getElem?_cons_succ, List.set_cons_zero, List.set_cons_succ, dSub_int, dFdiv_int, dMod_int, dLt_int, dLe_int, dGt_int, dGe_int, dAddI_int, dSubI_int, dIsN_non, isN, dAdd_int, ll0, ll1, ll2, ll3, ll4, ll5, ll6, ll7, ll8, ll9, ll10, ll11, ll12, ll13, ll14, ll15, ll16, ll17, ll18, ll19, ll20, ll21, ll22, ll23, ll24, ll25, ll26, ll27, ll28, ll29, ll30, ll31, ll32, ll33, ll34, ll35, ll36, ll37, ll38, ll39, ll40, Nat.reduceSub, Nat.reduceAdd, Nat.reduceEqDiff, if_true, if_false, ifp_t, ifp_f, reduceIte, Bool.true_eq_false, Bool.false_eq_true, Option.map_some, Option.map_none, Option.bind_some, Option.bind_none, tSq, sSet2, seqOf_fl, seqOf_tup, seqOf_ti, sTry, pk2, x1]
    simp only [eVar, eC, eOp, eT, eAnd, eOr, eNot, eIf, eAndV, eOrV, eNotV, eCall, aNil, aCons, aStar, sOf, eTup, eFl, eLoc, eSl, oNone, oSome, iOf, eNeg, eChain, eMt, bOf, eDict0, eRev, eListRg, iZipD, sRaise1, sRaise0, eCallV, List.lookup, R.bind_ok, R.bind_er, R.bind_stuck, R.toS_ok, R.toS_er, R.toS_stuck, SR.next_nx, SR.next_rt, SR.next_er, SR.next_bk, SR.next_ct, SR.next_stuck, sNil, sSeq, sBrk, sCnt, sExp, sRet, sRetN, sIf, sSet, sAsg, sAug, sPar2, sPar3, tN, DL.tTup, DL.tNil, DL.tCons, DL.tSub, iSeq, srcOf_tup, srcOf_fl, srcOf_kl, srcOf_ti, iRange1, iRange2, sFor, startD, List.map_cons, List.map_nil, List.length_cons, List.length_nil, List.replicate, List.cons_append, List.nil_append, List.getElem?_cons_zero, List.getElem?_cons_succ, List.set_cons_zero, List.set_cons_succ, dSub_int, dFdiv_int, dMod_int, dLt_int, dLe_int, dGt_int, dGe_int, dAddI_int, dSubI_int, dIsN_non, isN, dAdd_int, ll0, ll1, ll2, ll3, ll4, ll5, ll6, ll7, ll8, ll9, ll10, ll11, ll12, ll13, ll14, ll15, ll16, ll17, ll18, ll19, ll20, ll21, ll22, ll23, ll24, ll25, ll26, ll27, ll28, ll29, ll30, ll31, ll32, ll33, ll34, ll35, ll36, ll37, ll38, ll39, ll40, Nat.reduceSub, Nat.reduceAdd, Nat.reduceEqDiff, if_true, if_false, ifp_t, ifp_f, reduceIte, Bool.true_eq_false, Bool.false_eq_true, Option.map_some, Option.map_none, Option.bind_some, Option.bind_none, tSq, sSet2, seqOf_fl, seqOf_tup, seqOf_ti, alone_BadText, i1, eAtX, a1]
  | some q =>
    obtain ⟨row, nm⟩ := q
    rw [e] at rd
    obtain ⟨r1, r2, r3⟩ := rd
    have r1 : (RUN (rs0 l)).1 = true := r1
    have r2 : (RUN (rs0 l)).2.row = row := r2
    have r3 : (RUN (rs0 l)).2.nm = nm := r3
    have pk2 : ∀ S, F_parse_term [.str (L l)] S = .ok (.tup [ti row, nmT nm]) S := fun S => by
      rw [pk, r1, r2, r3]; rfl
    show _ = SR.rt (.tup [ti row, nmT nm]) S
    generalize ti row = RD at *
    generalize nmT nm = ND at *
    simp only [eVar, eC, eOp, eT, eAnd, eOr, eNot, eIf, eAndV, eOrV, eNotV, eCall, aNil, aCons, aStar, sOf, eTup, eFl, eLoc, eSl, oNone, oSome, iOf, eNeg, eChain, eMt, bOf, eDict0, eRev, eListRg, iZipD, sRaise1, sRaise0, eCallV, List.lookup, R.bind_ok, R.bind_er, R.bind_stuck, R.toS_ok, R.toS_er, R.toS_stuck, SR.next_nx, SR.next_rt, SR.next_er, SR.next_bk, SR.next_ct, SR.next_stuck, sNil, sSeq, sBrk, sCnt, sExp, sRet, sRetN, sIf, sSet, sAsg, sAug, sPar2, sPar3, tN, DL.tTup, DL.tNil, DL.tCons, DL.tSub, iSeq, srcOf_tup, srcOf_fl, srcOf_kl, srcOf_ti, iRange1, iRange2, sFor, startD, List.map_cons, List.map_nil, List.length_cons, List.length_nil, List.replicate, List.cons_append, List.nil_append, List.getElem?_cons_zero, List.getElem?_cons_succ, List.set_cons_zero, List.set_cons_succ, dSub_int, dFdiv_int, dMod_int, dLt_int, dLe_int, dGt_int, dGe_int, dAddI_int, dSubI_int, dIsN_non, isN, dAdd_int, ll0, ll1, ll2, ll3, ll4, ll5, ll6, ll7, ll8, ll9, ll10, ll11, ll12, ll13, ll14, ll15, ll16, ll17, ll18, ll19, ll20, ll21, ll22, ll23, ll24, ll25, ll26, ll27, ll28, ll29, ll30, ll31, ll32, ll33, ll34, ll35, ll36, ll37, ll38, ll39, ll40, Nat.reduceSub, Nat.reduceAdd, Nat.reduceEqDiff, if_true, if_false, ifp_t, ifp_f, reduceIte, Bool.true_eq_false, Bool.false_eq_true, Option.map_some, Option.map_none, Option.bind_some, Option.bind_none, tSq, sSet2, seqOf_fl, seqOf_tup, seqOf_ti, sTry, pk2]
theorem parsed_no {v : D} (h : pl v = true) (hs : isStr0 v = false) (S : Sto) : F__law_parsed [v] S = .ok (.fl [.non]) S := by
  have hst : startD 2 [v] = [some v, none] := rfl
  have it : ∀ S, bIsi [v, .ty "str"] S = .ok (.bl false) S := fun S => by rw [isi_strA h, hs]
  refine fnC_rt rfl ?_ rfl
  rw [hst]
  unfold B__law_parsed
  generalize F__law_read 130 = FR at *
  simp only [eVar, eC, eOp, eT, eAnd, eOr, eNot, eIf, eAndV, eOrV, eNotV, eCall, aNil, aCons, aStar, sOf, eTup, eFl, eLoc, eSl, oNone, oSome, iOf, eNeg, eChain, eMt, bOf, eDict0, eRev, eListRg, iZipD, sRaise1, sRaise0, eCallV, List.lookup, R.bind_ok, R.bind_er, R.bind_stuck, R.toS_ok, R.toS_er, R.toS_stuck, SR.next_nx, SR.next_rt, SR.next_er, SR.next_bk, SR.next_ct, SR.next_stuck, sNil, sSeq, sBrk, sCnt, sExp, sRet, sRetN, sIf, sSet, sAsg, sAug, sPar2, sPar3, tN, DL.tTup, DL.tNil, DL.tCons, DL.tSub, iSeq, srcOf_tup, srcOf_fl, srcOf_kl, srcOf_ti, iRange1, iRange2, sFor, startD, List.map_cons, List.map_nil, List.length_cons, List.length_nil, List.replicate, List.cons_append, List.nil_append, List.getElem?_cons_zero, List.getElem?_cons_succ, List.set_cons_zero, List.set_cons_succ, dSub_int, dFdiv_int, dMod_int, dLt_int, dLe_int, dGt_int, dGe_int, dAddI_int, dSubI_int, dIsN_non, isN, dAdd_int, ll0, ll1, ll2, ll3, ll4, ll5, ll6, ll7, ll8, ll9, ll10, ll11, ll12, ll13, ll14, ll15, ll16, ll17, ll18, ll19, ll20, ll21, ll22, ll23, ll24, ll25, ll26, ll27, ll28, ll29, ll30, ll31, ll32, ll33, ll34, ll35, ll36, ll37, ll38, ll39, ll40, Nat.reduceSub, Nat.reduceAdd, Nat.reduceEqDiff, if_true, if_false, ifp_t, ifp_f, reduceIte, Bool.true_eq_false, Bool.false_eq_true, Option.map_some, Option.map_none, Option.bind_some, Option.bind_none, tSq, sSet2, seqOf_fl, seqOf_tup, seqOf_ti, it, Bool.not_false]
theorem told_no {v : D} (h : pl v = true) (hs : isStr0 v = false) (S : Sto) : F__law_parse_told [v] S = .ok (.fl [.non]) S := by
  have hst : startD 2 [v] = [some v, none] := rfl
  have it : ∀ S, bIsi [v, .ty "str"] S = .ok (.bl false) S := fun S => by rw [isi_strA h, hs]
  have pk2 : ∀ S, F_parse_term [v] S = .er ⟨.own "BadText", [("index", .non)]⟩ S := fun S => by
    refine fnC_er rfl (ρ := [some v, none]) ?_ rfl
    unfold B_parse_term
    rw [hst]
    simp only [eVar, eC, eOp, eT, eAnd, eOr, eNot, eIf, eAndV, eOrV, eNotV, eCall, aNil, aCons, aStar, sOf, eTup, eFl, eLoc, eSl, oNone, oSome, iOf, eNeg, eChain, eMt, bOf, eDict0, eRev, eListRg, iZipD, sRaise1, sRaise0, eCallV, List.lookup, R.bind_ok, R.bind_er, R.bind_stuck, R.toS_ok, R.toS_er, R.toS_stuck, SR.next_nx, SR.next_rt, SR.next_er, SR.next_bk, SR.next_ct, SR.next_stuck, sNil, sSeq, sBrk, sCnt, sExp, sRet, sRetN, sIf, sSet, sAsg, sAug, sPar2, sPar3, tN, DL.tTup, DL.tNil, DL.tCons, DL.tSub, iSeq, srcOf_tup, srcOf_fl, srcOf_kl, srcOf_ti, iRange1, iRange2, sFor, startD, List.map_cons, List.map_nil, List.length_cons, List.length_nil, List.replicate, List.cons_append, List.nil_append, List.getElem?_cons_zero, List.getElem?_cons_succ, List.set_cons_zero, List.set_cons_succ, dSub_int, dFdiv_int, dMod_int, dLt_int, dLe_int, dGt_int, dGe_int, dAddI_int, dSubI_int, dIsN_non, isN, dAdd_int, ll0, ll1, ll2, ll3, ll4, ll5, ll6, ll7, ll8, ll9, ll10, ll11, ll12, ll13, ll14, ll15, ll16, ll17, ll18, ll19, ll20, ll21, ll22, ll23, ll24, ll25, ll26, ll27, ll28, ll29, ll30, ll31, ll32, ll33, ll34, ll35, ll36, ll37, ll38, ll39, ll40, Nat.reduceSub, Nat.reduceAdd, Nat.reduceEqDiff, if_true, if_false, ifp_t, ifp_f, reduceIte, Bool.true_eq_false, Bool.false_eq_true, Option.map_some, Option.map_none, Option.bind_some, Option.bind_none, tSq, sSet2, seqOf_fl, seqOf_tup, seqOf_ti, eFld, eMth, eNew, sMatch, cText, cAny, cNil, tAttr, it, Bool.not_false]
  have x1 : isXs xtab (.own "BadText") [.own "RingError"] = some true := by decide +kernel
  have i1 := isC (n := "BadText") (m := "BadText") (b := true) [("index", .non)] (by decide +kernel)
  have a1 := at1 (n := "BadText") (f := "index") (d := .non) (by decide +kernel)
  refine fnC_rt rfl ?_ rfl
  rw [hst]
  unfold B__law_parse_told
  simp only [eVar, eC, eOp, eT, eAnd, eOr, eNot, eIf, eAndV, eOrV, eNotV, eCall, aNil, aCons, aStar, sOf, eTup, eFl, eLoc, eSl, oNone, oSome, iOf, eNeg, eChain, eMt, bOf, eDict0, eRev, eListRg, iZipD, sRaise1, sRaise0, eCallV, List.lookup, R.bind_ok, R.bind_er, R.bind_stuck, R.toS_ok, R.toS_er, R.toS_stuck, SR.next_nx, SR.next_rt, SR.next_er, SR.next_bk, SR.next_ct, SR.next_stuck, sNil, sSeq, sBrk, sCnt, sExp, sRet, sRetN, sIf, sSet, sAsg, sAug, sPar2, sPar3, tN, DL.tTup, DL.tNil, DL.tCons, DL.tSub, iSeq, srcOf_tup, srcOf_fl, srcOf_kl, srcOf_ti, iRange1, iRange2, sFor, startD, List.map_cons, List.map_nil, List.length_cons, List.length_nil, List.replicate, List.cons_append, List.nil_append, List.getElem?_cons_zero, List.getElem?_cons_succ, List.set_cons_zero, List.set_cons_succ, dSub_int, dFdiv_int, dMod_int, dLt_int, dLe_int, dGt_int, dGe_int, dAddI_int, dSubI_int, dIsN_non, isN, dAdd_int, ll0, ll1, ll2, ll3, ll4, ll5, ll6, ll7, ll8, ll9, ll10, ll11, ll12, ll13, ll14, ll15, ll16, ll17, ll18, ll19, ll20, ll21, ll22, ll23, ll24, ll25, ll26, ll27, ll28, ll29, ll30, ll31, ll32, ll33, ll34, ll35, ll36, ll37, ll38, ll39, ll40, Nat.reduceSub, Nat.reduceAdd, Nat.reduceEqDiff, if_true, if_false, ifp_t, ifp_f, reduceIte, Bool.true_eq_false, Bool.false_eq_true, Option.map_some, Option.map_none, Option.bind_some, Option.bind_none, tSq, sSet2, seqOf_fl, seqOf_tup, seqOf_ti, sTry, pk2, x1]
  simp only [eVar, eC, eOp, eT, eAnd, eOr, eNot, eIf, eAndV, eOrV, eNotV, eCall, aNil, aCons, aStar, sOf, eTup, eFl, eLoc, eSl, oNone, oSome, iOf, eNeg, eChain, eMt, bOf, eDict0, eRev, eListRg, iZipD, sRaise1, sRaise0, eCallV, List.lookup, R.bind_ok, R.bind_er, R.bind_stuck, R.toS_ok, R.toS_er, R.toS_stuck, SR.next_nx, SR.next_rt, SR.next_er, SR.next_bk, SR.next_ct, SR.next_stuck, sNil, sSeq, sBrk, sCnt, sExp, sRet, sRetN, sIf, sSet, sAsg, sAug, sPar2, sPar3, tN, DL.tTup, DL.tNil, DL.tCons, DL.tSub, iSeq, srcOf_tup, srcOf_fl, srcOf_kl, srcOf_ti, iRange1, iRange2, sFor, startD, List.map_cons, List.map_nil, List.length_cons, List.length_nil, List.replicate, List.cons_append, List.nil_append, List.getElem?_cons_zero, List.getElem?_cons_succ, List.set_cons_zero, List.set_cons_succ, dSub_int, dFdiv_int, dMod_int, dLt_int, dLe_int, dGt_int, dGe_int, dAddI_int, dSubI_int, dIsN_non, isN, dAdd_int, ll0, ll1, ll2, ll3, ll4, ll5, ll6, ll7, ll8, ll9, ll10, ll11, ll12, ll13, ll14, ll15, ll16, ll17, ll18, ll19, ll20, ll21, ll22, ll23, ll24, ll25, ll26, ll27, ll28, ll29, ll30, ll31, ll32, ll33, ll34, ll35, ll36, ll37, ll38, ll39, ll40, Nat.reduceSub, Nat.reduceAdd, Nat.reduceEqDiff, if_true, if_false, ifp_t, ifp_f, reduceIte, Bool.true_eq_false, Bool.false_eq_true, Option.map_some, Option.map_none, Option.bind_some, Option.bind_none, tSq, sSet2, seqOf_fl, seqOf_tup, seqOf_ti, alone_BadText, i1, eAtX, a1]
theorem shw_ansL (l : List Nat) : Shw 600 4 (ansL l) := by
  unfold ansL
  cases e : due l with
  | none => exact (shw_fl (ds := [.int 0]) (b := 0) (k := 0) fun d hd => by rw [List.mem_singleton.mp hd]; exact shw_nat (by decide) (by decide)).mono (by decide) (by decide)
  | some q =>
    obtain ⟨row, nm⟩ := q
    unfold due at e
    cases e2 : rdP (2 * l.length + 1) l with
    | none => rw [e2] at e; cases e
    | some q =>
      obtain ⟨row', nm', r⟩ := q
      rw [e2] at e
      simp only at e
      split at e
      · rename_i hc
        cases e
        obtain ⟨_, h1, h2⟩ := hc
        have gq := rdP_good _ _ e2
        have hn : nm.length ≤ row.length := rdP_nm _ _ e2
        have s1 : Shw 24 1 (ti row) := (shw_ti fun t ht => by
          have a1 : 0 ≤ t := gq.nn t ht
          have a2 : t ≤ maxL row := (maxL_spec gq.ne).2 t ht
          omega).mono h1 (Nat.le_refl _)
        have hw : ∀ w ∈ nm.map L, okS w := fun w hw c hc => by
          obtain ⟨x, hx, rfl⟩ := List.mem_map.mp hw
          rw [L_cps] at hc
          have := (gq.nm x hx).1 c hc
          unfold DL.lt at this
          rw [Bool.and_eq_true, decide_eq_true_iff, decide_eq_true_iff] at this
          exact Nat.lt_of_le_of_lt this.2 (by decide)
        have s2 := shw_names hw
        have tot : totS (nm.map L) ≤ nm.length * 10 := by
          have key : ∀ ns : List (List Nat), (∀ x ∈ ns, nmL x) → totS (ns.map L) ≤ ns.length * 10 := by
            intro ns
            induction ns with
            | nil => intro _; exact Nat.le_refl 0
            | cons x ns ih =>
              intro hx
              have h3 := (hx x List.mem_cons_self).2.2
              have := ih fun y hy => hx y (List.mem_cons_of_mem _ hy)
              rw [List.map_cons, tot_cons, L_len, List.length_cons]
              omega
          exact key nm gq.nm
        have e3 : nmT nm = .tup (sD (nm.map L)) := by
          unfold nmT sD
          rw [List.map_map]; rfl
        have s3 : Shw 250 1 (nmT nm) := by rw [e3]; exact s2.mono (by omega) (Nat.le_refl _)
        exact (shw_tup (ds := [ti row, nmT nm]) (b := 250) (k := 1) fun d hd => by
          simp only [List.mem_cons, List.not_mem_nil, or_false] at hd
          rcases hd with rfl | rfl
          · exact s1.mono (by decide) (Nat.le_refl _)
          · exact s3).mono (show 2 * (250 + 1) ≤ 600 by decide) (by decide)
      · cases e
/-- the values that are tried -/
def Vx (v : D) : Prop := (∃ l, v = .str (L l) ∧ l.length < 4000 ∧ l.count 40 < 130) ∨ (pl v = true ∧ isStr0 v = false)
theorem one_ok {v : D} (h : Vx v) (x0 x1 x2 x3 x4 x5 x6 x7 x9 : Option D) (S : Sto) : L2_law [x0, x1, x2, x3, x4, x5, x6, x7, some v, x9] S = .nx [x0, x1, x2, x3, x4, x5, x6, x7, some v, x9] S := by
  obtain ⟨A, h1, h2, h3⟩ : ∃ A, (∀ S, F__law_parse_told [v] S = .ok A S) ∧ (∀ S, F__law_parsed [v] S = .ok A S) ∧ Shw 600 4 A := by
    rcases h with ⟨l, rfl, hl, hc⟩ | ⟨h1, h2⟩
    · exact ⟨ansL l, told_text hl, parsed_text hl hc, shw_ansL l⟩
    · exact ⟨.fl [.non], told_no h1 h2, parsed_no h1 h2, (shw_fl (ds := [.non]) (b := 0) (k := 0) fun d hd => by rw [List.mem_singleton.mp hd]; exact shw_non).mono (by decide) (by decide)⟩
  have rv := repr_s h3 (by decide) (by decide)
  simp only [eVar, eC, eOp, eT, eAnd, eOr, eNot, eIf, eAndV, eOrV, eNotV, eCall, aNil, aCons, aStar, sOf, eTup, eFl, eLoc, eSl, oNone, oSome, iOf, eNeg, eChain, eMt, bOf, eDict0, eRev, eListRg, iZipD, sRaise1, sRaise0, eCallV, List.lookup, R.bind_ok, R.bind_er, R.bind_stuck, R.toS_ok, R.toS_er, R.toS_stuck, SR.next_nx, SR.next_rt, SR.next_er, SR.next_bk, SR.next_ct, SR.next_stuck, sNil, sSeq, sBrk, sCnt, sExp, sRet, sRetN, sIf, sSet, sAsg, sAug, sPar2, sPar3, tN, DL.tTup, DL.tNil, DL.tCons, DL.tSub, iSeq, srcOf_tup, srcOf_fl, srcOf_kl, srcOf_ti, iRange1, iRange2, sFor, startD, List.map_cons, List.map_nil, List.length_cons, List.length_nil, List.replicate, List.cons_append, List.nil_append, List.getElem?_cons_zero, List.getElem?_cons_succ, List.set_cons_zero, List.set_cons_succ, dSub_int, dFdiv_int, dMod_int, dLt_int, dLe_int, dGt_int, dGe_int, dAddI_int, dSubI_int, dIsN_non, isN, dAdd_int, ll0, ll1, ll2, ll3, ll4, ll5, ll6, ll7, ll8, ll9, ll10, ll11, ll12, ll13, ll14, ll15, ll16, ll17, ll18, ll19, ll20, ll21, ll22, ll23, ll24, ll25, ll26, ll27, ll28, ll29, ll30, ll31, ll32, ll33, ll34, ll35, ll36, ll37, ll38, ll39, ll40, Nat.reduceSub, Nat.reduceAdd, Nat.reduceEqDiff, if_true, if_false, ifp_t, ifp_f, reduceIte, Bool.true_eq_false, Bool.false_eq_true, Option.map_some, Option.map_none, Option.bind_some, Option.bind_none, tSq, sSet2, seqOf_fl, seqOf_tup, seqOf_ti, L2_law, h1, h2, rv, dEq_str, decide_true, Bool.not_true]
theorem pick_L {S : Sto} {n : Nat} {rest : Sto} (h : Strm S n rest) {w : List Nat} (hw : 0 < w.length) (hs : w.length ≤ 100) (hn : n < 2 ^ 60) :
    ∃ c S', F__law_pick [.loc 1, .str (L w)] S = .ok (.str (L [c])) S' ∧ Strm S' (n + 1) rest := by
  obtain ⟨r, S', h1, h2, h3, h4⟩ := draw_ok h (m := (w.length : Int)) (by omega) (log2_small 60 (by omega) (by decide) (by decide)) hn
  obtain ⟨k, rfl⟩ : ∃ k : Nat, r = (k : Int) := ⟨r.toNat, by omega⟩
  have hk : k < w.length := by omega
  have ix := ix_L (l := w) (by omega) (List.getElem?_eq_getElem hk)
  have ln := len_L w (by omega)
  refine ⟨w[k], S', ?_, h4⟩
  refine fnC_rt rfl ?_ (by rw [h.len, h4.len])
  unfold B__law_pick
  have hst : startD 2 [D.loc 1, .str (L w)] = [some (.loc 1), some (.str (L w))] := rfl
  rw [hst]
  simp only [eVar, eC, eOp, eT, eAnd, eOr, eNot, eIf, eAndV, eOrV, eNotV, eCall, aNil, aCons, aStar, sOf, eTup, eFl, eLoc, eSl, oNone, oSome, iOf, eNeg, eChain, eMt, bOf, eDict0, eRev, eListRg, iZipD, sRaise1, sRaise0, eCallV, List.lookup, R.bind_ok, R.bind_er, R.bind_stuck, R.toS_ok, R.toS_er, R.toS_stuck, SR.next_nx, SR.next_rt, SR.next_er, SR.next_bk, SR.next_ct, SR.next_stuck, sNil, sSeq, sBrk, sCnt, sExp, sRet, sRetN, sIf, sSet, sAsg, sAug, sPar2, sPar3, tN, DL.tTup, DL.tNil, DL.tCons, DL.tSub, iSeq, srcOf_tup, srcOf_fl, srcOf_kl, srcOf_ti, iRange1, iRange2, sFor, startD, List.map_cons, List.map_nil, List.length_cons, List.length_nil, List.replicate, List.cons_append, List.nil_append, List.getElem?_cons_zero, List.getElem?_cons_succ, List.set_cons_zero, List.set_cons_succ, dSub_int, dFdiv_int, dMod_int, dLt_int, dLe_int, dGt_int, dGe_int, dAddI_int, dSubI_int, dIsN_non, isN, dAdd_int, ll0, ll1, ll2, ll3, ll4, ll5, ll6, ll7, ll8, ll9, ll10, ll11, ll12, ll13, ll14, ll15, ll16, ll17, ll18, ll19, ll20, ll21, ll22, ll23, ll24, ll25, ll26, ll27, ll28, ll29, ll30, ll31, ll32, ll33, ll34, ll35, ll36, ll37, ll38, ll39, ll40, Nat.reduceSub, Nat.reduceAdd, Nat.reduceEqDiff, if_true, if_false, ifp_t, ifp_f, reduceIte, Bool.true_eq_false, Bool.false_eq_true, Option.map_some, Option.map_none, Option.bind_some, Option.bind_none, tSq, sSet2, seqOf_fl, seqOf_tup, seqOf_ti, ln, h1, ix]
theorem cnt_td (l : List Nat) {a b : Nat} (h : a ≤ b) : (l.take a).count 40 + (l.drop b).count 40 ≤ l.count 40 := by
  have h1 := cnt_drop l h
  have h2 : (l.take a).count 40 + (l.drop a).count 40 = l.count 40 := by rw [← List.count_append, List.take_append_drop]
  omega
theorem cnt_t (l : List Nat) (a : Nat) : (l.take a).count 40 ≤ l.count 40 := (List.take_sublist _ _).count_le _
theorem cnt_d (l : List Nat) (a : Nat) : (l.drop a).count 40 ≤ l.count 40 := (List.drop_sublist _ _).count_le _
theorem changed_ok {S : Sto} {n : Nat} {rest : Sto} (h : Strm S n rest) {l : List Nat} (hl : l.length ≤ 1200) (hn : n + 6 < 2 ^ 60) :
    ∃ l' S', F__law_changed [.loc 1, .str (L l)] S = .ok (.str (L l')) S' ∧ l'.length ≤ 2 * l.length + 20 ∧ l'.count 40 ≤ 2 * l.count 40 + 1 ∧ Strm S' (n + 6) rest := by
  obtain ⟨r, S1, h1, h2, h3, s1⟩ := draw_ok h (m := (l.length : Int) + 1) (by omega) (log2_small 60 (by omega) (by decide) (by decide)) (by omega)
  obtain ⟨k, rfl⟩ : ∃ k : Nat, r = (k : Int) := ⟨r.toNat, by omega⟩
  obtain ⟨r, S2, w1, w2, w3, s2⟩ := draw_ok s1 (m := 8) (by decide) (by decide) (by omega)
  obtain ⟨w, rfl⟩ : ∃ w : Nat, r = (w : Int) := ⟨r.toNat, by omega⟩
  obtain ⟨c, S3, c1, s3⟩ := pick_L s2 (w := ("(), axZ0_-\n." : Str).cps.toList) (by decide) (by decide) (by omega)
  rw [L_to] at c1
  have c1' : F__law_pick [.loc 1, .str "(), axZ0_-\n."] S2 = .ok (.str (L [c])) S3 := c1
  have hst : startD 8 [D.loc 1, .str (L l)] = [some (.loc 1), some (.str (L l)), none, none, none, none, none, none] := rfl
  have ln := len_L l (by omega)
  have hl6 : l.length ≤ 10 ^ 6 := by omega
  have tk := sl_to_L l hl6
  have dr := sl_from_L l hl6
  have lt1 : ∀ a, (l.take a).length ≤ l.length := fun a => by rw [List.length_take]; omega
  have ld1 : ∀ a, (l.drop a).length ≤ l.length := fun a => by rw [List.length_drop]; omega
  by_cases a1 : w < 2
  · have z1 : decide ((w : Int) < 2) = true := decide_eq_true (by omega)
    have e1 : (k : Int) + (w : Int) = ((k + w : Nat) : Int) := by omega
    refine ⟨l.take k ++ [c] ++ l.drop (k + w), S3, ?_, ?_, ?_, s3.mono (by omega)⟩
    · refine fnC_rt rfl ?_ (by rw [h.len, s3.len])
      rw [hst]
      unfold B__law_changed
      have t1 := lt1 k
      have t2 := ld1 (k + w)
      have b1 := add_L (l.take k) [c] (by rw [List.length_singleton]; omega)
      have b2 := add_L (l.take k ++ [c]) (l.drop (k + w)) (by rw [List.length_append, List.length_singleton]; omega)
      simp only [eVar, eC, eOp, eT, eAnd, eOr, eNot, eIf, eAndV, eOrV, eNotV, eCall, aNil, aCons, aStar, sOf, eTup, eFl, eLoc, eSl, oNone, oSome, iOf, eNeg, eChain, eMt, bOf, eDict0, eRev, eListRg, iZipD, sRaise1, sRaise0, eCallV, List.lookup, R.bind_ok, R.bind_er, R.bind_stuck, R.toS_ok, R.toS_er, R.toS_stuck, SR.next_nx, SR.next_rt, SR.next_er, SR.next_bk, SR.next_ct, SR.next_stuck, sNil, sSeq, sBrk, sCnt, sExp, sRet, sRetN, sIf, sSet, sAsg, sAug, sPar2, sPar3, tN, DL.tTup, DL.tNil, DL.tCons, DL.tSub, iSeq, srcOf_tup, srcOf_fl, srcOf_kl, srcOf_ti, iRange1, iRange2, sFor, startD, List.map_cons, List.map_nil, List.length_cons, List.length_nil, List.replicate, List.cons_append, List.nil_append, List.getElem?_cons_zero, List.getElem?_cons_succ, List.set_cons_zero, List.set_cons_succ, dSub_int, dFdiv_int, dMod_int, dLt_int, dLe_int, dGt_int, dGe_int, dAddI_int, dSubI_int, dIsN_non, isN, dAdd_int, ll0, ll1, ll2, ll3, ll4, ll5, ll6, ll7, ll8, ll9, ll10, ll11, ll12, ll13, ll14, ll15, ll16, ll17, ll18, ll19, ll20, ll21, ll22, ll23, ll24, ll25, ll26, ll27, ll28, ll29, ll30, ll31, ll32, ll33, ll34, ll35, ll36, ll37, ll38, ll39, ll40, Nat.reduceSub, Nat.reduceAdd, Nat.reduceEqDiff, if_true, if_false, ifp_t, ifp_f, reduceIte, Bool.true_eq_false, Bool.false_eq_true, Option.map_some, Option.map_none, Option.bind_some, Option.bind_none, tSq, sSet2, seqOf_fl, seqOf_tup, seqOf_ti, ln, h1, w1, c1', z1, e1, tk, dr, b1, b2]
    · have t1 := lt1 k
      have t2 := ld1 (k + w)
      rw [List.length_append, List.length_append, List.length_singleton]; omega
    · have t := cnt_td l (show k ≤ k + w by omega)
      have : [c].count 40 ≤ 1 := List.count_le_length
      rw [List.count_append, List.count_append]; omega
  · have z1 : decide ((w : Int) < 2) = false := decide_eq_false (by omega)
    by_cases a2 : w < 4
    · have z2 : decide ((w : Int) < 4) = true := decide_eq_true (by omega)
      have e1 : (k : Int) + (w : Int) - 1 = ((k + w - 1 : Nat) : Int) := by omega
      refine ⟨l.take k ++ l.drop (k + w - 1), S3, ?_, ?_, ?_, s3.mono (by omega)⟩
      · refine fnC_rt rfl ?_ (by rw [h.len, s3.len])
        rw [hst]
        unfold B__law_changed
        have t1 := lt1 k
        have t2 := ld1 (k + w - 1)
        have b1 := add_L (l.take k) (l.drop (k + w - 1)) (by omega)
        simp only [eVar, eC, eOp, eT, eAnd, eOr, eNot, eIf, eAndV, eOrV, eNotV, eCall, aNil, aCons, aStar, sOf, eTup, eFl, eLoc, eSl, oNone, oSome, iOf, eNeg, eChain, eMt, bOf, eDict0, eRev, eListRg, iZipD, sRaise1, sRaise0, eCallV, List.lookup, R.bind_ok, R.bind_er, R.bind_stuck, R.toS_ok, R.toS_er, R.toS_stuck, SR.next_nx, SR.next_rt, SR.next_er, SR.next_bk, SR.next_ct, SR.next_stuck, sNil, sSeq, sBrk, sCnt, sExp, sRet, sRetN, sIf, sSet, sAsg, sAug, sPar2, sPar3, tN, DL.tTup, DL.tNil, DL.tCons, DL.tSub, iSeq, srcOf_tup, srcOf_fl, srcOf_kl, srcOf_ti, iRange1, iRange2, sFor, startD, List.map_cons, List.map_nil, List.length_cons, List.length_nil, List.replicate, List.cons_append, List.nil_append, List.getElem?_cons_zero, List.getElem?_cons_succ, List.set_cons_zero, List.set_cons_succ, dSub_int, dFdiv_int, dMod_int, dLt_int, dLe_int, dGt_int, dGe_int, dAddI_int, dSubI_int, dIsN_non, isN, dAdd_int, ll0, ll1, ll2, ll3, ll4, ll5, ll6, ll7, ll8, ll9, ll10, ll11, ll12, ll13, ll14, ll15, ll16, ll17, ll18, ll19, ll20, ll21, ll22, ll23, ll24, ll25, ll26, ll27, ll28, ll29, ll30, ll31, ll32, ll33, ll34, ll35, ll36, ll37, ll38, ll39, ll40, Nat.reduceSub, Nat.reduceAdd, Nat.reduceEqDiff, if_true, if_false, ifp_t, ifp_f, reduceIte, Bool.true_eq_false, Bool.false_eq_true, Option.map_some, Option.map_none, Option.bind_some, Option.bind_none, tSq, sSet2, seqOf_fl, seqOf_tup, seqOf_ti, ln, h1, w1, c1', z1, z2, e1, tk, dr, b1]
      · have t1 := lt1 k
        have t2 := ld1 (k + w - 1)
        rw [List.length_append]; omega
      · have t := cnt_td l (show k ≤ k + w - 1 by omega)
        rw [List.count_append]; omega
    · have z2 : decide ((w : Int) < 4) = false := decide_eq_false (by omega)
      obtain ⟨r, S4, e1, e2, e3, s4⟩ := draw_ok s3 (m := 6) (by decide) (by decide) (by omega)
      obtain ⟨q, rfl⟩ : ∃ q : Nat, r = (q : Int) := ⟨r.toNat, by omega⟩
      obtain ⟨mk, S5, m1, m2, s5⟩ := pick_fl s4 (xs := [.str "()", .str ", ", .str "(x)"]) (by simp) (by decide) (by omega)
      obtain ⟨u, rfl, u1, u2⟩ : ∃ u, mk = .str (L u) ∧ u.length ≤ 3 ∧ u.count 40 ≤ 1 := by
        simp only [List.mem_cons, List.not_mem_nil, or_false] at m2
        rcases m2 with rfl | rfl | rfl
        · exact ⟨[40, 41], rfl, by decide, by decide⟩
        · exact ⟨[44, 32], rfl, by decide, by decide⟩
        · exact ⟨[40, 120, 41], rfl, by decide, by decide⟩
      have m1' : F__law_pick [.loc 1, .fl [.str "()", .str ", ", .str "(x)"]] S4 = .ok (.str (L u)) S5 := m1
      have ee : (k : Int) + 1 + (q : Int) = ((k + 1 + q : Nat) : Int) := by omega
      have t1 := lt1 k
      have t2 := ld1 k
      have t3 := lt1 (k + 1 + q)
      have b1 := add_L (l.take (k + 1 + q)) (l.drop k) (by omega)
      have b2 := add_L l [44, 32] (by simp; omega)
      have b2' : ∀ S, dAdd (.str (L l)) (.str ", ") S = .ok (.str (L (l ++ [44, 32]))) S := b2
      have b3 := add_L (l ++ [44, 32]) l (by simp; omega)
      have b4 := add_L [32] l (by simp; omega)
      have b4' : ∀ S, dAdd (.str " ") (.str (L l)) S = .ok (.str (L (32 :: l))) S := b4
      have b5 := add_L (l.take k) u (by omega)
      have b6 := add_L (l.take k ++ u) (l.drop k) (by rw [List.length_append]; omega)
      have n1 := cnt_t l k
      have n2 := cnt_d l k
      have n3 := cnt_t l (k + 1 + q)
      have n4 := cnt_td l (Nat.le_refl k)
      obtain ⟨l', ix, g1, g2⟩ : ∃ l', (∀ S, dIx (.fl [.str (L (l.take (k + 1 + q) ++ l.drop k)), .str (L (l ++ [44, 32] ++ l)), .str (L (32 :: l)), .str (L (l.take k ++ u ++ l.drop k))]) (.int ((w : Int) - 4)) S = .ok (.str (L l')) S) ∧ l'.length ≤ 2 * l.length + 20 ∧ l'.count 40 ≤ 2 * l.count 40 + 1 := by
        rcases (show w = 4 ∨ w = 5 ∨ w = 6 ∨ w = 7 by omega) with rfl | rfl | rfl | rfl
        · exact ⟨_, fun S => rfl, by rw [List.length_append]; omega, by rw [List.count_append]; omega⟩
        · refine ⟨_, fun S => rfl, by simp; omega, ?_⟩
          have : [44, 32].count 40 = 0 := by decide
          rw [List.count_append, List.count_append, this]; omega
        · refine ⟨_, fun S => rfl, by simp; omega, ?_⟩
          have : (32 :: l).count 40 = l.count 40 := List.count_cons_of_ne (by decide)
          rw [this]; omega
        · exact ⟨_, fun S => rfl, by rw [List.length_append, List.length_append]; omega, by rw [List.count_append, List.count_append]; omega⟩
      refine ⟨l', S5, ?_, g1, g2, s5.mono (by omega)⟩
      refine fnC_rt rfl ?_ (by rw [h.len, s5.len])
      rw [hst]
      unfold B__law_changed
      simp only [eVar, eC, eOp, eT, eAnd, eOr, eNot, eIf, eAndV, eOrV, eNotV, eCall, aNil, aCons, aStar, sOf, eTup, eFl, eLoc, eSl, oNone, oSome, iOf, eNeg, eChain, eMt, bOf, eDict0, eRev, eListRg, iZipD, sRaise1, sRaise0, eCallV, List.lookup, R.bind_ok, R.bind_er, R.bind_stuck, R.toS_ok, R.toS_er, R.toS_stuck, SR.next_nx, SR.next_rt, SR.next_er, SR.next_bk, SR.next_ct, SR.next_stuck, sNil, sSeq, sBrk, sCnt, sExp, sRet, sRetN, sIf, sSet, sAsg, sAug, sPar2, sPar3, tN, DL.tTup, DL.tNil, DL.tCons, DL.tSub, iSeq, srcOf_tup, srcOf_fl, srcOf_kl, srcOf_ti, iRange1, iRange2, sFor, startD, List.map_cons, List.map_nil, List.length_cons, List.length_nil, List.replicate, List.cons_append, List.nil_append, List.getElem?_cons_zero, List.getElem?_cons_succ, List.set_cons_zero, List.set_cons_succ, dSub_int, dFdiv_int, dMod_int, dLt_int, dLe_int, dGt_int, dGe_int, dAddI_int, dSubI_int, dIsN_non, isN, dAdd_int, ll0, ll1, ll2, ll3, ll4, ll5, ll6, ll7, ll8, ll9, ll10, ll11, ll12, ll13, ll14, ll15, ll16, ll17, ll18, ll19, ll20, ll21, ll22, ll23, ll24, ll25, ll26, ll27, ll28, ll29, ll30, ll31, ll32, ll33, ll34, ll35, ll36, ll37, ll38, ll39, ll40, Nat.reduceSub, Nat.reduceAdd, Nat.reduceEqDiff, if_true, if_false, ifp_t, ifp_f, reduceIte, Bool.true_eq_false, Bool.false_eq_true, Option.map_some, Option.map_none, Option.bind_some, Option.bind_none, tSq, sSet2, seqOf_fl, seqOf_tup, seqOf_ti, ln, h1, w1, c1', z1, z2, e1, m1', ee, tk, dr, b1, b2', b3, b4', b5, b6, ix]
def edL : List D := [.str (L ((List.replicate 23 [102, 40]).flatten ++ [120] ++ (List.replicate 23 [41]).flatten)), .str (L ((List.replicate 24 [102, 40]).flatten ++ [120] ++ (List.replicate 24 [41]).flatten)), .str "f(a, b, c, d, e)", .str "f(a, b, c, d, e, g)", .str "abcdefgh", .str "abcdefghi", .str "", .str " ", .str "f()", .str "f(x", .str "f x", .str "f(x,y)", .str "f (x)", .str "f(x) ", .str "f(x))", .str "(x)", .str "f((x))", .str "f(x)(y)", .str "f(x, y,)", .str "f(, x)", .str "x, y", .str "F(x)", .str "f1(x)", .str "f(x)g", .str "f( x)", .str ")"]
theorem edges_ok (S : Sto) : F__law_edges [] S = .ok (.fl edL) S := by
  have hst : startD 1 [] = [none] := rfl
  have m1 : ∀ S, dMulS (.str "f(") (.int 23) S = .ok (.str (L (List.replicate 23 [102, 40]).flatten)) S := fun S => mulS_L (x := [102, 40]) (n := 23) (by decide) (by decide) mok6 S
  have m2 : ∀ S, dMulS (.str ")") (.int 23) S = .ok (.str (L (List.replicate 23 [41]).flatten)) S := fun S => mulS_L (x := [41]) (n := 23) (by decide) (by decide) mok7 S
  have m3 : ∀ S, dMulS (.str "f(") (.int 24) S = .ok (.str (L (List.replicate 24 [102, 40]).flatten)) S := fun S => mulS_L (x := [102, 40]) (n := 24) (by decide) (by decide) mok8 S
  have m4 : ∀ S, dMulS (.str ")") (.int 24) S = .ok (.str (L (List.replicate 24 [41]).flatten)) S := fun S => mulS_L (x := [41]) (n := 24) (by decide) (by decide) mok9 S
  have a1 : ∀ S, dAdd (.str (L (List.replicate 23 [102, 40]).flatten)) (.str "x") S = .ok (.str (L ((List.replicate 23 [102, 40]).flatten ++ [120]))) S := fun S => add_L (List.replicate 23 [102, 40]).flatten [120] (by decide) S
  have a2 : ∀ S, dAdd (.str (L ((List.replicate 23 [102, 40]).flatten ++ [120]))) (.str (L (List.replicate 23 [41]).flatten)) S = .ok (.str (L ((List.replicate 23 [102, 40]).flatten ++ [120] ++ (List.replicate 23 [41]).flatten))) S := fun S => add_L _ _ (by decide) S
  have a3 : ∀ S, dAdd (.str (L (List.replicate 24 [102, 40]).flatten)) (.str "x") S = .ok (.str (L ((List.replicate 24 [102, 40]).flatten ++ [120]))) S := fun S => add_L (List.replicate 24 [102, 40]).flatten [120] (by decide) S
  have a4 : ∀ S, dAdd (.str (L ((List.replicate 24 [102, 40]).flatten ++ [120]))) (.str (L (List.replicate 24 [41]).flatten)) S = .ok (.str (L ((List.replicate 24 [102, 40]).flatten ++ [120] ++ (List.replicate 24 [41]).flatten))) S := fun S => add_L _ _ (by decide) S
  have ad1 : ∀ (p q r s a b c d e f g h i j k : D) S, dAdd (.fl [p, q, r, s]) (.fl [a, b, c, d, e, f, g, h, i, j, k]) S = .ok (.fl [p, q, r, s, a, b, c, d, e, f, g, h, i, j, k]) S := fun p q r s a b c d e f g h i j k S => add_fl [p, q, r, s] [a, b, c, d, e, f, g, h, i, j, k] (by simp) S
  have ad2 : ∀ (p q r s t u v w x y z a1 b1 c1 d1 a b c d e f g h i j k : D) S, dAdd (.fl [p, q, r, s, t, u, v, w, x, y, z, a1, b1, c1, d1]) (.fl [a, b, c, d, e, f, g, h, i, j, k]) S = .ok (.fl [p, q, r, s, t, u, v, w, x, y, z, a1, b1, c1, d1, a, b, c, d, e, f, g, h, i, j, k]) S := fun p q r s t u v w x y z a1 b1 c1 d1 a b c d e f g h i j k S => add_fl [p, q, r, s, t, u, v, w, x, y, z, a1, b1, c1, d1] [a, b, c, d, e, f, g, h, i, j, k] (by simp) S
  refine fnC_rt rfl ?_ rfl
  rw [hst]
  unfold B__law_edges edL
  generalize (List.replicate 23 [102, 40]).flatten ++ [120] ++ (List.replicate 23 [41]).flatten = T1 at *
  generalize (List.replicate 24 [102, 40]).flatten ++ [120] ++ (List.replicate 24 [41]).flatten = T2 at *
  generalize (List.replicate 23 [102, 40]).flatten ++ [120] = T3 at *
  generalize (List.replicate 24 [102, 40]).flatten ++ [120] = T4 at *
  generalize (List.replicate 23 [102, 40]).flatten = T5 at *
  generalize (List.replicate 24 [102, 40]).flatten = T6 at *
  generalize (List.replicate 23 [41]).flatten = T7 at *
  generalize (List.replicate 24 [41]).flatten = T8 at *
  simp only [eVar, eC, eOp, eT, eAnd, eOr, eNot, eIf, eAndV, eOrV, eNotV, eCall, aNil, aCons, aStar, sOf, eTup, eFl, eLoc, eSl, oNone, oSome, iOf, eNeg, eChain, eMt, bOf, eDict0, eRev, eListRg, iZipD, sRaise1, sRaise0, eCallV, List.lookup, R.bind_ok, R.bind_er, R.bind_stuck, R.toS_ok, R.toS_er, R.toS_stuck, SR.next_nx, SR.next_rt, SR.next_er, SR.next_bk, SR.next_ct, SR.next_stuck, sNil, sSeq, sBrk, sCnt, sExp, sRet, sRetN, sIf, sSet, sAsg, sAug, sPar2, sPar3, tN, DL.tTup, DL.tNil, DL.tCons, DL.tSub, iSeq, srcOf_tup, srcOf_fl, srcOf_kl, srcOf_ti, iRange1, iRange2, sFor, startD, List.map_cons, List.map_nil, List.length_cons, List.length_nil, List.replicate, List.cons_append, List.nil_append, List.getElem?_cons_zero, List.getElem?_cons_succ, List.set_cons_zero, List.set_cons_succ, dSub_int, dFdiv_int, dMod_int, dLt_int, dLe_int, dGt_int, dGe_int, dAddI_int, dSubI_int, dIsN_non, isN, dAdd_int, ll0, ll1, ll2, ll3, ll4, ll5, ll6, ll7, ll8, ll9, ll10, ll11, ll12, ll13, ll14, ll15, ll16, ll17, ll18, ll19, ll20, ll21, ll22, ll23, ll24, ll25, ll26, ll27, ll28, ll29, ll30, ll31, ll32, ll33, ll34, ll35, ll36, ll37, ll38, ll39, ll40, Nat.reduceSub, Nat.reduceAdd, Nat.reduceEqDiff, if_true, if_false, ifp_t, ifp_f, reduceIte, Bool.true_eq_false, Bool.false_eq_true, Option.map_some, Option.map_none, Option.bind_some, Option.bind_none, tSq, sSet2, seqOf_fl, seqOf_tup, seqOf_ti, m1, m2, m3, m4, a1, a2, a3, a4, ad1, ad2]
theorem ed_Vx : ∀ v ∈ edL, Vx v := by
  have st : ∀ w : Str, w.cps.toList.length < 4000 → w.cps.toList.count 40 < 130 → Vx (.str w) := fun w h1 h2 => .inl ⟨w.cps.toList, by rw [L_to], h1, h2⟩
  unfold edL
  simp only [List.mem_cons, List.not_mem_nil, or_false]
  rintro v (rfl | rfl | rfl | rfl | rfl | rfl | rfl | rfl | rfl | rfl | rfl | rfl | rfl | rfl | rfl | rfl | rfl | rfl | rfl | rfl | rfl | rfl | rfl | rfl | rfl | rfl)
  · exact .inl ⟨_, rfl, by decide +kernel, by decide +kernel⟩
  · exact .inl ⟨_, rfl, by decide +kernel, by decide +kernel⟩
  all_goals exact st _ (by decide +kernel) (by decide +kernel)
theorem turn_ok (sc : Option D) {S : Sto} {n : Nat} (hS : Strm S n []) (hn : n + 1000 < 2 ^ 60) (d : D) (x3 x4 x5 x6 x7 x8 x9 : Option D) :
    ∃ y3 y4 y5 y6 y7 y8 S', L3_law [sc, some (.loc 1), some d, x3, x4, x5, x6, x7, x8, x9] S = .nx [sc, some (.loc 1), some d, y3, y4, y5, y6, y7, y8, x9] S' ∧ Strm S' (n + 1000) [] := by
  obtain ⟨t, S1, t1, tok, tsz, s1⟩ := tree_ok hS (by omega)
  have tp := t.sz_pos
  have tr := tree_row_ok 40 t (by omega) (by decide)
  have rl := t.row_len
  obtain ⟨ws, S2, w1, w2, w3, s2⟩ := names_ok s1 (m := t.sz) tsz (by omega)
  have ew : (ws.map fun w => w.cps.toList).map L = ws := by
    rw [List.map_map]
    conv => rhs; rw [← List.map_id ws]
    exact List.map_congr_left fun w _ => L_to w
  have hz : Zs (t.row.zip ws) := by
    have e1 : (t.row.zip ws).map (·.1) = t.row := List.map_fst_zip (by omega)
    refine ⟨fun q hq => (t.row_ar tok _ (List.of_mem_zip hq).1).1, by rw [e1]; exact t.ne_row, by rw [List.length_zip]; omega, fun q hq => by have := (w3 _ (List.of_mem_zip hq).2).gt.len; omega⟩
  have lt := law_terms_ok hz
  have er : rwD (t.row.zip ws) = ti t.row := by unfold rwD; rw [List.map_fst_zip (by omega)]
  have en : nmD (t.row.zip ws) = .tup (sD ws) := by unfold nmD; rw [List.map_snd_zip (by omega)]
  have tx := t.tms_tx (ws.map fun w => w.cps.toList) (by rw [List.length_map]; exact w2)
  rw [ew] at tx
  rw [er, en, tx] at lt
  have hnm : ∀ n ∈ ws.map fun w => w.cps.toList, nmL n := fun n hn => by
    obtain ⟨w, hw, rfl⟩ := List.mem_map.mp hn
    exact nm_name (w3 w hw)
  have pl := t.tx_len _ hnm
  have pc := t.cnt _ hnm
  generalize hT : t.tx (ws.map fun w => w.cps.toList) = T at *
  obtain ⟨o, S3, o1, o2, s3⟩ := odd_ok s2 (by omega)
  have hr : ((-(2 ^ 62) : Int) ≤ 8 ∧ (8 : Int) < 2 ^ 62) = True := by simp
  have anl : ∀ S, dAdd (.str (L T)) (.str "\n") S = .ok (.str (L (T ++ [10]))) S := fun S => add_L T [10] (by simp; omega) S
  have ad : ∀ S, dAdd (.fl edL) (.fl [o, .tup [.str (L T)], .fl [.str (L T)], .str (L (T ++ [10]))]) S = .ok (.fl (edL ++ [o, .tup [.str (L T)], .fl [.str (L T)], .str (L (T ++ [10]))])) S := fun S => add_fl edL [o, .tup [.str (L T)], .fl [.str (L T)], .str (L (T ++ [10]))] (show 26 + 4 ≤ 10 ^ 6 by decide) S
  have V0 : ∀ v ∈ edL ++ [o, .tup [.str (L T)], .fl [.str (L T)], .str (L (T ++ [10]))], Vx v := by
    intro v hv
    rcases List.mem_append.mp hv with hv | hv
    · exact ed_Vx v hv
    · simp only [List.mem_cons, List.not_mem_nil, or_false] at hv
      rcases hv with rfl | rfl | rfl | rfl
      · have p1 := odd_pl v o2
        cases hs : isStr0 v with
        | false => exact .inr ⟨p1, hs⟩
        | true =>
          left
          have key : oddL.all (fun d => match d with | .str w => decide (w.cps.toList.length < 4000) && decide (w.cps.toList.count 40 < 130) | _ => true) = true := by decide +kernel
          have k2 := List.all_eq_true.mp key v o2
          cases v with
          | str w =>
            simp only [Bool.and_eq_true, decide_eq_true_iff] at k2
            exact ⟨w.cps.toList, by rw [L_to], k2.1, k2.2⟩
          | _ => cases hs
      · exact .inr ⟨rfl, rfl⟩
      · exact .inr ⟨rfl, rfl⟩
      · refine .inl ⟨_, rfl, by rw [List.length_append, List.length_singleton]; omega, ?_⟩
        have : [10].count 40 = 0 := by decide
        rw [List.count_append, this]; omega
  have l0 : (edL ++ [o, .tup [.str (L T)], .fl [.str (L T)], .str (L (T ++ [10]))]).length = 30 := rfl
  generalize hW0 : edL ++ [o, .tup [.str (L T)], .fl [.str (L T)], .str (L (T ++ [10]))] = W0 at *
  obtain ⟨ρ5, S5, ⟨⟨y6, y7, V5, rfl, hl5, v5⟩, s5⟩, f5⟩ := forD_all (T := tN 6) (B := L1_law) (Z := sNil) (fun i ρ S => (∃ y6 y7, ∃ V : List D, ρ = [sc, some (.loc 1), some d, some (ti t.row), some (.str (L T)), some (.fl V), y6, y7, x8, x9] ∧ V.length = 30 + 2 * i ∧ ∀ v ∈ V, Vx v) ∧ Strm S (n + 160 + 20 * i) [])
    (rangeD 0 8) 0 [sc, some (.loc 1), some d, some (ti t.row), some (.str (L T)), some (.fl W0), x6, x7, x8, x9] S3 ⟨⟨x6, x7, W0, rfl, l0, V0⟩, s3.mono (by omega)⟩ (by
      rintro j dj ρ S' hj ⟨⟨y6, y7, V, rfl, hVl, hV⟩, sj⟩
      obtain ⟨hj', rfl⟩ := rangeD_get hj
      obtain ⟨a, S4, a1, a2, a3, s4⟩ := changed_ok sj (l := T) (by omega) (by omega)
      obtain ⟨b, S6, b1, b2, b3, s6⟩ := changed_ok s4 (l := a) (by omega) (by omega)
      have ad : ∀ S, dAdd (.fl V) (.fl [.str (L a), .str (L b)]) S = .ok (.fl (V ++ [.str (L a), .str (L b)])) S := fun S => add_fl _ _ (by rw [hVl]; simp; omega) S
      refine ⟨_, S', _, S6, rfl, .inl ?_, ⟨some (.int (0 + (j : Int))), some (.str (L a)), V ++ [.str (L a), .str (L b)], rfl, by rw [List.length_append, hVl]; simp; omega, ?_⟩, s6.mono (by omega)⟩
      · show L1_law [sc, some (.loc 1), some d, some (ti t.row), some (.str (L T)), some (.fl V), some (.int (0 + (j : Int))), y7, x8, x9] S' = _
        generalize ti t.row = TR at *
        simp only [eVar, eC, eOp, eT, eAnd, eOr, eNot, eIf, eAndV, eOrV, eNotV, eCall, aNil, aCons, aStar, sOf, eTup, eFl, eLoc, eSl, oNone, oSome, iOf, eNeg, eChain, eMt, bOf, eDict0, eRev, eListRg, iZipD, sRaise1, sRaise0, eCallV, List.lookup, R.bind_ok, R.bind_er, R.bind_stuck, R.toS_ok, R.toS_er, R.toS_stuck, SR.next_nx, SR.next_rt, SR.next_er, SR.next_bk, SR.next_ct, SR.next_stuck, sNil, sSeq, sBrk, sCnt, sExp, sRet, sRetN, sIf, sSet, sAsg, sAug, sPar2, sPar3, tN, DL.tTup, DL.tNil, DL.tCons, DL.tSub, iSeq, srcOf_tup, srcOf_fl, srcOf_kl, srcOf_ti, iRange1, iRange2, sFor, startD, List.map_cons, List.map_nil, List.length_cons, List.length_nil, List.replicate, List.cons_append, List.nil_append, List.getElem?_cons_zero, List.getElem?_cons_succ, List.set_cons_zero, List.set_cons_succ, dSub_int, dFdiv_int, dMod_int, dLt_int, dLe_int, dGt_int, dGe_int, dAddI_int, dSubI_int, dIsN_non, isN, dAdd_int, ll0, ll1, ll2, ll3, ll4, ll5, ll6, ll7, ll8, ll9, ll10, ll11, ll12, ll13, ll14, ll15, ll16, ll17, ll18, ll19, ll20, ll21, ll22, ll23, ll24, ll25, ll26, ll27, ll28, ll29, ll30, ll31, ll32, ll33, ll34, ll35, ll36, ll37, ll38, ll39, ll40, Nat.reduceSub, Nat.reduceAdd, Nat.reduceEqDiff, if_true, if_false, ifp_t, ifp_f, reduceIte, Bool.true_eq_false, Bool.false_eq_true, Option.map_some, Option.map_none, Option.bind_some, Option.bind_none, tSq, sSet2, seqOf_fl, seqOf_tup, seqOf_ti, L1_law, a1, b1, ad]
      · intro v hv
        rcases List.mem_append.mp hv with hv | hv
        · exact hV v hv
        · simp only [List.mem_cons, List.not_mem_nil, or_false] at hv
          rcases hv with rfl | rfl
          · exact .inl ⟨a, rfl, by omega, by omega⟩
          · exact .inl ⟨b, rfl, by omega, by omega⟩)
  rw [rangeD_len] at hl5 s5
  obtain ⟨ρ7, ⟨y8, rfl⟩, f7⟩ := forD_pure (T := tN 8) (B := L2_law) (Z := sNil) (S := S5) (fun ρ => ∃ y8, ρ = [sc, some (.loc 1), some d, some (ti t.row), some (.str (L T)), some (.fl V5), y6, y7, y8, x9])
    V5 [sc, some (.loc 1), some d, some (ti t.row), some (.str (L T)), some (.fl V5), y6, y7, x8, x9] ⟨x8, rfl⟩ (by
      rintro v hv ρ ⟨y8, rfl⟩
      exact ⟨_, _, rfl, .inl (one_ok (v5 v hv) sc (some (.loc 1)) (some d) (some (ti t.row)) (some (.str (L T))) (some (.fl V5)) y6 y7 x9 S5), _, rfl⟩)
  refine ⟨some (ti t.row), some (.str (L T)), some (.fl V5), y6, y7, y8, S5, ?_, s5.mono (by omega)⟩
  have ln : ∀ S, bLen [ti t.row] S = .ok (.int (t.sz : Int)) S := fun S => by rw [← rl]; exact ti_len t.row S
  have i0 : ∀ S, dIx (.tup (sD [L T])) (.int 0) S = .ok (.str (L T)) S := fun S => rfl
  have src : ∀ S, srcOf (.fl V5) S = .ok (V5, yes) S := fun S => rfl
  have ed := edges_ok
  unfold L3_law
  generalize F__law_tree_row 40 = FR at *
  generalize ti t.row = TR at *
  generalize sD ws = NS at *
  generalize edL = EL at *
  simp only [eVar, eC, eOp, eT, eAnd, eOr, eNot, eIf, eAndV, eOrV, eNotV, eCall, aNil, aCons, aStar, sOf, eTup, eFl, eLoc, eSl, oNone, oSome, iOf, eNeg, eChain, eMt, bOf, eDict0, eRev, eListRg, iZipD, sRaise1, sRaise0, eCallV, List.lookup, R.bind_ok, R.bind_er, R.bind_stuck, R.toS_ok, R.toS_er, R.toS_stuck, SR.next_nx, SR.next_rt, SR.next_er, SR.next_bk, SR.next_ct, SR.next_stuck, sNil, sSeq, sBrk, sCnt, sExp, sRet, sRetN, sIf, sSet, sAsg, sAug, sPar2, sPar3, tN, DL.tTup, DL.tNil, DL.tCons, DL.tSub, iSeq, srcOf_tup, srcOf_fl, srcOf_kl, srcOf_ti, iRange1, iRange2, sFor, startD, List.map_cons, List.map_nil, List.length_cons, List.length_nil, List.replicate, List.cons_append, List.nil_append, List.getElem?_cons_zero, List.getElem?_cons_succ, List.set_cons_zero, List.set_cons_succ, dSub_int, dFdiv_int, dMod_int, dLt_int, dLe_int, dGt_int, dGe_int, dAddI_int, dSubI_int, dIsN_non, isN, dAdd_int, ll0, ll1, ll2, ll3, ll4, ll5, ll6, ll7, ll8, ll9, ll10, ll11, ll12, ll13, ll14, ll15, ll16, ll17, ll18, ll19, ll20, ll21, ll22, ll23, ll24, ll25, ll26, ll27, ll28, ll29, ll30, ll31, ll32, ll33, ll34, ll35, ll36, ll37, ll38, ll39, ll40, Nat.reduceSub, Nat.reduceAdd, Nat.reduceEqDiff, if_true, if_false, ifp_t, ifp_f, reduceIte, Bool.true_eq_false, Bool.false_eq_true, Option.map_some, Option.map_none, Option.bind_some, Option.bind_none, tSq, sSet2, seqOf_fl, seqOf_tup, seqOf_ti, t1, tr, ln, w1, lt, i0, ed, o1, anl, ad, hr, show Int.toNat 8 = 8 from rfl, f5, src, f7]
theorem deep_ok {l : List Nat} (hl : l.length < 4000) (h : due l = none) (S : Sto) : F__law_parse_told [.str (L l)] S = .ok (.fl [.int 0]) S := by
  rw [told_text hl]
  unfold ansL
  rw [h]
theorem law_ok : LawOk F_law := law_by fun ns hl _ => by
  obtain ⟨S0, h0, s0⟩ := stream_ok hl
  generalize hsc : some (D.kl (ns.map D.int)) = sc
  obtain ⟨ρ', S', ⟨x2, x3, x4, x5, x6, x7, x8, rfl⟩, _, hf⟩ := forD_strm (T := tN 2) (B := L3_law) (Z := sNil) (rest := []) (fun ρ => ∃ x2 x3 x4 x5 x6 x7 x8, ρ = [sc, some (.loc 1), x2, x3, x4, x5, x6, x7, x8, none]) 1000 (rangeD 0 4) [sc, some (.loc 1), none, none, none, none, none, none, none, none] S0 0 ⟨_, _, _, _, _, _, _, rfl⟩ s0 (by rw [rangeD_len]; omega) (by
    rintro d hd ρ S n ⟨x2, x3, x4, x5, x6, x7, x8, rfl⟩ hS hn
    obtain ⟨y3, y4, y5, y6, y7, y8, S', h1, h2⟩ := turn_ok sc hS hn d x3 x4 x5 x6 x7 x8 none
    exact ⟨_, _, S', rfl, .inl h1, ⟨_, _, _, _, _, _, _, rfl⟩, h2⟩)
  refine ⟨S', ?_⟩
  have hst : startD 10 [D.kl (ns.map D.int)] = [sc, none, none, none, none, none, none, none, none, none] := by rw [← hsc]; rfl
  rw [hst]
  subst hsc
  have hr : ((-(2 ^ 62) : Int) ≤ 4 ∧ (4 : Int) < 2 ^ 62) = True := by simp
  have m1 : ∀ S, dMulS (.str "f(") (.int 600) S = .ok (.str (L (List.replicate 600 [102, 40]).flatten)) S := fun S => mulS_L (x := [102, 40]) (n := 600) (by decide) (by decide) mok1 S
  have m2 : ∀ S, dMulS (.str ")") (.int 600) S = .ok (.str (L (List.replicate 600 [41]).flatten)) S := fun S => mulS_L (x := [41]) (n := 600) (by decide) (by decide) mok2 S
  have m3 : ∀ S, dMulS (.str "f(") (.int 999) S = .ok (.str (L dp2)) S := fun S => mulS_L (x := [102, 40]) (n := 999) (by decide) (by decide) mok3 S
  have m4 : ∀ S, dMulS (.str ")") (.int 999) S = .ok (.str (L (List.replicate 999 [41]).flatten)) S := fun S => mulS_L (x := [41]) (n := 999) (by decide) (by decide) mok4 S
  have m5 : ∀ S, dMulS (.str "f(x, ") (.int 400) S = .ok (.str (L dp4)) S := fun S => mulS_L (x := [102, 40, 120, 44, 32]) (n := 400) (by decide) (by decide) mok5 S
  have z1 : (List.replicate 600 [102, 40]).flatten.length = 1200 := by simp
  have z2 : (List.replicate 600 [41]).flatten.length = 600 := by simp
  have z3 : (List.replicate 999 [41]).flatten.length = 999 := by simp
  have z4 : dp2.length < 4000 := by unfold dp2; simp
  have z5 : dp4.length < 4000 := by unfold dp4; simp
  have z6 : dp1.length < 4000 := by unfold dp1; rw [List.length_append, List.length_append, z1, z2]; decide
  have z7 : dp3.length < 4000 := by unfold dp3; rw [List.length_append, z3]; decide
  have a1 : ∀ S, dAdd (.str (L (List.replicate 600 [102, 40]).flatten)) (.str "x") S = .ok (.str (L ((List.replicate 600 [102, 40]).flatten ++ [120]))) S := fun S => add_L _ [120] (by rw [z1]; simp) S
  have a2 : ∀ S, dAdd (.str (L ((List.replicate 600 [102, 40]).flatten ++ [120]))) (.str (L (List.replicate 600 [41]).flatten)) S = .ok (.str (L dp1)) S := fun S => add_L _ _ (by rw [List.length_append, z1, z2]; simp) S
  have a3 : ∀ S, dAdd (.str "x") (.str (L (List.replicate 999 [41]).flatten)) S = .ok (.str (L dp3)) S := fun S => add_L [120] _ (by rw [z3]; simp) S
  have k := fun ρ4 => eLc_pure (src := iSeq (eVar 9)) (T := tN 4) (vs := [4]) (c := cYes) (f := E1_law) (ρ := [some (D.kl (ns.map D.int)), some (.loc 1), x2, x3, ρ4, x5, x6, x7, x8, some (.fl [.str (L dp1), .str (L dp2), .str (L dp3), .str (L dp4)])]) (S := S') [.str (L dp1), .str (L dp2), .str (L dp3), .str (L dp4)] (fun d => [some (D.kl (ns.map D.int)), some (.loc 1), x2, x3, some d, x5, x6, x7, x8, some (.fl [.str (L dp1), .str (L dp2), .str (L dp3), .str (L dp4)])]) (fun _ => true) (fun _ => .fl [.int 0]) rfl
    (by
      intro d hd S
      have td : ∀ S, F__law_parse_told [d] S = .ok (.fl [.int 0]) S := fun S => by
        simp only [List.mem_cons, List.not_mem_nil, or_false] at hd
        rcases hd with rfl | rfl | rfl | rfl
        · exact deep_ok z6 deep1 S
        · exact deep_ok z4 deep2 S
        · exact deep_ok z7 deep3 S
        · exact deep_ok z5 deep4 S
      refine ⟨rfl, rfl, fun _ => ?_⟩
      show E1_law [some (D.kl (ns.map D.int)), some (.loc 1), x2, x3, some d, x5, x6, x7, x8, some (.fl [.str (L dp1), .str (L dp2), .str (L dp3), .str (L dp4)])] S = _
      generalize D.fl [.str (L dp1), .str (L dp2), .str (L dp3), .str (L dp4)] = DP at *
      simp only [eVar, eC, eOp, eT, eAnd, eOr, eNot, eIf, eAndV, eOrV, eNotV, eCall, aNil, aCons, aStar, sOf, eTup, eFl, eLoc, eSl, oNone, oSome, iOf, eNeg, eChain, eMt, bOf, eDict0, eRev, eListRg, iZipD, sRaise1, sRaise0, eCallV, List.lookup, R.bind_ok, R.bind_er, R.bind_stuck, R.toS_ok, R.toS_er, R.toS_stuck, SR.next_nx, SR.next_rt, SR.next_er, SR.next_bk, SR.next_ct, SR.next_stuck, sNil, sSeq, sBrk, sCnt, sExp, sRet, sRetN, sIf, sSet, sAsg, sAug, sPar2, sPar3, tN, DL.tTup, DL.tNil, DL.tCons, DL.tSub, iSeq, srcOf_tup, srcOf_fl, srcOf_kl, srcOf_ti, iRange1, iRange2, sFor, startD, List.map_cons, List.map_nil, List.length_cons, List.length_nil, List.replicate, List.cons_append, List.nil_append, List.getElem?_cons_zero, List.getElem?_cons_succ, List.set_cons_zero, List.set_cons_succ, dSub_int, dFdiv_int, dMod_int, dLt_int, dLe_int, dGt_int, dGe_int, dAddI_int, dSubI_int, dIsN_non, isN, dAdd_int, ll0, ll1, ll2, ll3, ll4, ll5, ll6, ll7, ll8, ll9, ll10, ll11, ll12, ll13, ll14, ll15, ll16, ll17, ll18, ll19, ll20, ll21, ll22, ll23, ll24, ll25, ll26, ll27, ll28, ll29, ll30, ll31, ll32, ll33, ll34, ll35, ll36, ll37, ll38, ll39, ll40, Nat.reduceSub, Nat.reduceAdd, Nat.reduceEqDiff, if_true, if_false, ifp_t, ifp_f, reduceIte, Bool.true_eq_false, Bool.false_eq_true, Option.map_some, Option.map_none, Option.bind_some, Option.bind_none, tSq, sSet2, seqOf_fl, seqOf_tup, seqOf_ti, E1_law, td])
    (by decide) (by intro d hd _; rfl)
  have k2 : ∀ ρ4, eLc finFl (iSeq (eVar 9)) (tN 4) [4] cYes E1_law [some (D.kl (ns.map D.int)), some (.loc 1), x2, x3, ρ4, x5, x6, x7, x8, some (.fl [.str (L dp1), .str (L dp2), .str (L dp3), .str (L dp4)])] S' = .ok (.fl [.fl [.int 0], .fl [.int 0], .fl [.int 0], .fl [.int 0]]) S' := k
  have mt : ∀ S, dMulT (.fl [.fl [.int 0]]) (.int 4) S = .ok (.fl [.fl [.int 0], .fl [.int 0], .fl [.int 0], .fl [.int 0]]) S := fun S => by
    show ifp (-(2 ^ 63) ≤ (4 : Int) ∧ (4 : Int) < 2 ^ 63 ∧ [D.fl [.int 0]].length * (4 : Int).toNat ≤ sizeLine) (R.ok (D.fl (List.replicate (4 : Int).toNat [D.fl [.int 0]]).flatten) S) .stuck = _
    rw [ifp_pos ⟨by decide, by decide, by show 4 ≤ sizeLine; decide⟩]; rfl
  have sh : Shw 20 3 (.fl [.fl [.int 0], .fl [.int 0], .fl [.int 0], .fl [.int 0]]) := ⟨by decide +kernel, by decide +kernel, by decide +kernel⟩
  have rv := repr_s sh (by decide) (by decide)
  unfold B_law
  generalize (List.replicate 600 [102, 40]).flatten ++ [120] = T1 at *
  generalize (List.replicate 600 [102, 40]).flatten = T2 at *
  generalize (List.replicate 600 [41]).flatten = T3 at *
  generalize (List.replicate 999 [41]).flatten = T4 at *
  generalize dp1 = P1 at *
  generalize dp2 = P2 at *
  generalize dp3 = P3 at *
  generalize dp4 = P4 at *
  simp only [eVar, eC, eOp, eT, eAnd, eOr, eNot, eIf, eAndV, eOrV, eNotV, eCall, aNil, aCons, aStar, sOf, eTup, eFl, eLoc, eSl, oNone, oSome, iOf, eNeg, eChain, eMt, bOf, eDict0, eRev, eListRg, iZipD, sRaise1, sRaise0, eCallV, List.lookup, R.bind_ok, R.bind_er, R.bind_stuck, R.toS_ok, R.toS_er, R.toS_stuck, SR.next_nx, SR.next_rt, SR.next_er, SR.next_bk, SR.next_ct, SR.next_stuck, sNil, sSeq, sBrk, sCnt, sExp, sRet, sRetN, sIf, sSet, sAsg, sAug, sPar2, sPar3, tN, DL.tTup, DL.tNil, DL.tCons, DL.tSub, iSeq, srcOf_tup, srcOf_fl, srcOf_kl, srcOf_ti, iRange1, iRange2, sFor, startD, List.map_cons, List.map_nil, List.length_cons, List.length_nil, List.replicate, List.cons_append, List.nil_append, List.getElem?_cons_zero, List.getElem?_cons_succ, List.set_cons_zero, List.set_cons_succ, dSub_int, dFdiv_int, dMod_int, dLt_int, dLe_int, dGt_int, dGe_int, dAddI_int, dSubI_int, dIsN_non, isN, dAdd_int, ll0, ll1, ll2, ll3, ll4, ll5, ll6, ll7, ll8, ll9, ll10, ll11, ll12, ll13, ll14, ll15, ll16, ll17, ll18, ll19, ll20, ll21, ll22, ll23, ll24, ll25, ll26, ll27, ll28, ll29, ll30, ll31, ll32, ll33, ll34, ll35, ll36, ll37, ll38, ll39, ll40, Nat.reduceSub, Nat.reduceAdd, Nat.reduceEqDiff, if_true, if_false, ifp_t, ifp_f, reduceIte, Bool.true_eq_false, Bool.false_eq_true, Option.map_some, Option.map_none, Option.bind_some, Option.bind_none, tSq, sSet2, seqOf_fl, seqOf_tup, seqOf_ti, h0, hr, show Int.toNat 4 = 4 from rfl, hf, m1, m2, m3, m4, m5, a1, a2, a3, k2, mt, rv, dEq_str, decide_true]
end TX
namespace TX
open PySem PySem.Spec L2 DL
open PyProof.Rows hiding St
structure Tx (K : PySem.W.Frag) (mg : Str → Option Value) (f__law_stream f__law_tree_row f__law_draw f__law_nested f__law_tree f__law_term_back f__law_terms f__law_pick f__law_names f__law_edges f__law_odd f__law_changed f_TermReader___init__ f_split_name f_TermReader_add_token f_TermReader_skip f_TermReader_close_terms f_TermReader_next_part f_TermReader_read_name f_TermReader_is_right f_parse_term f__law_alone f__law_parse_told f__law_read f__law_parsed f_law : Addr) : Prop where
  mg__law_stream : mg "_law_stream" = some (.ref f__law_stream)
  kp__law_stream : PySem.W.keepIn K (.ref f__law_stream) = true
  mg__law_tree_row : mg "_law_tree_row" = some (.ref f__law_tree_row)
  kp__law_tree_row : PySem.W.keepIn K (.ref f__law_tree_row) = true
  mg__law_draw : mg "_law_draw" = some (.ref f__law_draw)
  kp__law_draw : PySem.W.keepIn K (.ref f__law_draw) = true
  mg__law_nested : mg "_law_nested" = some (.ref f__law_nested)
  kp__law_nested : PySem.W.keepIn K (.ref f__law_nested) = true
  mg__law_tree : mg "_law_tree" = some (.ref f__law_tree)
  kp__law_tree : PySem.W.keepIn K (.ref f__law_tree) = true
  mg__law_term_back : mg "_law_term_back" = some (.ref f__law_term_back)
  kp__law_term_back : PySem.W.keepIn K (.ref f__law_term_back) = true
  mg__law_terms : mg "_law_terms" = some (.ref f__law_terms)
  kp__law_terms : PySem.W.keepIn K (.ref f__law_terms) = true
  mg__law_pick : mg "_law_pick" = some (.ref f__law_pick)
  kp__law_pick : PySem.W.keepIn K (.ref f__law_pick) = true
  mg__law_names : mg "_law_names" = some (.ref f__law_names)
  kp__law_names : PySem.W.keepIn K (.ref f__law_names) = true
  mg__law_edges : mg "_law_edges" = some (.ref f__law_edges)
  kp__law_edges : PySem.W.keepIn K (.ref f__law_edges) = true
  mg__law_odd : mg "_law_odd" = some (.ref f__law_odd)
  kp__law_odd : PySem.W.keepIn K (.ref f__law_odd) = true
  mg__law_changed : mg "_law_changed" = some (.ref f__law_changed)
  kp__law_changed : PySem.W.keepIn K (.ref f__law_changed) = true
  kp_TermReader___init__ : PySem.W.keepIn K (.ref f_TermReader___init__) = true
  mg_split_name : mg "split_name" = some (.ref f_split_name)
  kp_split_name : PySem.W.keepIn K (.ref f_split_name) = true
  kp_TermReader_add_token : PySem.W.keepIn K (.ref f_TermReader_add_token) = true
  kp_TermReader_skip : PySem.W.keepIn K (.ref f_TermReader_skip) = true
  kp_TermReader_close_terms : PySem.W.keepIn K (.ref f_TermReader_close_terms) = true
  kp_TermReader_next_part : PySem.W.keepIn K (.ref f_TermReader_next_part) = true
  kp_TermReader_read_name : PySem.W.keepIn K (.ref f_TermReader_read_name) = true
  kp_TermReader_is_right : PySem.W.keepIn K (.ref f_TermReader_is_right) = true
  mg_parse_term : mg "parse_term" = some (.ref f_parse_term)
  kp_parse_term : PySem.W.keepIn K (.ref f_parse_term) = true
  mg__law_alone : mg "_law_alone" = some (.ref f__law_alone)
  kp__law_alone : PySem.W.keepIn K (.ref f__law_alone) = true
  mg__law_parse_told : mg "_law_parse_told" = some (.ref f__law_parse_told)
  kp__law_parse_told : PySem.W.keepIn K (.ref f__law_parse_told) = true
  mg__law_read : mg "_law_read" = some (.ref f__law_read)
  kp__law_read : PySem.W.keepIn K (.ref f__law_read) = true
  mg__law_parsed : mg "_law_parsed" = some (.ref f__law_parsed)
  kp__law_parsed : PySem.W.keepIn K (.ref f__law_parsed) = true
  n_range : mg "range" = none
  n_len : mg "len" = none
  n_repr : mg "repr" = none
  n_abs : mg "abs" = none
  n_max : mg "max" = none
  n_list : mg "list" = none
  n_tuple : mg "tuple" = none
  n_int : mg "int" = none
  n_isinstance : mg "isinstance" = none
  n_str : mg "str" = none
  n_enumerate : mg "enumerate" = none
  n_LookupError : mg "LookupError" = none
  n_ValueError : mg "ValueError" = none
section
variable {P : Program} {w : World} {K : PySem.W.Frag} {mg : Str → Option Value} {base : Heap} {f__law_stream f__law_tree_row f__law_draw f__law_nested f__law_tree f__law_term_back f__law_terms f__law_pick f__law_names f__law_edges f__law_odd f__law_changed f_TermReader___init__ f_split_name f_TermReader_add_token f_TermReader_skip f_TermReader_close_terms f_TermReader_next_part f_TermReader_read_name f_TermReader_is_right f_parse_term f__law_alone f__law_parse_told f__law_read f__law_parsed f_law : Addr}
variable {u_MAX_TOKENS : Value}
variable {u_MAX_ARITY : Value}
variable {u_LONGEST : Value}
variable {u_LETTERS : Value}
theorem sc__law_stream : FnScope nm__law_stream ["_law_script"] (defScope st__law_stream) := ⟨rfl, rfl, rfl, by decide +kernel, rfl, by decide +kernel, by decide +kernel⟩
set_option maxHeartbeats 4000000 in
theorem fn__law_stream {fd : FuncData} (T : Tx K mg f__law_stream f__law_tree_row f__law_draw f__law_nested f__law_tree f__law_term_back f__law_terms f__law_pick f__law_names f__law_edges f__law_odd f__law_changed f_TermReader___init__ f_split_name f_TermReader_add_token f_TermReader_skip f_TermReader_close_terms f_TermReader_next_part f_TermReader_read_name f_TermReader_is_right f_parse_term f__law_alone f__law_parse_told f__law_read f__law_parsed f_law) (Fu : Fun K "_law_stream" "_law_stream" st__law_stream f__law_stream fd) : FnD true P w K mg base 1 f__law_stream F__law_stream := by
  have nd := (sc__law_stream).nd
  exact fnD_of Fu sc__law_stream (Fu.binds fun _ _ _ _ _ _ us hl => match us, hl with | [_], _ => rfl) cl_keep fun cdv A outer s H E hr hG tk po =>
    (dss_cons (ds_setLc 1 (own := [("_law_cell", 2)]) fin_fl (ct_name 2) rfl nd (di_seq (de_var 0)) (blkOk_by (own := [("_law_cell", 2)]) (N := nm__law_stream) (sc := defScope st__law_stream) (by decide +kernel)) (fun _ _ _ _ _ => pg_name (i := 2) nd rfl (Or.inl rfl)) (fun _ _ _ _ _ => dts_nil) (fun _ _ _ _ _ => (de_callB call_abs k_abs T.n_abs (by decide +kernel) (da_cons (de_var 2) da_nil))))
    (dss_one (ds_ret (de_loc (da_cons (de_lc (own := [("_law_cell", 2)]) fin_loc (ct_name 2) rfl nd (di_seq (de_var 1)) (blkOk_by (own := [("_law_cell", 2)]) (N := nm__law_stream) (sc := defScope st__law_stream) (by decide +kernel)) (fun _ _ _ _ _ => pg_name (i := 2) nd rfl (Or.inl rfl)) (fun _ _ _ _ _ => (dts_one (dt_cmp op_ge k_ge (de_var 2) (de_op op_pow k_pow de_int de_int) (nomark _)))) (fun _ _ _ _ _ => (de_var 2))) (da_cons (de_op or_add k_add (de_var 1) (de_fl (da_cons (de_op or_add k_add (de_callB c_len k_len T.n_len (by decide +kernel) (da_cons (de_var 1) da_nil)) de_int) da_nil))) (da_cons de_int da_nil)))))))
theorem sc__law_tree_row : FnScope nm__law_tree_row ["_law_tree_here"] (defScope st__law_tree_row) := ⟨rfl, rfl, rfl, by decide +kernel, rfl, by decide +kernel, by decide +kernel⟩
set_option maxHeartbeats 4000000 in
theorem fn__law_tree_row {fd : FuncData} (T : Tx K mg f__law_stream f__law_tree_row f__law_draw f__law_nested f__law_tree f__law_term_back f__law_terms f__law_pick f__law_names f__law_edges f__law_odd f__law_changed f_TermReader___init__ f_split_name f_TermReader_add_token f_TermReader_skip f_TermReader_close_terms f_TermReader_next_part f_TermReader_read_name f_TermReader_is_right f_parse_term f__law_alone f__law_parse_told f__law_read f__law_parsed f_law) (Fu : Fun K "_law_tree_row" "_law_tree_row" st__law_tree_row f__law_tree_row fd) (n : Nat) : FnD true P w K mg base (1 + n) f__law_tree_row (F__law_tree_row n) := by
  induction n with
  | zero => exact fnD_stuck
  | succ n G__law_tree_row =>
  have nd := (sc__law_tree_row).nd
  show FnD true P w K mg base (1 + n + 1) f__law_tree_row (fnC close 3 1 (B__law_tree_row (F__law_tree_row n)))
  exact fnD_of Fu sc__law_tree_row (Fu.binds fun _ _ _ _ _ _ us hl => match us, hl with | [_], _ => rfl) cl_drop fun cdv A outer s H E hr hG tk po =>
    (dss_cons (ds_set 1 nd (de_tup da_nil))
    (dss_cons (ds_for po rfl (di_seq (de_var 0)) (dg_name 2 nd) (dss_one (ds_set 1 nd (de_op or_add k_add (de_var 1) (de_callD G__law_tree_row (hr.mono (by omega)) hG tk T.mg__law_tree_row T.kp__law_tree_row (da_cons (de_var 2) da_nil))))) dss_nil)
    (dss_one (ds_ret (de_op or_add k_add (de_var 1) (de_tup (da_cons (de_callB c_len k_len T.n_len (by decide +kernel) (da_cons (de_var 0) da_nil)) da_nil)))))))
theorem sc__law_draw : FnScope nm__law_draw ["_law_stream_here", "_law_many"] (defScope st__law_draw) := ⟨rfl, rfl, rfl, by decide +kernel, rfl, by decide +kernel, by decide +kernel⟩
set_option maxHeartbeats 4000000 in
theorem fn__law_draw {fd : FuncData} (T : Tx K mg f__law_stream f__law_tree_row f__law_draw f__law_nested f__law_tree f__law_term_back f__law_terms f__law_pick f__law_names f__law_edges f__law_odd f__law_changed f_TermReader___init__ f_split_name f_TermReader_add_token f_TermReader_skip f_TermReader_close_terms f_TermReader_next_part f_TermReader_read_name f_TermReader_is_right f_parse_term f__law_alone f__law_parse_told f__law_read f__law_parsed f_law) (Fu : Fun K "_law_draw" "_law_draw" st__law_draw f__law_draw fd) : FnD true P w K mg base 1 f__law_draw F__law_draw := by
  have nd := (sc__law_draw).nd
  exact fnD_of Fu sc__law_draw (Fu.binds fun _ _ _ _ _ _ us hl => match us, hl with | [_, _], _ => rfl) cl_drop fun cdv A outer s H E hr hG tk po =>
    (dss_cons (ds_while 4000 po (dt_cmp (or_ne hr.units) k_neD (de_ix (de_var 0) de_int) (de_fl da_nil) (nomark _)) (dss_cons (ds_set 2 nd (de_ix (de_ix (de_var 0) de_int) de_int))
    (dss_cons (ds_if (dt_cmp op_gt k_gt (de_var 2) de_int (nomark _)) (dss_cons (ds_asg (de_op op_fdivW k_fdiv (de_var 2) (de_var 1)) (dg_sub (W := (fun cls d _ H' => E cls d H')) (de_ix (de_var 0) de_int) de_int))
    (dss_one (ds_ret (de_op op_modN k_mod (de_var 2) (de_var 1))))) dss_nil)
    (dss_one (ds_expr (de_bm PySem.F.plainAttrs_list PySem.F.slot_list_pop PySem.F.type_list_pop mt_popAt k_popAt chk_lst (de_ix (de_var 0) de_int) (da_cons de_int da_nil)))))))
    (dss_cons (ds_set 3 nd (de_op or_add k_add (de_ix (de_var 0) de_int) de_int))
    (dss_cons (ds_asg (de_var 3) (dg_sub (W := (fun cls d _ H' => E cls d H')) (de_var 0) de_int))
    (dss_cons (ds_set 4 nd (de_op op_modN k_mod (de_ix (de_ix (de_var 0) de_int) (de_op op_modN k_mod (de_var 3) (de_callB c_len k_len T.n_len (by decide +kernel) (da_cons (de_ix (de_var 0) de_int) da_nil)))) de_int))
    (dss_cons (ds_set 5 nd (de_op op_modN k_mod (de_op or_add k_add (de_op or_add k_add (de_op or_mul k_mul (de_var 4) (de_op or_add k_add de_int (de_op or_mul k_mul de_int (de_var 3)))) (de_op or_mul k_mul (de_op or_mul k_mul de_int (de_var 3)) (de_var 3))) de_int) de_int))
    (dss_one (ds_ret (de_op op_modN k_mod (de_op op_fdivW k_fdiv (de_op op_modN k_mod (de_op or_mul k_mul (de_var 5) (de_var 5)) de_int) de_int) (de_var 1)))))))))
theorem sc__law_nested : FnScope nm__law_nested ["_law_below", "_law_node"] (defScope st__law_nested) := ⟨rfl, rfl, rfl, by decide +kernel, rfl, by decide +kernel, by decide +kernel⟩
set_option maxHeartbeats 4000000 in
theorem fn__law_nested {fd : FuncData} (T : Tx K mg f__law_stream f__law_tree_row f__law_draw f__law_nested f__law_tree f__law_term_back f__law_terms f__law_pick f__law_names f__law_edges f__law_odd f__law_changed f_TermReader___init__ f_split_name f_TermReader_add_token f_TermReader_skip f_TermReader_close_terms f_TermReader_next_part f_TermReader_read_name f_TermReader_is_right f_parse_term f__law_alone f__law_parse_told f__law_read f__law_parsed f_law) (Fu : Fun K "_law_nested" "_law_nested" st__law_nested f__law_nested fd) (n : Nat) : FnD true P w K mg base (1 + n) f__law_nested (F__law_nested n) := by
  induction n with
  | zero => exact fnD_stuck
  | succ n G__law_nested =>
  have nd := (sc__law_nested).nd
  show FnD true P w K mg base (1 + n + 1) f__law_nested (fnC close 3 2 (B__law_nested (F__law_nested n)))
  exact fnD_of Fu sc__law_nested (Fu.binds fun _ _ _ _ _ _ us hl => match us, hl with | [_, _], _ => rfl) cl_drop fun cdv A outer s H E hr hG tk po =>
    (dss_one (ds_ret (de_callTy call_tuple_of k_tuple T.n_tuple (by decide +kernel) (da_cons (de_lc (own := [("_law_child", 2)]) fin_fl (ct_name 2) rfl nd (di_seq (de_ix (de_var 0) (de_var 1))) (blkOk_by (own := [("_law_child", 2)]) (N := nm__law_nested) (sc := defScope st__law_nested) (by decide +kernel)) (fun _ _ _ _ _ => pg_name (i := 2) nd rfl (Or.inl rfl)) (fun _ _ _ _ _ => dts_nil) (fun _ _ _ _ _ => (de_callD G__law_nested (hr.mono (by omega)) hG takes0 T.mg__law_nested T.kp__law_nested (da_cons (de_var 0) (da_cons (de_var 2) da_nil))))) da_nil))))
theorem sc__law_tree : FnScope nm__law_tree ["_law_stream_here", "_law_most"] (defScope st__law_tree) := ⟨rfl, rfl, rfl, by decide +kernel, rfl, by decide +kernel, by decide +kernel⟩
set_option maxHeartbeats 4000000 in
theorem fn__law_tree {fd : FuncData} (T : Tx K mg f__law_stream f__law_tree_row f__law_draw f__law_nested f__law_tree f__law_term_back f__law_terms f__law_pick f__law_names f__law_edges f__law_odd f__law_changed f_TermReader___init__ f_split_name f_TermReader_add_token f_TermReader_skip f_TermReader_close_terms f_TermReader_next_part f_TermReader_read_name f_TermReader_is_right f_parse_term f__law_alone f__law_parse_told f__law_read f__law_parsed f_law) (Fu : Fun K "_law_tree" "_law_tree" st__law_tree f__law_tree fd) (G__law_draw : FnD true P w K mg base 1 f__law_draw F__law_draw) (G__law_nested : FnD true P w K mg base 41 f__law_nested (F__law_nested 40)) : FnD true P w K mg base 42 f__law_tree F__law_tree := by
  have nd := (sc__law_tree).nd
  exact fnD_of Fu sc__law_tree (Fu.binds fun _ _ _ _ _ _ us hl => match us, hl with | [_, _], _ => rfl) cl_drop fun cdv A outer s H E hr hG tk po =>
    (dss_cons (ds_par2 2 3 rfl nd (da_cons (de_op or_add k_add de_int (de_callD G__law_draw (hr.mono (by decide)) hG tk T.mg__law_draw T.kp__law_draw (da_cons (de_var 0) (da_cons (de_var 1) da_nil)))) (da_cons (de_callD G__law_draw (hr.mono (by decide)) hG tk T.mg__law_draw T.kp__law_draw (da_cons (de_var 0) (da_cons de_int da_nil))) da_nil)))
    (dss_cons (ds_set 5 nd (de_lc (own := [("_law_k", 4)]) fin_loc (ct_name 4) rfl nd (di_range1 rfl T.n_range (da_cons (de_var 2) da_nil)) (blkOk_by (own := [("_law_k", 4)]) (N := nm__law_tree) (sc := defScope st__law_tree) (by decide +kernel)) (fun _ _ _ _ _ => pg_name (i := 4) nd rfl (Or.inl rfl)) (fun _ _ _ _ _ => dts_nil) (fun _ _ _ _ _ => (de_loc da_nil))))
    (dss_cons (ds_for po rfl (di_range2 rfl T.n_range (da_cons de_int (da_cons (de_var 2) da_nil))) (dg_name 4 nd) (dss_cons (ds_set 6 nd (de_ix (de_fl (da_cons (de_op op_sub k_sub (de_var 4) de_int) (da_cons de_int (da_cons (de_callD G__law_draw (hr.mono (by decide)) hG tk T.mg__law_draw T.kp__law_draw (da_cons (de_var 0) (da_cons (de_var 4) da_nil))) (da_cons (de_callB (c_max rfl) k_max T.n_max (by decide +kernel) (da_cons de_int (da_cons (de_op op_sub k_sub (de_op op_sub k_sub (de_var 4) de_int) (de_callD G__law_draw (hr.mono (by decide)) hG tk T.mg__law_draw T.kp__law_draw (da_cons (de_var 0) (da_cons de_int da_nil)))) da_nil))) da_nil))))) (de_var 3)))
    (dss_cons (ds_setLc 7 (own := [("_law_node", 8)]) fin_fl (ct_name 8) rfl nd (di_seq (de_op or_add k_add (de_fl (da_cons (de_var 6) da_nil)) (de_listRg mk_fl rfl T.n_list T.n_range (de_var 4)))) (blkOk_by (own := [("_law_node", 8)]) (N := nm__law_tree) (sc := defScope st__law_tree) (by decide +kernel)) (fun _ _ _ _ _ => pg_name (i := 8) nd rfl (Or.inl rfl)) (fun _ _ _ _ _ => (dts_one (dt_cmp op_lt k_lt (de_callB c_len k_len T.n_len (by decide +kernel) (da_cons (de_ix (de_var 5) (de_var 8)) da_nil)) de_int (nomark _)))) (fun _ _ _ _ _ => (de_var 8)))
    (dss_one (ds_expr (de_bm PySem.F.plainAttrs_list PySem.F.slot_list_append PySem.F.type_list_append mt_append k_append chk_lst (de_ix (de_var 5) (de_ix (de_var 7) de_int)) (da_cons (de_var 4) da_nil)))))) dss_nil)
    (dss_one (ds_ret (de_callD G__law_nested (hr.mono (by decide)) hG tk T.mg__law_nested T.kp__law_nested (da_cons (de_var 5) (da_cons de_int da_nil))))))))
theorem sc__law_term_back : FnScope nm__law_term_back ["_law_row", "_law_names_here", "_law_end"] (defScope st__law_term_back) := ⟨rfl, rfl, rfl, by decide +kernel, rfl, by decide +kernel, by decide +kernel⟩
set_option maxHeartbeats 4000000 in
theorem fn__law_term_back {fd : FuncData} (T : Tx K mg f__law_stream f__law_tree_row f__law_draw f__law_nested f__law_tree f__law_term_back f__law_terms f__law_pick f__law_names f__law_edges f__law_odd f__law_changed f_TermReader___init__ f_split_name f_TermReader_add_token f_TermReader_skip f_TermReader_close_terms f_TermReader_next_part f_TermReader_read_name f_TermReader_is_right f_parse_term f__law_alone f__law_parse_told f__law_read f__law_parsed f_law) (Fu : Fun K "_law_term_back" "_law_term_back" st__law_term_back f__law_term_back fd) (n : Nat) : FnD true P w K mg base (1 + n) f__law_term_back (F__law_term_back n) := by
  induction n with
  | zero => exact fnD_stuck
  | succ n G__law_term_back =>
  have nd := (sc__law_term_back).nd
  show FnD true P w K mg base (1 + n + 1) f__law_term_back (fnC close 7 3 (B__law_term_back (F__law_term_back n)))
  exact fnD_of Fu sc__law_term_back (Fu.binds fun _ _ _ _ _ _ us hl => match us, hl with | [_, _, _], _ => rfl) cl_drop fun cdv A outer s H E hr hG tk po =>
    (dss_cons (ds_par2 3 4 rfl nd (da_cons (de_fl da_nil) (da_cons (de_var 2) da_nil)))
    (dss_cons (ds_for po rfl (di_range1 rfl T.n_range (da_cons (de_ix (de_var 0) (de_var 2)) da_nil)) (dg_name 5 nd) (dss_cons (ds_asg (de_callD G__law_term_back (hr.mono (by omega)) hG tk T.mg__law_term_back T.kp__law_term_back (da_cons (de_var 0) (da_cons (de_var 1) (da_cons (de_op op_sub k_sub (de_var 4) de_int) da_nil)))) (dg_sq rfl (dgs_cons (dg_name 6 nd) (dgs_cons (dg_name 4 nd) dgs_nil))))
    (dss_one (ds_set 3 nd (de_op or_add k_add (de_fl (da_cons (de_var 6) da_nil)) (de_var 3))))) dss_nil)
    (dss_one (ds_ret (de_fl (da_cons (de_op or_add k_add (de_ix (de_var 1) (de_var 2)) (de_op op_mulS k_mulS (de_op or_add k_add (de_op or_add k_add de_str (de_bm PySem.F.plainAttrs_str PySem.F.slot_str_join PySem.F.type_str_join mt_join k_join chk_str de_str (da_cons (de_var 3) da_nil))) de_str) (de_callTy call_int1 k_int T.n_int (by decide +kernel) (da_cons (de_cmp (or_neY hr.units) k_neY (de_var 3) (de_fl da_nil) (nomark _)) da_nil)))) (da_cons (de_var 4) da_nil)))))))
theorem sc__law_terms : FnScope nm__law_terms ["_law_row", "_law_names_here"] (defScope st__law_terms) := ⟨rfl, rfl, rfl, by decide +kernel, rfl, by decide +kernel, by decide +kernel⟩
set_option maxHeartbeats 4000000 in
theorem fn__law_terms {fd : FuncData} (T : Tx K mg f__law_stream f__law_tree_row f__law_draw f__law_nested f__law_tree f__law_term_back f__law_terms f__law_pick f__law_names f__law_edges f__law_odd f__law_changed f_TermReader___init__ f_split_name f_TermReader_add_token f_TermReader_skip f_TermReader_close_terms f_TermReader_next_part f_TermReader_read_name f_TermReader_is_right f_parse_term f__law_alone f__law_parse_told f__law_read f__law_parsed f_law) (Fu : Fun K "_law_terms" "_law_terms" st__law_terms f__law_terms fd) (G__law_term_back : FnD true P w K mg base 41 f__law_term_back (F__law_term_back 40)) : FnD true P w K mg base 42 f__law_terms F__law_terms := by
  have nd := (sc__law_terms).nd
  exact fnD_of Fu sc__law_terms (Fu.binds fun _ _ _ _ _ _ us hl => match us, hl with | [_, _], _ => rfl) cl_drop fun cdv A outer s H E hr hG tk po =>
    (dss_cons (ds_par2 2 3 rfl nd (da_cons (de_tup da_nil) (da_cons (de_op op_sub k_sub (de_callB c_len k_len T.n_len (by decide +kernel) (da_cons (de_var 0) da_nil)) de_int) da_nil)))
    (dss_cons (ds_while 4000 po (dt_cmp op_ge k_ge (de_var 3) de_int (nomark _)) (dss_cons (ds_asg (de_callD G__law_term_back (hr.mono (by decide)) hG tk T.mg__law_term_back T.kp__law_term_back (da_cons (de_var 0) (da_cons (de_var 1) (da_cons (de_var 3) da_nil)))) (dg_sq rfl (dgs_cons (dg_name 4 nd) (dgs_cons (dg_name 5 nd) dgs_nil))))
    (dss_one (ds_par2 2 3 rfl nd (da_cons (de_op or_add k_add (de_tup (da_cons (de_var 4) da_nil)) (de_var 2)) (da_cons (de_op op_sub k_sub (de_var 5) de_int) da_nil))))))
    (dss_one (ds_ret (de_var 2)))))
theorem sc__law_pick : FnScope nm__law_pick ["_law_stream_here", "_law_items"] (defScope st__law_pick) := ⟨rfl, rfl, rfl, by decide +kernel, rfl, by decide +kernel, by decide +kernel⟩
set_option maxHeartbeats 4000000 in
theorem fn__law_pick {fd : FuncData} (T : Tx K mg f__law_stream f__law_tree_row f__law_draw f__law_nested f__law_tree f__law_term_back f__law_terms f__law_pick f__law_names f__law_edges f__law_odd f__law_changed f_TermReader___init__ f_split_name f_TermReader_add_token f_TermReader_skip f_TermReader_close_terms f_TermReader_next_part f_TermReader_read_name f_TermReader_is_right f_parse_term f__law_alone f__law_parse_told f__law_read f__law_parsed f_law) (Fu : Fun K "_law_pick" "_law_pick" st__law_pick f__law_pick fd) (G__law_draw : FnD true P w K mg base 1 f__law_draw F__law_draw) : FnD true P w K mg base 2 f__law_pick F__law_pick := by
  have nd := (sc__law_pick).nd
  exact fnD_of Fu sc__law_pick (Fu.binds fun _ _ _ _ _ _ us hl => match us, hl with | [_, _], _ => rfl) cl_drop fun cdv A outer s H E hr hG tk po =>
    (dss_one (ds_ret (de_ix (de_var 1) (de_callD G__law_draw (hr.mono (by decide)) hG tk T.mg__law_draw T.kp__law_draw (da_cons (de_var 0) (da_cons (de_callB c_len k_len T.n_len (by decide +kernel) (da_cons (de_var 1) da_nil)) da_nil))))))
theorem sc__law_names : FnScope nm__law_names ["_law_stream_here", "_law_many"] (defScope st__law_names) := ⟨rfl, rfl, rfl, by decide +kernel, rfl, by decide +kernel, by decide +kernel⟩
set_option maxHeartbeats 4000000 in
theorem fn__law_names {fd : FuncData} (T : Tx K mg f__law_stream f__law_tree_row f__law_draw f__law_nested f__law_tree f__law_term_back f__law_terms f__law_pick f__law_names f__law_edges f__law_odd f__law_changed f_TermReader___init__ f_split_name f_TermReader_add_token f_TermReader_skip f_TermReader_close_terms f_TermReader_next_part f_TermReader_read_name f_TermReader_is_right f_parse_term f__law_alone f__law_parse_told f__law_read f__law_parsed f_law) (Fu : Fun K "_law_names" "_law_names" st__law_names f__law_names fd) (G__law_draw : FnD true P w K mg base 1 f__law_draw F__law_draw) (G__law_pick : FnD true P w K mg base 2 f__law_pick F__law_pick) : FnD true P w K mg base 3 f__law_names F__law_names := by
  have nd := (sc__law_names).nd
  exact fnD_of Fu sc__law_names (Fu.binds fun _ _ _ _ _ _ us hl => match us, hl with | [_, _], _ => rfl) cl_drop fun cdv A outer s H E hr hG tk po =>
    (dss_cons (ds_set 2 nd de_str)
    (dss_cons (ds_set 4 nd (de_bm PySem.F.plainAttrs_str PySem.F.slot_str_join PySem.F.type_str_join mt_join k_join chk_str de_str (da_cons (de_lc (own := [("_law_k", 3)]) fin_fl (ct_name 3) rfl nd (di_range1 rfl T.n_range (da_cons (de_callD G__law_draw (hr.mono (by decide)) hG tk T.mg__law_draw T.kp__law_draw (da_cons (de_var 0) (da_cons de_int da_nil))) da_nil)) (blkOk_by (own := [("_law_k", 3)]) (N := nm__law_names) (sc := defScope st__law_names) (by decide +kernel)) (fun _ _ _ _ _ => pg_name (i := 3) nd rfl (Or.inl rfl)) (fun _ _ _ _ _ => dts_nil) (fun _ _ _ _ _ => (de_callD G__law_pick (hr.mono (by decide)) hG takes0 T.mg__law_pick T.kp__law_pick (da_cons (de_var 0) (da_cons (de_var 2) da_nil))))) da_nil)))
    (dss_cons (ds_par2 5 6 rfl nd (da_cons (de_callD G__law_draw (hr.mono (by decide)) hG tk T.mg__law_draw T.kp__law_draw (da_cons (de_var 0) (da_cons de_int da_nil))) (da_cons (de_loc da_nil) da_nil)))
    (dss_cons (ds_for po rfl (di_range1 rfl T.n_range (da_cons (de_var 1) da_nil)) (dg_name 3 nd) (dss_one (ds_expr (de_bm PySem.F.plainAttrs_list PySem.F.slot_list_append PySem.F.type_list_append mt_append k_append chk_lst (de_var 6) (da_cons (de_ix (de_fl (da_cons (de_op or_add k_add (de_sl mk_fl (de_var 4) do_none (do_some de_int)) (de_ix (de_var 2) (de_var 3))) (da_cons (de_op or_add k_add (de_ix (de_var 2) (de_var 3)) (de_sl mk_fl (de_var 4) do_none (do_some de_int))) (da_cons (de_callD G__law_pick (hr.mono (by decide)) hG tk T.mg__law_pick T.kp__law_pick (da_cons (de_var 0) (da_cons (de_sl mk_fl (de_var 2) do_none (do_some de_int)) da_nil))) da_nil)))) (de_var 5)) da_nil)))) dss_nil)
    (dss_one (ds_ret (de_callTy call_tuple_of k_tuple T.n_tuple (by decide +kernel) (da_cons (de_var 6) da_nil))))))))
theorem sc__law_edges : FnScope nm__law_edges [] (defScope st__law_edges) := ⟨rfl, rfl, rfl, by decide +kernel, rfl, by decide +kernel, by decide +kernel⟩
set_option maxHeartbeats 4000000 in
theorem fn__law_edges {fd : FuncData} (T : Tx K mg f__law_stream f__law_tree_row f__law_draw f__law_nested f__law_tree f__law_term_back f__law_terms f__law_pick f__law_names f__law_edges f__law_odd f__law_changed f_TermReader___init__ f_split_name f_TermReader_add_token f_TermReader_skip f_TermReader_close_terms f_TermReader_next_part f_TermReader_read_name f_TermReader_is_right f_parse_term f__law_alone f__law_parse_told f__law_read f__law_parsed f_law) (Fu : Fun K "_law_edges" "_law_edges" st__law_edges f__law_edges fd) : FnD true P w K mg base 1 f__law_edges F__law_edges := by
  have nd := (sc__law_edges).nd
  exact fnD_of Fu sc__law_edges (Fu.binds fun _ _ _ _ _ _ us hl => match us, hl with | [], _ => rfl) cl_drop fun cdv A outer s H E hr hG tk po =>
    (dss_cons (ds_set 0 nd (de_fl (da_cons (de_op or_add k_add (de_op or_add k_add (de_op op_mulS k_mulS de_str de_int) de_str) (de_op op_mulS k_mulS de_str de_int)) (da_cons (de_op or_add k_add (de_op or_add k_add (de_op op_mulS k_mulS de_str de_int) de_str) (de_op op_mulS k_mulS de_str de_int)) (da_cons de_str (da_cons de_str da_nil))))))
    (dss_cons (ds_set 0 nd (de_op or_add k_add (de_var 0) (de_fl (da_cons de_str (da_cons de_str (da_cons de_str (da_cons de_str (da_cons de_str (da_cons de_str (da_cons de_str (da_cons de_str (da_cons de_str (da_cons de_str (da_cons de_str da_nil))))))))))))))
    (dss_one (ds_ret (de_op or_add k_add (de_var 0) (de_fl (da_cons de_str (da_cons de_str (da_cons de_str (da_cons de_str (da_cons de_str (da_cons de_str (da_cons de_str (da_cons de_str (da_cons de_str (da_cons de_str (da_cons de_str da_nil)))))))))))))))))
theorem sc__law_odd : FnScope nm__law_odd ["_law_stream_here"] (defScope st__law_odd) := ⟨rfl, rfl, rfl, by decide +kernel, rfl, by decide +kernel, by decide +kernel⟩
set_option maxHeartbeats 4000000 in
theorem fn__law_odd {fd : FuncData} (T : Tx K mg f__law_stream f__law_tree_row f__law_draw f__law_nested f__law_tree f__law_term_back f__law_terms f__law_pick f__law_names f__law_edges f__law_odd f__law_changed f_TermReader___init__ f_split_name f_TermReader_add_token f_TermReader_skip f_TermReader_close_terms f_TermReader_next_part f_TermReader_read_name f_TermReader_is_right f_parse_term f__law_alone f__law_parse_told f__law_read f__law_parsed f_law) (Fu : Fun K "_law_odd" "_law_odd" st__law_odd f__law_odd fd) (G__law_draw : FnD true P w K mg base 1 f__law_draw F__law_draw) : FnD true P w K mg base 2 f__law_odd F__law_odd := by
  have nd := (sc__law_odd).nd
  exact fnD_of Fu sc__law_odd (Fu.binds fun _ _ _ _ _ _ us hl => match us, hl with | [_], _ => rfl) cl_drop fun cdv A outer s H E hr hG tk po =>
    (dss_cons (ds_set 1 nd (de_fl (da_cons de_non (da_cons de_bl (da_cons de_bl (da_cons (de_neg de_int) (da_cons de_int (da_cons de_int (da_cons de_int (da_cons de_int (da_cons de_int (da_cons de_int (da_cons (de_op op_pow k_pow de_int de_int) (da_cons de_str (da_cons de_str (da_cons (de_tup da_nil) (da_cons (de_fl da_nil) (da_cons de_dict0 (da_cons (de_tup (da_cons de_int da_nil)) (da_cons (de_fl (da_cons de_int da_nil)) (da_cons (de_tup (da_cons de_bl da_nil)) (da_cons (de_tup (da_cons (de_tup da_nil) da_nil)) (da_cons de_str da_nil)))))))))))))))))))))))
    (dss_one (ds_ret (de_ix (de_op or_add k_add (de_var 1) (de_fl (da_cons (de_tup (da_cons de_int (da_cons de_int da_nil))) (da_cons (de_dispC (dpc_cons (key := (Sum.inr "a")) pe_str pe_int (fun _ _ => int_rep) dpc_nil)) (da_cons (de_tup (da_cons de_int (da_cons de_int (da_cons de_int da_nil)))) da_nil))))) (de_callD G__law_draw (hr.mono (by decide)) hG tk T.mg__law_draw T.kp__law_draw (da_cons (de_var 0) (da_cons de_int da_nil)))))))
theorem sc__law_changed : FnScope nm__law_changed ["_law_stream_here", "_law_text"] (defScope st__law_changed) := ⟨rfl, rfl, rfl, by decide +kernel, rfl, by decide +kernel, by decide +kernel⟩
set_option maxHeartbeats 4000000 in
theorem fn__law_changed {fd : FuncData} (T : Tx K mg f__law_stream f__law_tree_row f__law_draw f__law_nested f__law_tree f__law_term_back f__law_terms f__law_pick f__law_names f__law_edges f__law_odd f__law_changed f_TermReader___init__ f_split_name f_TermReader_add_token f_TermReader_skip f_TermReader_close_terms f_TermReader_next_part f_TermReader_read_name f_TermReader_is_right f_parse_term f__law_alone f__law_parse_told f__law_read f__law_parsed f_law) (Fu : Fun K "_law_changed" "_law_changed" st__law_changed f__law_changed fd) (G__law_draw : FnD true P w K mg base 1 f__law_draw F__law_draw) (G__law_pick : FnD true P w K mg base 2 f__law_pick F__law_pick) : FnD true P w K mg base 3 f__law_changed F__law_changed := by
  have nd := (sc__law_changed).nd
  exact fnD_of Fu sc__law_changed (Fu.binds fun _ _ _ _ _ _ us hl => match us, hl with | [_, _], _ => rfl) cl_drop fun cdv A outer s H E hr hG tk po =>
    (dss_cons (ds_par2 2 3 rfl nd (da_cons (de_callD G__law_draw (hr.mono (by decide)) hG tk T.mg__law_draw T.kp__law_draw (da_cons (de_var 0) (da_cons (de_op or_add k_add (de_callB c_len k_len T.n_len (by decide +kernel) (da_cons (de_var 1) da_nil)) de_int) da_nil))) (da_cons (de_callD G__law_draw (hr.mono (by decide)) hG tk T.mg__law_draw T.kp__law_draw (da_cons (de_var 0) (da_cons de_int da_nil))) da_nil)))
    (dss_cons (ds_set 4 nd (de_callD G__law_pick (hr.mono (by decide)) hG tk T.mg__law_pick T.kp__law_pick (da_cons (de_var 0) (da_cons de_str da_nil))))
    (dss_cons (ds_if (dt_cmp op_lt k_lt (de_var 3) de_int (nomark _)) (dss_one (ds_ret (de_op or_add k_add (de_op or_add k_add (de_sl mk_fl (de_var 1) do_none (do_some (de_var 2))) (de_var 4)) (de_sl mk_fl (de_var 1) (do_some (de_op or_add k_add (de_var 2) (de_var 3))) do_none)))) dss_nil)
    (dss_cons (ds_if (dt_cmp op_lt k_lt (de_var 3) de_int (nomark _)) (dss_one (ds_ret (de_op or_add k_add (de_sl mk_fl (de_var 1) do_none (do_some (de_var 2))) (de_sl mk_fl (de_var 1) (do_some (de_op op_sub k_sub (de_op or_add k_add (de_var 2) (de_var 3)) de_int)) do_none)))) dss_nil)
    (dss_cons (ds_set 5 nd (de_op or_add k_add (de_op or_add k_add (de_var 2) de_int) (de_callD G__law_draw (hr.mono (by decide)) hG tk T.mg__law_draw T.kp__law_draw (da_cons (de_var 0) (da_cons de_int da_nil)))))
    (dss_cons (ds_set 6 nd (de_callD G__law_pick (hr.mono (by decide)) hG tk T.mg__law_pick T.kp__law_pick (da_cons (de_var 0) (da_cons (de_fl (da_cons de_str (da_cons de_str (da_cons de_str da_nil)))) da_nil))))
    (dss_cons (ds_set 7 nd (de_fl (da_cons (de_op or_add k_add (de_sl mk_fl (de_var 1) do_none (do_some (de_var 5))) (de_sl mk_fl (de_var 1) (do_some (de_var 2)) do_none)) (da_cons (de_op or_add k_add (de_op or_add k_add (de_var 1) de_str) (de_var 1)) (da_cons (de_op or_add k_add de_str (de_var 1)) (da_cons (de_op or_add k_add (de_op or_add k_add (de_sl mk_fl (de_var 1) do_none (do_some (de_var 2))) (de_var 6)) (de_sl mk_fl (de_var 1) (do_some (de_var 2)) do_none)) da_nil))))))
    (dss_one (ds_ret (de_ix (de_var 7) (de_op op_sub k_sub (de_var 3) de_int)))))))))))
theorem sc_TermReader___init__ : FnScope nm_TermReader___init__ ["self", "text"] (defScope st_TermReader___init__) := ⟨rfl, rfl, rfl, by decide +kernel, rfl, by decide +kernel, by decide +kernel⟩
set_option maxHeartbeats 4000000 in
theorem fn_TermReader___init__ {fd : FuncData} (T : Tx K mg f__law_stream f__law_tree_row f__law_draw f__law_nested f__law_tree f__law_term_back f__law_terms f__law_pick f__law_names f__law_edges f__law_odd f__law_changed f_TermReader___init__ f_split_name f_TermReader_add_token f_TermReader_skip f_TermReader_close_terms f_TermReader_next_part f_TermReader_read_name f_TermReader_is_right f_parse_term f__law_alone f__law_parse_told f__law_read f__law_parsed f_law) (Fu : Fun K "__init__" "TermReader.__init__" st_TermReader___init__ f_TermReader___init__ fd) (of_rest : FldOk K ocs_rest "rest") (of_row : FldOk K ocs_row "row") (of_names : FldOk K ocs_names "names") (of_opened : FldOk K ocs_opened "opened") : FnD false P w K mg base 1 f_TermReader___init__ F_TermReader___init__ := by
  have nd := (sc_TermReader___init__).nd
  exact fnD_of Fu sc_TermReader___init__ (Fu.binds fun _ _ _ _ _ _ us hl => match us, hl with | [_, _], _ => rfl) cl_keep fun cdv A outer s H E hr hG tk po =>
    (dss_cons (ds_asg (de_var 1) (dg_attr (W := (fun cls d _ H' => E cls d H')) of_rest (de_var 0)))
    (dss_cons (ds_asg (de_loc da_nil) (dg_attr (W := (fun cls d _ H' => E cls d H')) of_row (de_var 0)))
    (dss_cons (ds_asg (de_loc da_nil) (dg_attr (W := (fun cls d _ H' => E cls d H')) of_names (de_var 0)))
    (dss_one (ds_asg (de_loc da_nil) (dg_attr (W := (fun cls d _ H' => E cls d H')) of_opened (de_var 0)))))))
theorem sc_split_name : FnScope nm_split_name ["text"] (defScope st_split_name) := ⟨rfl, rfl, rfl, by decide +kernel, rfl, by decide +kernel, by decide +kernel⟩
set_option maxHeartbeats 4000000 in
theorem fn_split_name {fd : FuncData} (T : Tx K mg f__law_stream f__law_tree_row f__law_draw f__law_nested f__law_tree f__law_term_back f__law_terms f__law_pick f__law_names f__law_edges f__law_odd f__law_changed f_TermReader___init__ f_split_name f_TermReader_add_token f_TermReader_skip f_TermReader_close_terms f_TermReader_next_part f_TermReader_read_name f_TermReader_is_right f_parse_term f__law_alone f__law_parse_told f__law_read f__law_parsed f_law) (Fu : Fun K "split_name" "split_name" st_split_name f_split_name fd) (mg_LETTERS : mg "LETTERS" = some u_LETTERS) (kr_LETTERS : KRep K u_LETTERS d_LETTERS) : FnD false P w K mg base 1 f_split_name F_split_name := by
  have nd := (sc_split_name).nd
  exact fnD_of Fu sc_split_name (Fu.binds fun _ _ _ _ _ _ us hl => match us, hl with | [_], _ => rfl) cl_drop fun cdv A outer s H E hr hG tk po =>
    (dss_one (ds_for po rfl (di_enumS rfl T.n_enumerate (da_cons (de_var 0) da_nil)) (dg_tup rfl (dgs_cons (dg_name 1 nd) (dgs_cons (dg_name 2 nd) dgs_nil))) (dss_one (ds_if (dt_cmp op_notIn_str k_notInS (de_var 2) (de_glob rfl mg_LETTERS kr_LETTERS) rfl) (dss_one (ds_ret (de_tup (da_cons (de_sl mk_fl (de_var 0) do_none (do_some (de_var 1))) (da_cons (de_sl mk_fl (de_var 0) (do_some (de_var 1)) do_none) da_nil))))) dss_nil)) (dss_one (ds_ret (de_tup (da_cons (de_var 0) (da_cons de_str da_nil)))))))
theorem sc_TermReader_add_token : FnScope nm_TermReader_add_token ["self", "name", "arity"] (defScope st_TermReader_add_token) := ⟨rfl, rfl, rfl, by decide +kernel, rfl, by decide +kernel, by decide +kernel⟩
set_option maxHeartbeats 4000000 in
theorem fn_TermReader_add_token {fd : FuncData} (T : Tx K mg f__law_stream f__law_tree_row f__law_draw f__law_nested f__law_tree f__law_term_back f__law_terms f__law_pick f__law_names f__law_edges f__law_odd f__law_changed f_TermReader___init__ f_split_name f_TermReader_add_token f_TermReader_skip f_TermReader_close_terms f_TermReader_next_part f_TermReader_read_name f_TermReader_is_right f_parse_term f__law_alone f__law_parse_told f__law_read f__law_parsed f_law) (Fu : Fun K "add_token" "TermReader.add_token" st_TermReader_add_token f_TermReader_add_token fd) (of_names : FldOk K ocs_names "names") (of_row : FldOk K ocs_row "row") : FnD false P w K mg base 1 f_TermReader_add_token F_TermReader_add_token := by
  have nd := (sc_TermReader_add_token).nd
  exact fnD_of Fu sc_TermReader_add_token (Fu.binds fun _ _ _ _ _ _ us hl => match us, hl with | [_, _, _], _ => rfl) cl_drop fun cdv A outer s H E hr hG tk po =>
    (dss_cons (ds_expr (de_bm PySem.F.plainAttrs_list PySem.F.slot_list_append PySem.F.type_list_append mt_append k_append chk_lst (de_fld of_names (de_var 0)) (da_cons (de_var 1) da_nil)))
    (dss_one (ds_expr (de_bm PySem.F.plainAttrs_list PySem.F.slot_list_append PySem.F.type_list_append mt_append k_append chk_lst (de_fld of_row (de_var 0)) (da_cons (de_var 2) da_nil)))))
theorem sc_TermReader_skip : FnScope nm_TermReader_skip ["self", "many"] (defScope st_TermReader_skip) := ⟨rfl, rfl, rfl, by decide +kernel, rfl, by decide +kernel, by decide +kernel⟩
set_option maxHeartbeats 4000000 in
theorem fn_TermReader_skip {fd : FuncData} (T : Tx K mg f__law_stream f__law_tree_row f__law_draw f__law_nested f__law_tree f__law_term_back f__law_terms f__law_pick f__law_names f__law_edges f__law_odd f__law_changed f_TermReader___init__ f_split_name f_TermReader_add_token f_TermReader_skip f_TermReader_close_terms f_TermReader_next_part f_TermReader_read_name f_TermReader_is_right f_parse_term f__law_alone f__law_parse_told f__law_read f__law_parsed f_law) (Fu : Fun K "skip" "TermReader.skip" st_TermReader_skip f_TermReader_skip fd) (of_rest : FldOk K ocs_rest "rest") : FnD false P w K mg base 1 f_TermReader_skip F_TermReader_skip := by
  have nd := (sc_TermReader_skip).nd
  exact fnD_of Fu sc_TermReader_skip (Fu.binds fun _ _ _ _ _ _ us hl => match us, hl with | [_, _], _ => rfl) cl_drop fun cdv A outer s H E hr hG tk po =>
    (dss_one (ds_asg (de_sl mk_fl (de_fld of_rest (de_var 0)) (do_some (de_var 1)) do_none) (dg_attr (W := (fun cls d _ H' => E cls d H')) of_rest (de_var 0))))
theorem sc_TermReader_close_terms : FnScope nm_TermReader_close_terms ["self"] (defScope st_TermReader_close_terms) := ⟨rfl, rfl, rfl, by decide +kernel, rfl, by decide +kernel, by decide +kernel⟩
set_option maxHeartbeats 4000000 in
theorem fn_TermReader_close_terms {fd : FuncData} (T : Tx K mg f__law_stream f__law_tree_row f__law_draw f__law_nested f__law_tree f__law_term_back f__law_terms f__law_pick f__law_names f__law_edges f__law_odd f__law_changed f_TermReader___init__ f_split_name f_TermReader_add_token f_TermReader_skip f_TermReader_close_terms f_TermReader_next_part f_TermReader_read_name f_TermReader_is_right f_parse_term f__law_alone f__law_parse_told f__law_read f__law_parsed f_law) (Fu : Fun K "close_terms" "TermReader.close_terms" st_TermReader_close_terms f_TermReader_close_terms fd) (G_TermReader_add_token : FnD false P w K mg base 1 f_TermReader_add_token F_TermReader_add_token) (G_TermReader_skip : FnD false P w K mg base 1 f_TermReader_skip F_TermReader_skip) {OC_TermReader : Addr} (on_TermReader : PySem.W.nsIn K mainGlobals "TermReader" = some (some (.ref OC_TermReader))) (oc_TermReader : Cls K OC_TermReader) (of_opened : FldOk K ocs_opened "opened") (of_rest : FldOk K ocs_rest "rest") (om_TermReader_add_token : Meth K OC_TermReader "add_token" f_TermReader_add_token) (om_TermReader_skip : Meth K OC_TermReader "skip" f_TermReader_skip) : FnD false P w K mg base 2 f_TermReader_close_terms F_TermReader_close_terms := by
  have nd := (sc_TermReader_close_terms).nd
  exact fnD_of Fu sc_TermReader_close_terms (Fu.binds fun _ _ _ _ _ _ us hl => match us, hl with | [_], _ => rfl) cl_drop fun cdv A outer s H E hr hG tk po =>
    (dss_one (ds_while 4000 po (dw_t (dw_and (dt_cmp (or_neY hr.units) k_neY (de_fld of_opened (de_var 0)) (de_fl da_nil) (nomark _)) (dw_and1 (dt_cmp (or_eq hr.units) k_eqD (de_sl mk_fl (de_fld of_rest (de_var 0)) do_none (do_some de_int)) de_str (nomark _))))) (dss_cons (ds_asg (de_bm0 PySem.F.plainAttrs_list PySem.F.slot_list_pop PySem.F.type_list_pop mt_pop k_pop chk_lst (de_fld of_opened (de_var 0))) (dg_sq rfl (dgs_cons (dg_name 1 nd) (dgs_cons (dg_name 2 nd) dgs_nil))))
    (dss_cons (ds_expr (de_mth (k := 1) (meth_cons on_TermReader oc_TermReader om_TermReader_add_token (G_TermReader_add_token.mono (by decide)) meth_nil) (hr.mono (by decide)) (fun z => nomatch z) tk (de_var 0) (da_cons (de_var 1) (da_cons (de_var 2) da_nil))))
    (dss_one (ds_expr (de_mth (k := 1) (meth_cons on_TermReader oc_TermReader om_TermReader_skip (G_TermReader_skip.mono (by decide)) meth_nil) (hr.mono (by decide)) (fun z => nomatch z) tk (de_var 0) (da_cons de_int da_nil))))))))
theorem sc_TermReader_next_part : FnScope nm_TermReader_next_part ["self"] (defScope st_TermReader_next_part) := ⟨rfl, rfl, rfl, by decide +kernel, rfl, by decide +kernel, by decide +kernel⟩
set_option maxHeartbeats 4000000 in
theorem fn_TermReader_next_part {fd : FuncData} (T : Tx K mg f__law_stream f__law_tree_row f__law_draw f__law_nested f__law_tree f__law_term_back f__law_terms f__law_pick f__law_names f__law_edges f__law_odd f__law_changed f_TermReader___init__ f_split_name f_TermReader_add_token f_TermReader_skip f_TermReader_close_terms f_TermReader_next_part f_TermReader_read_name f_TermReader_is_right f_parse_term f__law_alone f__law_parse_told f__law_read f__law_parsed f_law) (Fu : Fun K "next_part" "TermReader.next_part" st_TermReader_next_part f_TermReader_next_part fd) (G_TermReader_skip : FnD false P w K mg base 1 f_TermReader_skip F_TermReader_skip) {OC_TermReader : Addr} (on_TermReader : PySem.W.nsIn K mainGlobals "TermReader" = some (some (.ref OC_TermReader))) (oc_TermReader : Cls K OC_TermReader) (of_opened : FldOk K ocs_opened "opened") (of_rest : FldOk K ocs_rest "rest") (om_TermReader_skip : Meth K OC_TermReader "skip" f_TermReader_skip) : FnD false P w K mg base 2 f_TermReader_next_part F_TermReader_next_part := by
  have nd := (sc_TermReader_next_part).nd
  exact fnD_of Fu sc_TermReader_next_part (Fu.binds fun _ _ _ _ _ _ us hl => match us, hl with | [_], _ => rfl) cl_drop fun cdv A outer s H E hr hG tk po =>
    (dss_cons (ds_if (dw_t (dw_or (dt_cmp (or_eqY hr.units) k_eqY (de_fld of_opened (de_var 0)) (de_fl da_nil) (nomark _)) (dw_or1 (dt_cmp (or_ne hr.units) k_neD (de_sl mk_fl (de_fld of_rest (de_var 0)) do_none (do_some de_int)) de_str (nomark _))))) (dss_one (ds_ret de_bl)) dss_nil)
    (dss_cons (ds_asg (de_bm0 PySem.F.plainAttrs_list PySem.F.slot_list_pop PySem.F.type_list_pop mt_pop k_pop chk_lst (de_fld of_opened (de_var 0))) (dg_sq rfl (dgs_cons (dg_name 1 nd) (dgs_cons (dg_name 2 nd) dgs_nil))))
    (dss_cons (ds_expr (de_bm PySem.F.plainAttrs_list PySem.F.slot_list_append PySem.F.type_list_append mt_append k_append chk_lst (de_fld of_opened (de_var 0)) (da_cons (de_tup (da_cons (de_var 1) (da_cons (de_op or_add k_add (de_var 2) de_int) da_nil))) da_nil)))
    (dss_cons (ds_expr (de_mth (k := 1) (meth_cons on_TermReader oc_TermReader om_TermReader_skip (G_TermReader_skip.mono (by decide)) meth_nil) (hr.mono (by decide)) (fun z => nomatch z) tk (de_var 0) (da_cons de_int da_nil)))
    (dss_one (ds_ret de_bl))))))
theorem sc_TermReader_read_name : FnScope nm_TermReader_read_name ["self"] (defScope st_TermReader_read_name) := ⟨rfl, rfl, rfl, by decide +kernel, rfl, by decide +kernel, by decide +kernel⟩
set_option maxHeartbeats 4000000 in
theorem fn_TermReader_read_name {fd : FuncData} (T : Tx K mg f__law_stream f__law_tree_row f__law_draw f__law_nested f__law_tree f__law_term_back f__law_terms f__law_pick f__law_names f__law_edges f__law_odd f__law_changed f_TermReader___init__ f_split_name f_TermReader_add_token f_TermReader_skip f_TermReader_close_terms f_TermReader_next_part f_TermReader_read_name f_TermReader_is_right f_parse_term f__law_alone f__law_parse_told f__law_read f__law_parsed f_law) (Fu : Fun K "read_name" "TermReader.read_name" st_TermReader_read_name f_TermReader_read_name fd) (G_split_name : FnD false P w K mg base 1 f_split_name F_split_name) (G_TermReader_add_token : FnD false P w K mg base 1 f_TermReader_add_token F_TermReader_add_token) (G_TermReader_close_terms : FnD false P w K mg base 2 f_TermReader_close_terms F_TermReader_close_terms) (G_TermReader_next_part : FnD false P w K mg base 2 f_TermReader_next_part F_TermReader_next_part) (G_TermReader_skip : FnD false P w K mg base 1 f_TermReader_skip F_TermReader_skip) {OC_TermReader : Addr} (on_TermReader : PySem.W.nsIn K mainGlobals "TermReader" = some (some (.ref OC_TermReader))) (oc_TermReader : Cls K OC_TermReader) (of_rest : FldOk K ocs_rest "rest") (om_TermReader_add_token : Meth K OC_TermReader "add_token" f_TermReader_add_token) (om_TermReader_close_terms : Meth K OC_TermReader "close_terms" f_TermReader_close_terms) (om_TermReader_next_part : Meth K OC_TermReader "next_part" f_TermReader_next_part) (om_TermReader_skip : Meth K OC_TermReader "skip" f_TermReader_skip) (of_opened : FldOk K ocs_opened "opened") (mg_LONGEST : mg "LONGEST" = some u_LONGEST) (kr_LONGEST : KRep K u_LONGEST d_LONGEST) : FnD false P w K mg base 3 f_TermReader_read_name F_TermReader_read_name := by
  have nd := (sc_TermReader_read_name).nd
  exact fnD_of Fu sc_TermReader_read_name (Fu.binds fun _ _ _ _ _ _ us hl => match us, hl with | [_], _ => rfl) cl_drop fun cdv A outer s H E hr hG tk po =>
    (dss_cons (ds_asg (de_callD G_split_name (hr.mono (by decide)) (fun z => nomatch z) tk T.mg_split_name T.kp_split_name (da_cons (de_fld of_rest (de_var 0)) da_nil)) (dg_sq rfl (dgs_cons (dg_name 1 nd) (dgs_cons (dg_attr (W := (fun cls d _ H' => E cls d H')) of_rest (de_var 0)) dgs_nil))))
    (dss_cons (ds_if (dt_not (dt_chain op_le k_le op_le k_le de_int (de_callB c_len k_len T.n_len (by decide +kernel) (da_cons (de_var 1) da_nil)) (de_glob rfl mg_LONGEST kr_LONGEST))) (dss_one (ds_ret de_bl)) dss_nil)
    (dss_cons (ds_match (de_sl mk_fl (de_fld of_rest (de_var 0)) do_none (do_some de_int)) (dcs_text (dss_cons (ds_expr (de_mth (k := 1) (meth_cons on_TermReader oc_TermReader om_TermReader_skip (G_TermReader_skip.mono (by decide)) meth_nil) (hr.mono (by decide)) (fun z => nomatch z) tk (de_var 0) (da_cons de_int da_nil)))
    (dss_one (ds_expr (de_bm PySem.F.plainAttrs_list PySem.F.slot_list_append PySem.F.type_list_append mt_append k_append chk_lst (de_fld of_opened (de_var 0)) (da_cons (de_tup (da_cons (de_var 1) (da_cons de_int da_nil))) da_nil))))) (dcs_any (dss_cons (ds_expr (de_mth (k := 1) (meth_cons on_TermReader oc_TermReader om_TermReader_add_token (G_TermReader_add_token.mono (by decide)) meth_nil) (hr.mono (by decide)) (fun z => nomatch z) tk (de_var 0) (da_cons (de_var 1) (da_cons de_int da_nil))))
    (dss_cons (ds_expr (de_mth0 (k := 2) (meth_cons on_TermReader oc_TermReader om_TermReader_close_terms (G_TermReader_close_terms.mono (by decide)) meth_nil) (hr.mono (by decide)) (fun z => nomatch z) tk (de_var 0)))
    (dss_one (ds_ret (de_or (de_cmp (or_eq hr.units) k_eqD (de_fld of_rest (de_var 0)) de_str (nomark _)) (de_one (de_mth0 (k := 2) (meth_cons on_TermReader oc_TermReader om_TermReader_next_part (G_TermReader_next_part.mono (by decide)) meth_nil) (hr.mono (by decide)) (fun z => nomatch z) tk (de_var 0)))))))))))
    (dss_one (ds_ret de_bl)))))
theorem sc_TermReader_is_right : FnScope nm_TermReader_is_right ["self"] (defScope st_TermReader_is_right) := ⟨rfl, rfl, rfl, by decide +kernel, rfl, by decide +kernel, by decide +kernel⟩
set_option maxHeartbeats 4000000 in
theorem fn_TermReader_is_right {fd : FuncData} (T : Tx K mg f__law_stream f__law_tree_row f__law_draw f__law_nested f__law_tree f__law_term_back f__law_terms f__law_pick f__law_names f__law_edges f__law_odd f__law_changed f_TermReader___init__ f_split_name f_TermReader_add_token f_TermReader_skip f_TermReader_close_terms f_TermReader_next_part f_TermReader_read_name f_TermReader_is_right f_parse_term f__law_alone f__law_parse_told f__law_read f__law_parsed f_law) (Fu : Fun K "is_right" "TermReader.is_right" st_TermReader_is_right f_TermReader_is_right fd) (G_TermReader_read_name : FnD false P w K mg base 3 f_TermReader_read_name F_TermReader_read_name) {OC_TermReader : Addr} (on_TermReader : PySem.W.nsIn K mainGlobals "TermReader" = some (some (.ref OC_TermReader))) (oc_TermReader : Cls K OC_TermReader) (om_TermReader_read_name : Meth K OC_TermReader "read_name" f_TermReader_read_name) (of_rest : FldOk K ocs_rest "rest") (of_opened : FldOk K ocs_opened "opened") (of_row : FldOk K ocs_row "row") (mg_MAX_TOKENS : mg "MAX_TOKENS" = some u_MAX_TOKENS) (kr_MAX_TOKENS : KRep K u_MAX_TOKENS d_MAX_TOKENS) (mg_MAX_ARITY : mg "MAX_ARITY" = some u_MAX_ARITY) (kr_MAX_ARITY : KRep K u_MAX_ARITY d_MAX_ARITY) : FnD false P w K mg base 4 f_TermReader_is_right F_TermReader_is_right := by
  have nd := (sc_TermReader_is_right).nd
  exact fnD_of Fu sc_TermReader_is_right (Fu.binds fun _ _ _ _ _ _ us hl => match us, hl with | [_], _ => rfl) cl_drop fun cdv A outer s H E hr hG tk po =>
    (dss_cons (ds_while 4000 po (dt_val (de_mth0 (k := 3) (meth_cons on_TermReader oc_TermReader om_TermReader_read_name (G_TermReader_read_name.mono (by decide)) meth_nil) (hr.mono (by decide)) (fun z => nomatch z) tk (de_var 0))) (dss_one (ds_if (dt_cmp (or_eq hr.units) k_eqD (de_fld of_rest (de_var 0)) de_str (nomark _)) (dss_one (ds_ret (de_and (de_cmp (or_eqY hr.units) k_eqY (de_fld of_opened (de_var 0)) (de_fl da_nil) (nomark _)) (de_and (de_cmp op_le k_le (de_callB c_len k_len T.n_len (by decide +kernel) (da_cons (de_fld of_row (de_var 0)) da_nil)) (de_glob rfl mg_MAX_TOKENS kr_MAX_TOKENS) (nomark _)) (de_one (de_cmp op_le k_le (de_callB (c_maxT rfl) k_maxT T.n_max (by decide +kernel) (da_cons (de_fld of_row (de_var 0)) da_nil)) (de_glob rfl mg_MAX_ARITY kr_MAX_ARITY) (nomark _))))))) dss_nil)))
    (dss_one (ds_ret de_bl)))
theorem sc_parse_term : FnScope nm_parse_term ["text"] (defScope st_parse_term) := ⟨rfl, rfl, rfl, by decide +kernel, rfl, by decide +kernel, by decide +kernel⟩
set_option maxHeartbeats 4000000 in
theorem fn_parse_term {fd : FuncData} (T : Tx K mg f__law_stream f__law_tree_row f__law_draw f__law_nested f__law_tree f__law_term_back f__law_terms f__law_pick f__law_names f__law_edges f__law_odd f__law_changed f_TermReader___init__ f_split_name f_TermReader_add_token f_TermReader_skip f_TermReader_close_terms f_TermReader_next_part f_TermReader_read_name f_TermReader_is_right f_parse_term f__law_alone f__law_parse_told f__law_read f__law_parsed f_law) (Fu : Fun K "parse_term" "parse_term" st_parse_term f_parse_term fd) (G_TermReader___init__ : FnD false P w K mg base 1 f_TermReader___init__ F_TermReader___init__) (G_TermReader_is_right : FnD false P w K mg base 4 f_TermReader_is_right F_TermReader_is_right) {OC_TermReader : Addr} (on_TermReader : PySem.W.nsIn K mainGlobals "TermReader" = some (some (.ref OC_TermReader))) (oc_TermReader : Cls K OC_TermReader) (ok_TermReader : Mk K OC_TermReader f_TermReader___init__) (og_TermReader : mg "TermReader" = some (.ref OC_TermReader)) (om_TermReader_is_right : Meth K OC_TermReader "is_right" f_TermReader_is_right) (of_names : FldOk K ocs_names "names") (of_row : FldOk K ocs_row "row") {C_BadText : Addr} (T0_BadText : XCls K "BadText" C_BadText) (mc_BadText : mg "BadText" = some (.ref C_BadText)) {I_BadText : Addr} (TI_BadText : XInit K C_BadText I_BadText "BadText.__init__" "index") : FnD false P w K mg base 5 f_parse_term F_parse_term := by
  have nd := (sc_parse_term).nd
  exact fnD_of Fu sc_parse_term (Fu.binds fun _ _ _ _ _ _ us hl => match us, hl with | [_], _ => rfl) cl_drop fun cdv A outer s H E hr hG tk po =>
    (dss_cons (ds_if (dt_not (dt_val (de_callB call_isi k_isi T.n_isinstance (by decide +kernel) (da_cons (de_var 0) (da_cons (de_bty T.n_str (by decide +kernel)) da_nil))))) (dss_one (ds_raise1 rfl tk T0_BadText TI_BadText hr mc_BadText (da_cons de_non da_nil))) dss_nil)
    (dss_cons (ds_set 1 nd (de_new ok_TermReader G_TermReader___init__ (hr.mono (by decide)) tk on_TermReader og_TermReader (da_cons (de_var 0) da_nil)))
    (dss_cons (ds_if (dt_not (dt_val (de_mth0 (k := 4) (meth_cons on_TermReader oc_TermReader om_TermReader_is_right (G_TermReader_is_right.mono (by decide)) meth_nil) (hr.mono (by decide)) (fun z => nomatch z) tk (de_var 1)))) (dss_one (ds_raise1 rfl tk T0_BadText TI_BadText hr mc_BadText (da_cons de_int da_nil))) dss_nil)
    (dss_one (ds_ret (de_tup (da_cons (de_callTy call_tuple_of k_tuple T.n_tuple (by decide +kernel) (da_cons (de_fld of_row (de_var 1)) da_nil)) (da_cons (de_callTy call_tuple_of k_tuple T.n_tuple (by decide +kernel) (da_cons (de_fld of_names (de_var 1)) da_nil)) da_nil))))))))
theorem sc__law_alone : FnScope nm__law_alone ["_law_error"] (defScope st__law_alone) := ⟨rfl, rfl, rfl, by decide +kernel, rfl, by decide +kernel, by decide +kernel⟩
set_option maxHeartbeats 4000000 in
theorem fn__law_alone {fd : FuncData} (T : Tx K mg f__law_stream f__law_tree_row f__law_draw f__law_nested f__law_tree f__law_term_back f__law_terms f__law_pick f__law_names f__law_edges f__law_odd f__law_changed f_TermReader___init__ f_split_name f_TermReader_add_token f_TermReader_skip f_TermReader_close_terms f_TermReader_next_part f_TermReader_read_name f_TermReader_is_right f_parse_term f__law_alone f__law_parse_told f__law_read f__law_parsed f_law) (Fu : Fun K "_law_alone" "_law_alone" st__law_alone f__law_alone fd) {C_NoRows : Addr} (T0_NoRows : XCls K "NoRows" C_NoRows) (mc_NoRows : mg "NoRows" = some (.ref C_NoRows)) {C_NoBeginning : Addr} (T0_NoBeginning : XCls K "NoBeginning" C_NoBeginning) (mc_NoBeginning : mg "NoBeginning" = some (.ref C_NoBeginning)) {C_NotReady : Addr} (T0_NotReady : XCls K "NotReady" C_NotReady) (mc_NotReady : mg "NotReady" = some (.ref C_NotReady)) {C_NoArity : Addr} (T0_NoArity : XCls K "NoArity" C_NoArity) (mc_NoArity : mg "NoArity" = some (.ref C_NoArity)) {C_BadText : Addr} (T0_BadText : XCls K "BadText" C_BadText) (mc_BadText : mg "BadText" = some (.ref C_BadText)) {C_TooLong : Addr} (T0_TooLong : XCls K "TooLong" C_TooLong) (mc_TooLong : mg "TooLong" = some (.ref C_TooLong)) {C_NoProperty : Addr} (T0_NoProperty : XCls K "NoProperty" C_NoProperty) (mc_NoProperty : mg "NoProperty" = some (.ref C_NoProperty)) {C_OtherEffect : Addr} (T0_OtherEffect : XCls K "OtherEffect" C_OtherEffect) (mc_OtherEffect : mg "OtherEffect" = some (.ref C_OtherEffect)) {C_LastToken : Addr} (T0_LastToken : XCls K "LastToken" C_LastToken) (mc_LastToken : mg "LastToken" = some (.ref C_LastToken)) {C_NoIndex : Addr} (T0_NoIndex : XCls K "NoIndex" C_NoIndex) (mc_NoIndex : mg "NoIndex" = some (.ref C_NoIndex)) {C_NoPlace : Addr} (T0_NoPlace : XCls K "NoPlace" C_NoPlace) (mc_NoPlace : mg "NoPlace" = some (.ref C_NoPlace)) {C_BadWish : Addr} (T0_BadWish : XCls K "BadWish" C_BadWish) (mc_BadWish : mg "BadWish" = some (.ref C_BadWish)) {C_RingError : Addr} (T0_RingError : XCls K "RingError" C_RingError) (mc_RingError : mg "RingError" = some (.ref C_RingError)) (TK : TabOk K xtab) : FnDH true P w K mg base 1 f__law_alone F__law_alone := by
  have nd := (sc__law_alone).nd
  exact fnDH_of Fu sc__law_alone (Fu.binds fun _ _ _ _ _ _ us hl => match us, hl with | [_], _ => rfl) cl_drop fun cdv A outer s H E hr hG tk =>
    (dss_cons (ds_set 1 nd (de_fl (da_cons (de_callB (c_isi2 TK) k_isi2 T.n_isinstance (by decide +kernel) (da_cons (de_var 0) (da_cons (de_fn rfl mc_NotReady T0_NotReady.ns) da_nil))) (da_cons (de_callB (c_isi2 TK) k_isi2 T.n_isinstance (by decide +kernel) (da_cons (de_var 0) (da_cons (de_fn rfl mc_NoBeginning T0_NoBeginning.ns) da_nil))) (da_cons (de_callB (c_isi2 TK) k_isi2 T.n_isinstance (by decide +kernel) (da_cons (de_var 0) (da_cons (de_fn rfl mc_NoRows T0_NoRows.ns) da_nil))) da_nil)))))
    (dss_cons (ds_set 1 nd (de_op or_add k_add (de_var 1) (de_fl (da_cons (de_callB (c_isi2 TK) k_isi2 T.n_isinstance (by decide +kernel) (da_cons (de_var 0) (da_cons (de_fn rfl mc_TooLong T0_TooLong.ns) da_nil))) (da_cons (de_callB (c_isi2 TK) k_isi2 T.n_isinstance (by decide +kernel) (da_cons (de_var 0) (da_cons (de_fn rfl mc_BadText T0_BadText.ns) da_nil))) (da_cons (de_callB (c_isi2 TK) k_isi2 T.n_isinstance (by decide +kernel) (da_cons (de_var 0) (da_cons (de_fn rfl mc_NoArity T0_NoArity.ns) da_nil))) da_nil))))))
    (dss_cons (ds_set 1 nd (de_op or_add k_add (de_var 1) (de_fl (da_cons (de_callB (c_isi2 TK) k_isi2 T.n_isinstance (by decide +kernel) (da_cons (de_var 0) (da_cons (de_fn rfl mc_LastToken T0_LastToken.ns) da_nil))) (da_cons (de_callB (c_isi2 TK) k_isi2 T.n_isinstance (by decide +kernel) (da_cons (de_var 0) (da_cons (de_fn rfl mc_OtherEffect T0_OtherEffect.ns) da_nil))) (da_cons (de_callB (c_isi2 TK) k_isi2 T.n_isinstance (by decide +kernel) (da_cons (de_var 0) (da_cons (de_fn rfl mc_NoProperty T0_NoProperty.ns) da_nil))) da_nil))))))
    (dss_cons (ds_set 1 nd (de_op or_add k_add (de_var 1) (de_fl (da_cons (de_callB (c_isi2 TK) k_isi2 T.n_isinstance (by decide +kernel) (da_cons (de_var 0) (da_cons (de_fn rfl mc_BadWish T0_BadWish.ns) da_nil))) (da_cons (de_callB (c_isi2 TK) k_isi2 T.n_isinstance (by decide +kernel) (da_cons (de_var 0) (da_cons (de_fn rfl mc_NoPlace T0_NoPlace.ns) da_nil))) (da_cons (de_callB (c_isi2 TK) k_isi2 T.n_isinstance (by decide +kernel) (da_cons (de_var 0) (da_cons (de_fn rfl mc_NoIndex T0_NoIndex.ns) da_nil))) da_nil))))))
    (dss_cons (ds_set 2 nd (de_and (de_callB (c_isi2 TK) k_isi2 T.n_isinstance (by decide +kernel) (da_cons (de_var 0) (da_cons (de_bty T.n_LookupError (by decide +kernel)) da_nil))) (de_one (de_not (de_callB (c_isi2 TK) k_isi2 T.n_isinstance (by decide +kernel) (da_cons (de_var 0) (da_cons (de_tup (da_cons (de_fn rfl mc_RingError T0_RingError.ns) (da_cons (de_bty T.n_ValueError (by decide +kernel)) da_nil))) da_nil)))))))
    (dss_one (ds_ret (de_and (de_cmp (or_eq hr.units) k_eqD (de_bm PySem.F.plainAttrs_list PySem.F.slot_list_count PySem.F.type_list_count (mt_cntL (Nat.lt_of_le_of_lt (Nat.add_le_add_left (by decide) _) hr.roomy)) k_cntL chk_lst (de_var 1) (da_cons de_bl da_nil)) de_int (nomark _)) (de_one (de_or (de_callB (c_isi2 TK) k_isi2 T.n_isinstance (by decide +kernel) (da_cons (de_var 0) (da_cons (de_fn rfl mc_RingError T0_RingError.ns) da_nil))) (de_one (de_var 2))))))))))))
theorem sc__law_parse_told : FnScope nm__law_parse_told ["_law_value"] (defScope st__law_parse_told) := ⟨rfl, rfl, rfl, by decide +kernel, rfl, by decide +kernel, by decide +kernel⟩
set_option maxHeartbeats 4000000 in
theorem fn__law_parse_told {fd : FuncData} (T : Tx K mg f__law_stream f__law_tree_row f__law_draw f__law_nested f__law_tree f__law_term_back f__law_terms f__law_pick f__law_names f__law_edges f__law_odd f__law_changed f_TermReader___init__ f_split_name f_TermReader_add_token f_TermReader_skip f_TermReader_close_terms f_TermReader_next_part f_TermReader_read_name f_TermReader_is_right f_parse_term f__law_alone f__law_parse_told f__law_read f__law_parsed f_law) (Fu : Fun K "_law_parse_told" "_law_parse_told" st__law_parse_told f__law_parse_told fd) (G_parse_term : FnD false P w K mg base 5 f_parse_term F_parse_term) (G__law_alone : FnDH true P w K mg base 1 f__law_alone F__law_alone) {C_RingError : Addr} (T0_RingError : XCls K "RingError" C_RingError) (mc_RingError : mg "RingError" = some (.ref C_RingError)) {C_BadText : Addr} (T0_BadText : XCls K "BadText" C_BadText) (mc_BadText : mg "BadText" = some (.ref C_BadText)) (TK : TabOk K xtab) (na_index : NoAt K xtab "index") : FnD true P w K mg base 6 f__law_parse_told F__law_parse_told := by
  have nd := (sc__law_parse_told).nd
  exact fnD_of Fu sc__law_parse_told (Fu.binds fun _ _ _ _ _ _ us hl => match us, hl with | [_], _ => rfl) cl_drop fun cdv A outer s H E hr hG tk po =>
    (dss_cons (ds_try 1 nd (xt_one TK ⟨_, ⟨rfl, by decide, .inl mc_RingError⟩, ⟨_, rfl, T0_RingError.ns⟩⟩) tk (fun W2 pn2 xe2 tk2 po => (dss_one (ds_ret (de_callD G_parse_term (hr.mono (by decide)) (fun z => nomatch z) tk2 T.mg_parse_term T.kp_parse_term (da_cons (de_var 0) da_nil))))) (fun a3 pn3 => (dss_one (ds_if (dw_t (dw_and (dt_val (de_callB (c_isi2 TK) k_isi2 T.n_isinstance (by decide +kernel) (da_cons (de_var 1) (da_cons (de_fn rfl mc_BadText T0_BadText.ns) da_nil)))) (dw_and1 (dt_val (de_callDH G__law_alone (roomH_m hr (by decide)) hG takes0 T.mg__law_alone T.kp__law_alone (da_cons (de_var 1) da_nil)))))) (dss_one (ds_ret (de_fl (da_cons (de_atX TK na_index (de_var 1)) da_nil)))) dss_nil))))
    (dss_one (ds_ret de_str)))
theorem sc__law_read : FnScope nm__law_read ["_law_text", "_law_spot"] (defScope st__law_read) := ⟨rfl, rfl, rfl, by decide +kernel, rfl, by decide +kernel, by decide +kernel⟩
set_option maxHeartbeats 4000000 in
theorem fn__law_read {fd : FuncData} (T : Tx K mg f__law_stream f__law_tree_row f__law_draw f__law_nested f__law_tree f__law_term_back f__law_terms f__law_pick f__law_names f__law_edges f__law_odd f__law_changed f_TermReader___init__ f_split_name f_TermReader_add_token f_TermReader_skip f_TermReader_close_terms f_TermReader_next_part f_TermReader_read_name f_TermReader_is_right f_parse_term f__law_alone f__law_parse_told f__law_read f__law_parsed f_law) (Fu : Fun K "_law_read" "_law_read" st__law_read f__law_read fd) (n : Nat) : FnD true P w K mg base (1 + n) f__law_read (F__law_read n) := by
  induction n with
  | zero => exact fnD_stuck
  | succ n G__law_read =>
  have nd := (sc__law_read).nd
  show FnD true P w K mg base (1 + n + 1) f__law_read (fnC close 9 2 (B__law_read (F__law_read n)))
  exact fnD_of Fu sc__law_read (Fu.binds fun _ _ _ _ _ _ us hl => match us, hl with | [_, _], _ => rfl) cl_drop fun cdv A outer s H E hr hG tk po =>
    (dss_cons (ds_set 2 nd (de_var 1))
    (dss_cons (ds_while 4000 po (dw_t (dw_and (dt_cmp op_lt k_lt (de_var 2) (de_callB c_len k_len T.n_len (by decide +kernel) (da_cons (de_var 0) da_nil)) (nomark _)) (dw_and1 (dt_cmp op_in_str k_inS (de_ix (de_var 0) (de_var 2)) de_str rfl)))) (dss_one (ds_set 2 nd (de_op or_add k_add (de_var 2) de_int))))
    (dss_cons (ds_if (dt_not (dt_chain op_le k_le op_le k_le de_int (de_op op_sub k_sub (de_var 2) (de_var 1)) de_int)) (dss_one (ds_ret (de_fl da_nil))) dss_nil)
    (dss_cons (ds_if (dt_cmp (or_ne hr.units) k_neD (de_sl mk_fl (de_var 0) (do_some (de_var 2)) (do_some (de_op or_add k_add (de_var 2) de_int))) de_str (nomark _)) (dss_one (ds_ret (de_fl (da_cons (de_tup (da_cons de_int da_nil)) (da_cons (de_tup (da_cons (de_sl mk_fl (de_var 0) (do_some (de_var 1)) (do_some (de_var 2))) da_nil)) (da_cons (de_var 2) da_nil)))))) dss_nil)
    (dss_cons (ds_asg (de_tup (da_cons (de_tup da_nil) (da_cons (de_tup da_nil) (da_cons de_int (da_cons (de_op or_add k_add (de_var 2) de_int) (da_cons de_bl da_nil)))))) (dg_tup rfl (dgs_cons (dg_name 3 nd) (dgs_cons (dg_name 4 nd) (dgs_cons (dg_name 5 nd) (dgs_cons (dg_name 6 nd) (dgs_cons (dg_name 7 nd) dgs_nil)))))))
    (dss_cons (ds_while 4000 po (dt_val (de_var 7)) (dss_cons (ds_set 8 nd (de_callD G__law_read (hr.mono (by omega)) hG tk T.mg__law_read T.kp__law_read (da_cons (de_var 0) (da_cons (de_var 6) da_nil))))
    (dss_cons (ds_if (dt_cmp (or_eqY hr.units) k_eqY (de_var 8) (de_fl da_nil) (nomark _)) (dss_one (ds_ret (de_fl da_nil))) dss_nil)
    (dss_cons (ds_par3 3 4 5 rfl nd (da_cons (de_op or_add k_add (de_var 3) (de_ix (de_var 8) de_int)) (da_cons (de_op or_add k_add (de_var 4) (de_ix (de_var 8) de_int)) (da_cons (de_op or_add k_add (de_var 5) de_int) da_nil))))
    (dss_cons (ds_set 7 nd (de_cmp (or_eq hr.units) k_eqD (de_sl mk_fl (de_var 0) (do_some (de_ix (de_var 8) de_int)) (do_some (de_op or_add k_add (de_ix (de_var 8) de_int) de_int))) de_str (nomark _)))
    (dss_one (ds_set 6 nd (de_op or_add k_add (de_ix (de_var 8) de_int) (de_op or_mulT k_mulT de_int (de_callTy call_int1 k_int T.n_int (by decide +kernel) (da_cons (de_var 7) da_nil)))))))))))
    (dss_cons (ds_if (dt_cmp (or_ne hr.units) k_neD (de_sl mk_fl (de_var 0) (do_some (de_var 6)) (do_some (de_op or_add k_add (de_var 6) de_int))) de_str (nomark _)) (dss_one (ds_ret (de_fl da_nil))) dss_nil)
    (dss_one (ds_ret (de_fl (da_cons (de_op or_add k_add (de_var 3) (de_tup (da_cons (de_var 5) da_nil))) (da_cons (de_op or_add k_add (de_var 4) (de_tup (da_cons (de_sl mk_fl (de_var 0) (do_some (de_var 1)) (do_some (de_var 2))) da_nil))) (da_cons (de_op or_add k_add (de_var 6) de_int) da_nil)))))))))))))
theorem sc__law_parsed : FnScope nm__law_parsed ["_law_value"] (defScope st__law_parsed) := ⟨rfl, rfl, rfl, by decide +kernel, rfl, by decide +kernel, by decide +kernel⟩
set_option maxHeartbeats 4000000 in
theorem fn__law_parsed {fd : FuncData} (T : Tx K mg f__law_stream f__law_tree_row f__law_draw f__law_nested f__law_tree f__law_term_back f__law_terms f__law_pick f__law_names f__law_edges f__law_odd f__law_changed f_TermReader___init__ f_split_name f_TermReader_add_token f_TermReader_skip f_TermReader_close_terms f_TermReader_next_part f_TermReader_read_name f_TermReader_is_right f_parse_term f__law_alone f__law_parse_told f__law_read f__law_parsed f_law) (Fu : Fun K "_law_parsed" "_law_parsed" st__law_parsed f__law_parsed fd) (G__law_read : FnD true P w K mg base 131 f__law_read (F__law_read 130)) : FnD true P w K mg base 132 f__law_parsed F__law_parsed := by
  have nd := (sc__law_parsed).nd
  exact fnD_of Fu sc__law_parsed (Fu.binds fun _ _ _ _ _ _ us hl => match us, hl with | [_], _ => rfl) cl_drop fun cdv A outer s H E hr hG tk po =>
    (dss_cons (ds_if (dt_not (dt_val (de_callB call_isi k_isi T.n_isinstance (by decide +kernel) (da_cons (de_var 0) (da_cons (de_bty T.n_str (by decide +kernel)) da_nil))))) (dss_one (ds_ret (de_fl (da_cons de_non da_nil)))) dss_nil)
    (dss_cons (ds_set 1 nd (de_callD G__law_read (hr.mono (by decide)) hG tk T.mg__law_read T.kp__law_read (da_cons (de_var 0) (da_cons de_int da_nil))))
    (dss_cons (ds_if (dw_t (dw_or (dt_cmp (or_eqY hr.units) k_eqY (de_var 1) (de_fl da_nil) (nomark _)) (dw_or (dt_cmp (or_ne hr.units) k_neD (de_ix (de_var 1) de_int) (de_callB c_len k_len T.n_len (by decide +kernel) (da_cons (de_var 0) da_nil)) (nomark _)) (dw_or (dt_cmp op_gt k_gt (de_callB c_len k_len T.n_len (by decide +kernel) (da_cons (de_ix (de_var 1) de_int) da_nil)) de_int (nomark _)) (dw_or1 (dt_cmp op_gt k_gt (de_callB (c_maxT rfl) k_maxT T.n_max (by decide +kernel) (da_cons (de_ix (de_var 1) de_int) da_nil)) de_int (nomark _))))))) (dss_one (ds_ret (de_fl (da_cons de_int da_nil)))) dss_nil)
    (dss_one (ds_ret (de_tup (da_cons (de_ix (de_var 1) de_int) (da_cons (de_ix (de_var 1) de_int) da_nil))))))))
theorem sc_law : FnScope nm_law ["_law_script"] (defScope st_law) := ⟨rfl, rfl, rfl, by decide +kernel, rfl, by decide +kernel, by decide +kernel⟩
set_option maxHeartbeats 4000000 in
theorem fn_law {fd : FuncData} (T : Tx K mg f__law_stream f__law_tree_row f__law_draw f__law_nested f__law_tree f__law_term_back f__law_terms f__law_pick f__law_names f__law_edges f__law_odd f__law_changed f_TermReader___init__ f_split_name f_TermReader_add_token f_TermReader_skip f_TermReader_close_terms f_TermReader_next_part f_TermReader_read_name f_TermReader_is_right f_parse_term f__law_alone f__law_parse_told f__law_read f__law_parsed f_law) (Fu : Fun K "law" "law" st_law f_law fd) (G__law_stream : FnD true P w K mg base 1 f__law_stream F__law_stream) (G__law_tree_row : FnD true P w K mg base 41 f__law_tree_row (F__law_tree_row 40)) (G__law_tree : FnD true P w K mg base 42 f__law_tree F__law_tree) (G__law_terms : FnD true P w K mg base 42 f__law_terms F__law_terms) (G__law_names : FnD true P w K mg base 3 f__law_names F__law_names) (G__law_edges : FnD true P w K mg base 1 f__law_edges F__law_edges) (G__law_odd : FnD true P w K mg base 2 f__law_odd F__law_odd) (G__law_changed : FnD true P w K mg base 3 f__law_changed F__law_changed) (G__law_parse_told : FnD true P w K mg base 6 f__law_parse_told F__law_parse_told) (G__law_parsed : FnD true P w K mg base 132 f__law_parsed F__law_parsed) (hsys : ∃ o, base.get? sysModules = some o) : FnD true P w K mg base 133 f_law F_law := by
  have nd := (sc_law).nd
  exact fnD_of Fu sc_law (Fu.binds fun _ _ _ _ _ _ us hl => match us, hl with | [_], _ => rfl) cl_drop fun cdv A outer s H E hr hG tk po =>
    (dss_cons (ds_set 1 nd (de_callD G__law_stream (hr.mono (by decide)) hG tk T.mg__law_stream T.kp__law_stream (da_cons (de_var 0) da_nil)))
    (dss_cons (ds_for po rfl (di_range1 rfl T.n_range (da_cons de_int da_nil)) (dg_name 2 nd) (dss_cons (ds_set 3 nd (de_callD G__law_tree_row (hr.mono (by decide)) hG tk T.mg__law_tree_row T.kp__law_tree_row (da_cons (de_callD G__law_tree (hr.mono (by decide)) hG tk T.mg__law_tree T.kp__law_tree (da_cons (de_var 1) (da_cons de_int da_nil))) da_nil)))
    (dss_cons (ds_set 4 nd (de_ix (de_callD G__law_terms (hr.mono (by decide)) hG tk T.mg__law_terms T.kp__law_terms (da_cons (de_var 3) (da_cons (de_callD G__law_names (hr.mono (by decide)) hG tk T.mg__law_names T.kp__law_names (da_cons (de_var 1) (da_cons (de_callB c_len k_len T.n_len (by decide +kernel) (da_cons (de_var 3) da_nil)) da_nil))) da_nil))) de_int))
    (dss_cons (ds_set 5 nd (de_op or_add k_add (de_callD0 G__law_edges (hr.mono (by decide)) hG tk T.mg__law_edges T.kp__law_edges) (de_fl (da_cons (de_callD G__law_odd (hr.mono (by decide)) hG tk T.mg__law_odd T.kp__law_odd (da_cons (de_var 1) da_nil)) (da_cons (de_tup (da_cons (de_var 4) da_nil)) (da_cons (de_fl (da_cons (de_var 4) da_nil)) (da_cons (de_op or_add k_add (de_var 4) de_str) da_nil)))))))
    (dss_cons (ds_for po rfl (di_range1 rfl T.n_range (da_cons de_int da_nil)) (dg_name 6 nd) (dss_cons (ds_set 7 nd (de_callD G__law_changed (hr.mono (by decide)) hG tk T.mg__law_changed T.kp__law_changed (da_cons (de_var 1) (da_cons (de_var 4) da_nil))))
    (dss_one (ds_set 5 nd (de_op or_add k_add (de_var 5) (de_fl (da_cons (de_var 7) (da_cons (de_callD G__law_changed (hr.mono (by decide)) hG tk T.mg__law_changed T.kp__law_changed (da_cons (de_var 1) (da_cons (de_var 7) da_nil))) da_nil))))))) dss_nil)
    (dss_one (ds_for po rfl (di_seq (de_var 5)) (dg_name 8 nd) (dss_one (ds_if (dt_cmp (or_ne hr.units) k_neD (de_callB (c_repr hr (hG rfl) hsys) k_repr T.n_repr (by decide +kernel) (da_cons (de_callD G__law_parse_told (hr.mono (by decide)) hG tk T.mg__law_parse_told T.kp__law_parse_told (da_cons (de_var 8) da_nil)) da_nil)) (de_callB (c_repr hr (hG rfl) hsys) k_repr T.n_repr (by decide +kernel) (da_cons (de_callD G__law_parsed (hr.mono (by decide)) hG tk T.mg__law_parsed T.kp__law_parsed (da_cons (de_var 8) da_nil)) da_nil)) (nomark _)) (dss_one (ds_ret de_bl)) dss_nil)) dss_nil)))))) dss_nil)
    (dss_cons (ds_set 9 nd (de_fl (da_cons (de_op or_add k_add (de_op or_add k_add (de_op op_mulS k_mulS de_str de_int) de_str) (de_op op_mulS k_mulS de_str de_int)) (da_cons (de_op op_mulS k_mulS de_str de_int) (da_cons (de_op or_add k_add de_str (de_op op_mulS k_mulS de_str de_int)) (da_cons (de_op op_mulS k_mulS de_str de_int) da_nil))))))
    (dss_one (ds_ret (de_cmp (or_eq hr.units) k_eqD (de_callB (c_repr hr (hG rfl) hsys) k_repr T.n_repr (by decide +kernel) (da_cons (de_lc (own := [("_law_text", 4)]) fin_fl (ct_name 4) rfl nd (di_seq (de_var 9)) (blkOk_by (own := [("_law_text", 4)]) (N := nm_law) (sc := defScope st_law) (by decide +kernel)) (fun _ _ _ _ _ => pg_name (i := 4) nd rfl (Or.inl rfl)) (fun _ _ _ _ _ => dts_nil) (fun _ _ _ _ _ => (de_callD G__law_parse_told (hr.mono (by decide)) hG takes0 T.mg__law_parse_told T.kp__law_parse_told (da_cons (de_var 4) da_nil)))) da_nil)) (de_callB (c_repr hr (hG rfl) hsys) k_repr T.n_repr (by decide +kernel) (da_cons (de_op or_mulT k_mulT (de_fl (da_cons (de_fl (da_cons de_int da_nil)) da_nil)) de_int) da_nil)) (nomark _)))))))
end
theorem all_mk {l : PySem.W.OpenLaw} {w : World} {K : PySem.W.Frag} {h : Heap} {mg : Str → Option Value} {fa f__law_stream f__law_tree_row f__law_draw f__law_nested f__law_tree f__law_term_back f__law_terms f__law_pick f__law_names f__law_edges f__law_odd f__law_changed f_TermReader___init__ f_split_name f_TermReader_add_token f_TermReader_skip f_TermReader_close_terms f_TermReader_next_part f_TermReader_read_name f_TermReader_is_right f_parse_term f__law_alone f__law_parse_told f__law_read f__law_parsed f_law : Addr} (X : K.In h) (G : h.Ns mainGlobals mg) (hfa : mg "law" = some (.ref fa))
    {od__law_stream an__law_stream : Option Addr} {sl__law_stream : Array (Option Value)} {oc__law_stream kV__law_stream dc__law_stream pm__law_stream cd__law_stream ct__law_stream : Value}
    {od__law_tree_row an__law_tree_row : Option Addr} {sl__law_tree_row : Array (Option Value)} {oc__law_tree_row kV__law_tree_row dc__law_tree_row pm__law_tree_row cd__law_tree_row ct__law_tree_row : Value}
    {od__law_draw an__law_draw : Option Addr} {sl__law_draw : Array (Option Value)} {oc__law_draw kV__law_draw dc__law_draw pm__law_draw cd__law_draw ct__law_draw : Value}
    {od__law_nested an__law_nested : Option Addr} {sl__law_nested : Array (Option Value)} {oc__law_nested kV__law_nested dc__law_nested pm__law_nested cd__law_nested ct__law_nested : Value}
    {od__law_tree an__law_tree : Option Addr} {sl__law_tree : Array (Option Value)} {oc__law_tree kV__law_tree dc__law_tree pm__law_tree cd__law_tree ct__law_tree : Value}
    {od__law_term_back an__law_term_back : Option Addr} {sl__law_term_back : Array (Option Value)} {oc__law_term_back kV__law_term_back dc__law_term_back pm__law_term_back cd__law_term_back ct__law_term_back : Value}
    {od__law_terms an__law_terms : Option Addr} {sl__law_terms : Array (Option Value)} {oc__law_terms kV__law_terms dc__law_terms pm__law_terms cd__law_terms ct__law_terms : Value}
    {od__law_pick an__law_pick : Option Addr} {sl__law_pick : Array (Option Value)} {oc__law_pick kV__law_pick dc__law_pick pm__law_pick cd__law_pick ct__law_pick : Value}
    {od__law_names an__law_names : Option Addr} {sl__law_names : Array (Option Value)} {oc__law_names kV__law_names dc__law_names pm__law_names cd__law_names ct__law_names : Value}
    {od__law_edges an__law_edges : Option Addr} {sl__law_edges : Array (Option Value)} {oc__law_edges kV__law_edges dc__law_edges pm__law_edges cd__law_edges ct__law_edges : Value}
    {od__law_odd an__law_odd : Option Addr} {sl__law_odd : Array (Option Value)} {oc__law_odd kV__law_odd dc__law_odd pm__law_odd cd__law_odd ct__law_odd : Value}
    {od__law_changed an__law_changed : Option Addr} {sl__law_changed : Array (Option Value)} {oc__law_changed kV__law_changed dc__law_changed pm__law_changed cd__law_changed ct__law_changed : Value}
    {od_TermReader___init__ an_TermReader___init__ : Option Addr} {sl_TermReader___init__ : Array (Option Value)} {oc_TermReader___init__ kV_TermReader___init__ dc_TermReader___init__ pm_TermReader___init__ cd_TermReader___init__ ct_TermReader___init__ : Value}
    {od_split_name an_split_name : Option Addr} {sl_split_name : Array (Option Value)} {oc_split_name kV_split_name dc_split_name pm_split_name cd_split_name ct_split_name : Value}
    {od_TermReader_add_token an_TermReader_add_token : Option Addr} {sl_TermReader_add_token : Array (Option Value)} {oc_TermReader_add_token kV_TermReader_add_token dc_TermReader_add_token pm_TermReader_add_token cd_TermReader_add_token ct_TermReader_add_token : Value}
    {od_TermReader_skip an_TermReader_skip : Option Addr} {sl_TermReader_skip : Array (Option Value)} {oc_TermReader_skip kV_TermReader_skip dc_TermReader_skip pm_TermReader_skip cd_TermReader_skip ct_TermReader_skip : Value}
    {od_TermReader_close_terms an_TermReader_close_terms : Option Addr} {sl_TermReader_close_terms : Array (Option Value)} {oc_TermReader_close_terms kV_TermReader_close_terms dc_TermReader_close_terms pm_TermReader_close_terms cd_TermReader_close_terms ct_TermReader_close_terms : Value}
    {od_TermReader_next_part an_TermReader_next_part : Option Addr} {sl_TermReader_next_part : Array (Option Value)} {oc_TermReader_next_part kV_TermReader_next_part dc_TermReader_next_part pm_TermReader_next_part cd_TermReader_next_part ct_TermReader_next_part : Value}
    {od_TermReader_read_name an_TermReader_read_name : Option Addr} {sl_TermReader_read_name : Array (Option Value)} {oc_TermReader_read_name kV_TermReader_read_name dc_TermReader_read_name pm_TermReader_read_name cd_TermReader_read_name ct_TermReader_read_name : Value}
    {od_TermReader_is_right an_TermReader_is_right : Option Addr} {sl_TermReader_is_right : Array (Option Value)} {oc_TermReader_is_right kV_TermReader_is_right dc_TermReader_is_right pm_TermReader_is_right cd_TermReader_is_right ct_TermReader_is_right : Value}
    {od_parse_term an_parse_term : Option Addr} {sl_parse_term : Array (Option Value)} {oc_parse_term kV_parse_term dc_parse_term pm_parse_term cd_parse_term ct_parse_term : Value}
    {od__law_alone an__law_alone : Option Addr} {sl__law_alone : Array (Option Value)} {oc__law_alone kV__law_alone dc__law_alone pm__law_alone cd__law_alone ct__law_alone : Value}
    {od__law_parse_told an__law_parse_told : Option Addr} {sl__law_parse_told : Array (Option Value)} {oc__law_parse_told kV__law_parse_told dc__law_parse_told pm__law_parse_told cd__law_parse_told ct__law_parse_told : Value}
    {od__law_read an__law_read : Option Addr} {sl__law_read : Array (Option Value)} {oc__law_read kV__law_read dc__law_read pm__law_read cd__law_read ct__law_read : Value}
    {od__law_parsed an__law_parsed : Option Addr} {sl__law_parsed : Array (Option Value)} {oc__law_parsed kV__law_parsed dc__law_parsed pm__law_parsed cd__law_parsed ct__law_parsed : Value}
    {od_law an_law : Option Addr} {sl_law : Array (Option Value)} {oc_law kV_law dc_law pm_law cd_law ct_law : Value}
    {tk_MAX_TOKENS : Tok}
    {tk_MAX_ARITY : Tok}
    {tk_LONGEST : Tok}
    {tk_LETTERS : Tok}
    {OC_TermReader : Addr}
    {C_RingError : Addr}
    {C_NotReady : Addr}
    {C_NoBeginning : Addr}
    {C_NoRows : Addr}
    {C_NoArity : Addr}
    {C_TooLong : Addr}
    {C_LastToken : Addr}
    {C_OtherEffect : Addr}
    {C_NoProperty : Addr}
    {C_BadWish : Addr}
    {C_BadText : Addr}
    {I_BadText N_BadText : Addr} {nm_BadText q_BadText : Str} {bs_BadText bm_BadText sub_BadText : List Value} {sn_BadText : List Str} {ab_BadText : Bool} {col_BadText : Option Bool} {dd_BadText : Option Addr} {k0_BadText k1_BadText k2_BadText k3_BadText k5_BadText : Option Value}
    {io_BadText ic_BadText it_BadText id_BadText ip_BadText : Value} {iq_BadText ia_BadText : Option Addr} {is_BadText : Array (Option Value)} {p1_BadText p2_BadText q1_BadText q2_BadText q3_BadText q4_BadText : Pos}
    {C_NoPlace : Addr}
    {C_NoIndex : Addr}
    (on_TermReader : PySem.W.nsIn K mainGlobals "TermReader" = some (some (.ref OC_TermReader)))
    (o1_TermReader : PySem.W.plainGet K OC_TermReader Str.empty = true)
    (o2_TermReader : PySem.W.hasDictIn K OC_TermReader = true)
    (o3_TermReader : PySem.W.plainOver K OC_TermReader = true)
    (o4_TermReader : PySem.W.findIn K (.ref OC_TermReader) "__setattr__" = some (some (.builtin "object.__setattr__")))
    (o5_TermReader : PySem.W.makesIn K OC_TermReader = true) (o6_TermReader : PySem.W.keepIn K (.ref OC_TermReader) = true)
    (of_TermReader_rest : PySem.W.findIn K (.ref OC_TermReader) "rest" = some none)
    (of_TermReader_row : PySem.W.findIn K (.ref OC_TermReader) "row" = some none)
    (of_TermReader_names : PySem.W.findIn K (.ref OC_TermReader) "names" = some none)
    (of_TermReader_opened : PySem.W.findIn K (.ref OC_TermReader) "opened" = some none)
    (om_TermReader_add_token : PySem.W.findIn K (.ref OC_TermReader) "add_token" = some (some (.ref f_TermReader_add_token)))
    (om_TermReader_skip : PySem.W.findIn K (.ref OC_TermReader) "skip" = some (some (.ref f_TermReader_skip)))
    (om_TermReader_close_terms : PySem.W.findIn K (.ref OC_TermReader) "close_terms" = some (some (.ref f_TermReader_close_terms)))
    (om_TermReader_next_part : PySem.W.findIn K (.ref OC_TermReader) "next_part" = some (some (.ref f_TermReader_next_part)))
    (om_TermReader_read_name : PySem.W.findIn K (.ref OC_TermReader) "read_name" = some (some (.ref f_TermReader_read_name)))
    (oi_TermReader : PySem.W.findIn K (.ref OC_TermReader) "__init__" = some (some (.ref f_TermReader___init__)))
    (om_TermReader_is_right : PySem.W.findIn K (.ref OC_TermReader) "is_right" = some (some (.ref f_TermReader_is_right)))
    (a__law_stream : PySem.W.nsIn K mainGlobals "_law_stream" = some (some (.ref f__law_stream)))
    (l__law_stream : K.lookup f__law_stream = some ⟨oc__law_stream, od__law_stream, .func (PySem.W.fnOf "_law_stream" "_law_stream" (defArgs st__law_stream) (defBody st__law_stream) (defScope st__law_stream) .none kV__law_stream dc__law_stream pm__law_stream an__law_stream cd__law_stream ct__law_stream), sl__law_stream⟩)
    (c__law_stream : PySem.W.codeIn K cd__law_stream "_law_stream" = true)
    (k__law_stream : PySem.W.keepIn K (.ref f__law_stream) = true)
    (a__law_tree_row : PySem.W.nsIn K mainGlobals "_law_tree_row" = some (some (.ref f__law_tree_row)))
    (l__law_tree_row : K.lookup f__law_tree_row = some ⟨oc__law_tree_row, od__law_tree_row, .func (PySem.W.fnOf "_law_tree_row" "_law_tree_row" (defArgs st__law_tree_row) (defBody st__law_tree_row) (defScope st__law_tree_row) .none kV__law_tree_row dc__law_tree_row pm__law_tree_row an__law_tree_row cd__law_tree_row ct__law_tree_row), sl__law_tree_row⟩)
    (c__law_tree_row : PySem.W.codeIn K cd__law_tree_row "_law_tree_row" = true)
    (k__law_tree_row : PySem.W.keepIn K (.ref f__law_tree_row) = true)
    (a__law_draw : PySem.W.nsIn K mainGlobals "_law_draw" = some (some (.ref f__law_draw)))
    (l__law_draw : K.lookup f__law_draw = some ⟨oc__law_draw, od__law_draw, .func (PySem.W.fnOf "_law_draw" "_law_draw" (defArgs st__law_draw) (defBody st__law_draw) (defScope st__law_draw) .none kV__law_draw dc__law_draw pm__law_draw an__law_draw cd__law_draw ct__law_draw), sl__law_draw⟩)
    (c__law_draw : PySem.W.codeIn K cd__law_draw "_law_draw" = true)
    (k__law_draw : PySem.W.keepIn K (.ref f__law_draw) = true)
    (a__law_nested : PySem.W.nsIn K mainGlobals "_law_nested" = some (some (.ref f__law_nested)))
    (l__law_nested : K.lookup f__law_nested = some ⟨oc__law_nested, od__law_nested, .func (PySem.W.fnOf "_law_nested" "_law_nested" (defArgs st__law_nested) (defBody st__law_nested) (defScope st__law_nested) .none kV__law_nested dc__law_nested pm__law_nested an__law_nested cd__law_nested ct__law_nested), sl__law_nested⟩)
    (c__law_nested : PySem.W.codeIn K cd__law_nested "_law_nested" = true)
    (k__law_nested : PySem.W.keepIn K (.ref f__law_nested) = true)
    (a__law_tree : PySem.W.nsIn K mainGlobals "_law_tree" = some (some (.ref f__law_tree)))
    (l__law_tree : K.lookup f__law_tree = some ⟨oc__law_tree, od__law_tree, .func (PySem.W.fnOf "_law_tree" "_law_tree" (defArgs st__law_tree) (defBody st__law_tree) (defScope st__law_tree) .none kV__law_tree dc__law_tree pm__law_tree an__law_tree cd__law_tree ct__law_tree), sl__law_tree⟩)
    (c__law_tree : PySem.W.codeIn K cd__law_tree "_law_tree" = true)
    (k__law_tree : PySem.W.keepIn K (.ref f__law_tree) = true)
    (a__law_term_back : PySem.W.nsIn K mainGlobals "_law_term_back" = some (some (.ref f__law_term_back)))
    (l__law_term_back : K.lookup f__law_term_back = some ⟨oc__law_term_back, od__law_term_back, .func (PySem.W.fnOf "_law_term_back" "_law_term_back" (defArgs st__law_term_back) (defBody st__law_term_back) (defScope st__law_term_back) .none kV__law_term_back dc__law_term_back pm__law_term_back an__law_term_back cd__law_term_back ct__law_term_back), sl__law_term_back⟩)
    (c__law_term_back : PySem.W.codeIn K cd__law_term_back "_law_term_back" = true)
    (k__law_term_back : PySem.W.keepIn K (.ref f__law_term_back) = true)
    (a__law_terms : PySem.W.nsIn K mainGlobals "_law_terms" = some (some (.ref f__law_terms)))
    (l__law_terms : K.lookup f__law_terms = some ⟨oc__law_terms, od__law_terms, .func (PySem.W.fnOf "_law_terms" "_law_terms" (defArgs st__law_terms) (defBody st__law_terms) (defScope st__law_terms) .none kV__law_terms dc__law_terms pm__law_terms an__law_terms cd__law_terms ct__law_terms), sl__law_terms⟩)
    (c__law_terms : PySem.W.codeIn K cd__law_terms "_law_terms" = true)
    (k__law_terms : PySem.W.keepIn K (.ref f__law_terms) = true)
    (a__law_pick : PySem.W.nsIn K mainGlobals "_law_pick" = some (some (.ref f__law_pick)))
    (l__law_pick : K.lookup f__law_pick = some ⟨oc__law_pick, od__law_pick, .func (PySem.W.fnOf "_law_pick" "_law_pick" (defArgs st__law_pick) (defBody st__law_pick) (defScope st__law_pick) .none kV__law_pick dc__law_pick pm__law_pick an__law_pick cd__law_pick ct__law_pick), sl__law_pick⟩)
    (c__law_pick : PySem.W.codeIn K cd__law_pick "_law_pick" = true)
    (k__law_pick : PySem.W.keepIn K (.ref f__law_pick) = true)
    (a__law_names : PySem.W.nsIn K mainGlobals "_law_names" = some (some (.ref f__law_names)))
    (l__law_names : K.lookup f__law_names = some ⟨oc__law_names, od__law_names, .func (PySem.W.fnOf "_law_names" "_law_names" (defArgs st__law_names) (defBody st__law_names) (defScope st__law_names) .none kV__law_names dc__law_names pm__law_names an__law_names cd__law_names ct__law_names), sl__law_names⟩)
    (c__law_names : PySem.W.codeIn K cd__law_names "_law_names" = true)
    (k__law_names : PySem.W.keepIn K (.ref f__law_names) = true)
    (a__law_edges : PySem.W.nsIn K mainGlobals "_law_edges" = some (some (.ref f__law_edges)))
    (l__law_edges : K.lookup f__law_edges = some ⟨oc__law_edges, od__law_edges, .func (PySem.W.fnOf "_law_edges" "_law_edges" (defArgs st__law_edges) (defBody st__law_edges) (defScope st__law_edges) .none kV__law_edges dc__law_edges pm__law_edges an__law_edges cd__law_edges ct__law_edges), sl__law_edges⟩)
    (c__law_edges : PySem.W.codeIn K cd__law_edges "_law_edges" = true)
    (k__law_edges : PySem.W.keepIn K (.ref f__law_edges) = true)
    (a__law_odd : PySem.W.nsIn K mainGlobals "_law_odd" = some (some (.ref f__law_odd)))
    (l__law_odd : K.lookup f__law_odd = some ⟨oc__law_odd, od__law_odd, .func (PySem.W.fnOf "_law_odd" "_law_odd" (defArgs st__law_odd) (defBody st__law_odd) (defScope st__law_odd) .none kV__law_odd dc__law_odd pm__law_odd an__law_odd cd__law_odd ct__law_odd), sl__law_odd⟩)
    (c__law_odd : PySem.W.codeIn K cd__law_odd "_law_odd" = true)
    (k__law_odd : PySem.W.keepIn K (.ref f__law_odd) = true)
    (a__law_changed : PySem.W.nsIn K mainGlobals "_law_changed" = some (some (.ref f__law_changed)))
    (l__law_changed : K.lookup f__law_changed = some ⟨oc__law_changed, od__law_changed, .func (PySem.W.fnOf "_law_changed" "_law_changed" (defArgs st__law_changed) (defBody st__law_changed) (defScope st__law_changed) .none kV__law_changed dc__law_changed pm__law_changed an__law_changed cd__law_changed ct__law_changed), sl__law_changed⟩)
    (c__law_changed : PySem.W.codeIn K cd__law_changed "_law_changed" = true)
    (k__law_changed : PySem.W.keepIn K (.ref f__law_changed) = true)
    (a_TermReader___init__ : PySem.W.findIn K (.ref OC_TermReader) "__init__" = some (some (.ref f_TermReader___init__)))
    (i_TermReader___init__ : PySem.W.isFn K (.ref f_TermReader___init__) = true)
    (l_TermReader___init__ : K.lookup f_TermReader___init__ = some ⟨oc_TermReader___init__, od_TermReader___init__, .func (PySem.W.fnOf "__init__" "TermReader.__init__" (defArgs st_TermReader___init__) (defBody st_TermReader___init__) (defScope st_TermReader___init__) .none kV_TermReader___init__ dc_TermReader___init__ pm_TermReader___init__ an_TermReader___init__ cd_TermReader___init__ ct_TermReader___init__), sl_TermReader___init__⟩)
    (c_TermReader___init__ : PySem.W.codeIn K cd_TermReader___init__ "TermReader.__init__" = true)
    (k_TermReader___init__ : PySem.W.keepIn K (.ref f_TermReader___init__) = true)
    (a_split_name : PySem.W.nsIn K mainGlobals "split_name" = some (some (.ref f_split_name)))
    (l_split_name : K.lookup f_split_name = some ⟨oc_split_name, od_split_name, .func (PySem.W.fnOf "split_name" "split_name" (defArgs st_split_name) (defBody st_split_name) (defScope st_split_name) .none kV_split_name dc_split_name pm_split_name an_split_name cd_split_name ct_split_name), sl_split_name⟩)
    (c_split_name : PySem.W.codeIn K cd_split_name "split_name" = true)
    (k_split_name : PySem.W.keepIn K (.ref f_split_name) = true)
    (a_TermReader_add_token : PySem.W.findIn K (.ref OC_TermReader) "add_token" = some (some (.ref f_TermReader_add_token)))
    (i_TermReader_add_token : PySem.W.isFn K (.ref f_TermReader_add_token) = true)
    (l_TermReader_add_token : K.lookup f_TermReader_add_token = some ⟨oc_TermReader_add_token, od_TermReader_add_token, .func (PySem.W.fnOf "add_token" "TermReader.add_token" (defArgs st_TermReader_add_token) (defBody st_TermReader_add_token) (defScope st_TermReader_add_token) .none kV_TermReader_add_token dc_TermReader_add_token pm_TermReader_add_token an_TermReader_add_token cd_TermReader_add_token ct_TermReader_add_token), sl_TermReader_add_token⟩)
    (c_TermReader_add_token : PySem.W.codeIn K cd_TermReader_add_token "TermReader.add_token" = true)
    (k_TermReader_add_token : PySem.W.keepIn K (.ref f_TermReader_add_token) = true)
    (a_TermReader_skip : PySem.W.findIn K (.ref OC_TermReader) "skip" = some (some (.ref f_TermReader_skip)))
    (i_TermReader_skip : PySem.W.isFn K (.ref f_TermReader_skip) = true)
    (l_TermReader_skip : K.lookup f_TermReader_skip = some ⟨oc_TermReader_skip, od_TermReader_skip, .func (PySem.W.fnOf "skip" "TermReader.skip" (defArgs st_TermReader_skip) (defBody st_TermReader_skip) (defScope st_TermReader_skip) .none kV_TermReader_skip dc_TermReader_skip pm_TermReader_skip an_TermReader_skip cd_TermReader_skip ct_TermReader_skip), sl_TermReader_skip⟩)
    (c_TermReader_skip : PySem.W.codeIn K cd_TermReader_skip "TermReader.skip" = true)
    (k_TermReader_skip : PySem.W.keepIn K (.ref f_TermReader_skip) = true)
    (a_TermReader_close_terms : PySem.W.findIn K (.ref OC_TermReader) "close_terms" = some (some (.ref f_TermReader_close_terms)))
    (i_TermReader_close_terms : PySem.W.isFn K (.ref f_TermReader_close_terms) = true)
    (l_TermReader_close_terms : K.lookup f_TermReader_close_terms = some ⟨oc_TermReader_close_terms, od_TermReader_close_terms, .func (PySem.W.fnOf "close_terms" "TermReader.close_terms" (defArgs st_TermReader_close_terms) (defBody st_TermReader_close_terms) (defScope st_TermReader_close_terms) .none kV_TermReader_close_terms dc_TermReader_close_terms pm_TermReader_close_terms an_TermReader_close_terms cd_TermReader_close_terms ct_TermReader_close_terms), sl_TermReader_close_terms⟩)
    (c_TermReader_close_terms : PySem.W.codeIn K cd_TermReader_close_terms "TermReader.close_terms" = true)
    (k_TermReader_close_terms : PySem.W.keepIn K (.ref f_TermReader_close_terms) = true)
    (a_TermReader_next_part : PySem.W.findIn K (.ref OC_TermReader) "next_part" = some (some (.ref f_TermReader_next_part)))
    (i_TermReader_next_part : PySem.W.isFn K (.ref f_TermReader_next_part) = true)
    (l_TermReader_next_part : K.lookup f_TermReader_next_part = some ⟨oc_TermReader_next_part, od_TermReader_next_part, .func (PySem.W.fnOf "next_part" "TermReader.next_part" (defArgs st_TermReader_next_part) (defBody st_TermReader_next_part) (defScope st_TermReader_next_part) .none kV_TermReader_next_part dc_TermReader_next_part pm_TermReader_next_part an_TermReader_next_part cd_TermReader_next_part ct_TermReader_next_part), sl_TermReader_next_part⟩)
    (c_TermReader_next_part : PySem.W.codeIn K cd_TermReader_next_part "TermReader.next_part" = true)
    (k_TermReader_next_part : PySem.W.keepIn K (.ref f_TermReader_next_part) = true)
    (a_TermReader_read_name : PySem.W.findIn K (.ref OC_TermReader) "read_name" = some (some (.ref f_TermReader_read_name)))
    (i_TermReader_read_name : PySem.W.isFn K (.ref f_TermReader_read_name) = true)
    (l_TermReader_read_name : K.lookup f_TermReader_read_name = some ⟨oc_TermReader_read_name, od_TermReader_read_name, .func (PySem.W.fnOf "read_name" "TermReader.read_name" (defArgs st_TermReader_read_name) (defBody st_TermReader_read_name) (defScope st_TermReader_read_name) .none kV_TermReader_read_name dc_TermReader_read_name pm_TermReader_read_name an_TermReader_read_name cd_TermReader_read_name ct_TermReader_read_name), sl_TermReader_read_name⟩)
    (c_TermReader_read_name : PySem.W.codeIn K cd_TermReader_read_name "TermReader.read_name" = true)
    (k_TermReader_read_name : PySem.W.keepIn K (.ref f_TermReader_read_name) = true)
    (a_TermReader_is_right : PySem.W.findIn K (.ref OC_TermReader) "is_right" = some (some (.ref f_TermReader_is_right)))
    (i_TermReader_is_right : PySem.W.isFn K (.ref f_TermReader_is_right) = true)
    (l_TermReader_is_right : K.lookup f_TermReader_is_right = some ⟨oc_TermReader_is_right, od_TermReader_is_right, .func (PySem.W.fnOf "is_right" "TermReader.is_right" (defArgs st_TermReader_is_right) (defBody st_TermReader_is_right) (defScope st_TermReader_is_right) .none kV_TermReader_is_right dc_TermReader_is_right pm_TermReader_is_right an_TermReader_is_right cd_TermReader_is_right ct_TermReader_is_right), sl_TermReader_is_right⟩)
    (c_TermReader_is_right : PySem.W.codeIn K cd_TermReader_is_right "TermReader.is_right" = true)
    (k_TermReader_is_right : PySem.W.keepIn K (.ref f_TermReader_is_right) = true)
    (a_parse_term : PySem.W.nsIn K mainGlobals "parse_term" = some (some (.ref f_parse_term)))
    (l_parse_term : K.lookup f_parse_term = some ⟨oc_parse_term, od_parse_term, .func (PySem.W.fnOf "parse_term" "parse_term" (defArgs st_parse_term) (defBody st_parse_term) (defScope st_parse_term) .none kV_parse_term dc_parse_term pm_parse_term an_parse_term cd_parse_term ct_parse_term), sl_parse_term⟩)
    (c_parse_term : PySem.W.codeIn K cd_parse_term "parse_term" = true)
    (k_parse_term : PySem.W.keepIn K (.ref f_parse_term) = true)
    (a__law_alone : PySem.W.nsIn K mainGlobals "_law_alone" = some (some (.ref f__law_alone)))
    (l__law_alone : K.lookup f__law_alone = some ⟨oc__law_alone, od__law_alone, .func (PySem.W.fnOf "_law_alone" "_law_alone" (defArgs st__law_alone) (defBody st__law_alone) (defScope st__law_alone) .none kV__law_alone dc__law_alone pm__law_alone an__law_alone cd__law_alone ct__law_alone), sl__law_alone⟩)
    (c__law_alone : PySem.W.codeIn K cd__law_alone "_law_alone" = true)
    (k__law_alone : PySem.W.keepIn K (.ref f__law_alone) = true)
    (a__law_parse_told : PySem.W.nsIn K mainGlobals "_law_parse_told" = some (some (.ref f__law_parse_told)))
    (l__law_parse_told : K.lookup f__law_parse_told = some ⟨oc__law_parse_told, od__law_parse_told, .func (PySem.W.fnOf "_law_parse_told" "_law_parse_told" (defArgs st__law_parse_told) (defBody st__law_parse_told) (defScope st__law_parse_told) .none kV__law_parse_told dc__law_parse_told pm__law_parse_told an__law_parse_told cd__law_parse_told ct__law_parse_told), sl__law_parse_told⟩)
    (c__law_parse_told : PySem.W.codeIn K cd__law_parse_told "_law_parse_told" = true)
    (k__law_parse_told : PySem.W.keepIn K (.ref f__law_parse_told) = true)
    (a__law_read : PySem.W.nsIn K mainGlobals "_law_read" = some (some (.ref f__law_read)))
    (l__law_read : K.lookup f__law_read = some ⟨oc__law_read, od__law_read, .func (PySem.W.fnOf "_law_read" "_law_read" (defArgs st__law_read) (defBody st__law_read) (defScope st__law_read) .none kV__law_read dc__law_read pm__law_read an__law_read cd__law_read ct__law_read), sl__law_read⟩)
    (c__law_read : PySem.W.codeIn K cd__law_read "_law_read" = true)
    (k__law_read : PySem.W.keepIn K (.ref f__law_read) = true)
    (a__law_parsed : PySem.W.nsIn K mainGlobals "_law_parsed" = some (some (.ref f__law_parsed)))
    (l__law_parsed : K.lookup f__law_parsed = some ⟨oc__law_parsed, od__law_parsed, .func (PySem.W.fnOf "_law_parsed" "_law_parsed" (defArgs st__law_parsed) (defBody st__law_parsed) (defScope st__law_parsed) .none kV__law_parsed dc__law_parsed pm__law_parsed an__law_parsed cd__law_parsed ct__law_parsed), sl__law_parsed⟩)
    (c__law_parsed : PySem.W.codeIn K cd__law_parsed "_law_parsed" = true)
    (k__law_parsed : PySem.W.keepIn K (.ref f__law_parsed) = true)
    (a_law : PySem.W.nsIn K mainGlobals "law" = some (some (.ref f_law)))
    (l_law : K.lookup f_law = some ⟨oc_law, od_law, .func (PySem.W.fnOf "law" "law" (defArgs st_law) (defBody st_law) (defScope st_law) .none kV_law dc_law pm_law an_law cd_law ct_law), sl_law⟩)
    (c_law : PySem.W.codeIn K cd_law "law" = true)
    (k_law : PySem.W.keepIn K (.ref f_law) = true)
    (a_MAX_TOKENS : PySem.W.nsIn K mainGlobals "MAX_TOKENS" = some (some (.int 24 tk_MAX_TOKENS)))
    (a_MAX_ARITY : PySem.W.nsIn K mainGlobals "MAX_ARITY" = some (some (.int 5 tk_MAX_ARITY)))
    (a_LONGEST : PySem.W.nsIn K mainGlobals "LONGEST" = some (some (.int 8 tk_LONGEST)))
    (a_LETTERS : PySem.W.nsIn K mainGlobals "LETTERS" = some (some (.str "abcdefghijklmnopqrstuvwxyz" tk_LETTERS)))
    (ca_RingError : PySem.W.nsIn K mainGlobals "RingError" = some (some (.ref C_RingError)))
    (ck_RingError : PySem.W.keepIn K (.ref C_RingError) = true)
    (ce_RingError : PySem.W.subIn K (.ref C_RingError) (.type "BaseException") = some true)
    (ct_RingError : PySem.W.typeIn K (.ref C_RingError) = some (.type "type"))
    (ca_NotReady : PySem.W.nsIn K mainGlobals "NotReady" = some (some (.ref C_NotReady)))
    (ck_NotReady : PySem.W.keepIn K (.ref C_NotReady) = true)
    (ce_NotReady : PySem.W.subIn K (.ref C_NotReady) (.type "BaseException") = some true)
    (ct_NotReady : PySem.W.typeIn K (.ref C_NotReady) = some (.type "type"))
    (ca_NoBeginning : PySem.W.nsIn K mainGlobals "NoBeginning" = some (some (.ref C_NoBeginning)))
    (ck_NoBeginning : PySem.W.keepIn K (.ref C_NoBeginning) = true)
    (ce_NoBeginning : PySem.W.subIn K (.ref C_NoBeginning) (.type "BaseException") = some true)
    (ct_NoBeginning : PySem.W.typeIn K (.ref C_NoBeginning) = some (.type "type"))
    (ca_NoRows : PySem.W.nsIn K mainGlobals "NoRows" = some (some (.ref C_NoRows)))
    (ck_NoRows : PySem.W.keepIn K (.ref C_NoRows) = true)
    (ce_NoRows : PySem.W.subIn K (.ref C_NoRows) (.type "BaseException") = some true)
    (ct_NoRows : PySem.W.typeIn K (.ref C_NoRows) = some (.type "type"))
    (ca_NoArity : PySem.W.nsIn K mainGlobals "NoArity" = some (some (.ref C_NoArity)))
    (ck_NoArity : PySem.W.keepIn K (.ref C_NoArity) = true)
    (ce_NoArity : PySem.W.subIn K (.ref C_NoArity) (.type "BaseException") = some true)
    (ct_NoArity : PySem.W.typeIn K (.ref C_NoArity) = some (.type "type"))
    (ca_TooLong : PySem.W.nsIn K mainGlobals "TooLong" = some (some (.ref C_TooLong)))
    (ck_TooLong : PySem.W.keepIn K (.ref C_TooLong) = true)
    (ce_TooLong : PySem.W.subIn K (.ref C_TooLong) (.type "BaseException") = some true)
    (ct_TooLong : PySem.W.typeIn K (.ref C_TooLong) = some (.type "type"))
    (ca_LastToken : PySem.W.nsIn K mainGlobals "LastToken" = some (some (.ref C_LastToken)))
    (ck_LastToken : PySem.W.keepIn K (.ref C_LastToken) = true)
    (ce_LastToken : PySem.W.subIn K (.ref C_LastToken) (.type "BaseException") = some true)
    (ct_LastToken : PySem.W.typeIn K (.ref C_LastToken) = some (.type "type"))
    (ca_OtherEffect : PySem.W.nsIn K mainGlobals "OtherEffect" = some (some (.ref C_OtherEffect)))
    (ck_OtherEffect : PySem.W.keepIn K (.ref C_OtherEffect) = true)
    (ce_OtherEffect : PySem.W.subIn K (.ref C_OtherEffect) (.type "BaseException") = some true)
    (ct_OtherEffect : PySem.W.typeIn K (.ref C_OtherEffect) = some (.type "type"))
    (ca_NoProperty : PySem.W.nsIn K mainGlobals "NoProperty" = some (some (.ref C_NoProperty)))
    (ck_NoProperty : PySem.W.keepIn K (.ref C_NoProperty) = true)
    (ce_NoProperty : PySem.W.subIn K (.ref C_NoProperty) (.type "BaseException") = some true)
    (ct_NoProperty : PySem.W.typeIn K (.ref C_NoProperty) = some (.type "type"))
    (ca_BadWish : PySem.W.nsIn K mainGlobals "BadWish" = some (some (.ref C_BadWish)))
    (ck_BadWish : PySem.W.keepIn K (.ref C_BadWish) = true)
    (ce_BadWish : PySem.W.subIn K (.ref C_BadWish) (.type "BaseException") = some true)
    (ct_BadWish : PySem.W.typeIn K (.ref C_BadWish) = some (.type "type"))
    (ca_BadText : PySem.W.nsIn K mainGlobals "BadText" = some (some (.ref C_BadText)))
    (ck_BadText : PySem.W.keepIn K (.ref C_BadText) = true)
    (ce_BadText : PySem.W.subIn K (.ref C_BadText) (.type "BaseException") = some true)
    (ct_BadText : PySem.W.typeIn K (.ref C_BadText) = some (.type "type"))
    (cl_BadText : K.lookup C_BadText = some (excClassObj nm_BadText q_BadText C_BadText N_BadText bs_BadText bm_BadText true sn_BadText sub_BadText ab_BadText col_BadText dd_BadText k0_BadText k1_BadText k2_BadText k3_BadText k5_BadText "ValueError.__new__"))
    (cs_BadText : PySem.W.findIn K (.ref C_BadText) "__setattr__" = some (some (.builtin "object.__setattr__")))
    (cn_BadText : PySem.W.findIn K (.ref C_BadText) "index" = some none)
    (ci_BadText : PySem.W.findIn K (.ref C_BadText) "__init__" = some (some (.ref I_BadText)))
    (cf_BadText : PySem.W.typeIn K (.ref I_BadText) = some (.type "function"))
    (cg_BadText : K.lookup I_BadText = some ⟨io_BadText, iq_BadText, .func (PySem.W.fnOf "__init__" "BadText.__init__" (iA "index" p1_BadText p2_BadText) (iB "index" q1_BadText q2_BadText q3_BadText q4_BadText) (iS "index") .none .none id_BadText ip_BadText ia_BadText ic_BadText it_BadText), is_BadText⟩)
    (cc_BadText : PySem.W.codeIn K ic_BadText "BadText.__init__" = true)
    (cm_BadText : PySem.W.excTail [.type "ValueError", .type "Exception", .type "BaseException", .type "object"] bm_BadText = true)
    (ca_NoPlace : PySem.W.nsIn K mainGlobals "NoPlace" = some (some (.ref C_NoPlace)))
    (ck_NoPlace : PySem.W.keepIn K (.ref C_NoPlace) = true)
    (ce_NoPlace : PySem.W.subIn K (.ref C_NoPlace) (.type "BaseException") = some true)
    (ct_NoPlace : PySem.W.typeIn K (.ref C_NoPlace) = some (.type "type"))
    (ca_NoIndex : PySem.W.nsIn K mainGlobals "NoIndex" = some (some (.ref C_NoIndex)))
    (ck_NoIndex : PySem.W.keepIn K (.ref C_NoIndex) = true)
    (ce_NoIndex : PySem.W.subIn K (.ref C_NoIndex) (.type "BaseException") = some true)
    (ct_NoIndex : PySem.W.typeIn K (.ref C_NoIndex) = some (.type "type"))
    (tb : tabB K [((.own "RingError"), .ref C_RingError, [.own "RingError", .blt "ValueError", .blt "Exception", .blt "BaseException", .blt "object"]), ((.own "NotReady"), .ref C_NotReady, [.own "NotReady", .own "RingError", .blt "ValueError", .blt "Exception", .blt "BaseException", .blt "object"]), ((.own "NoBeginning"), .ref C_NoBeginning, [.own "NoBeginning", .own "RingError", .blt "ValueError", .blt "Exception", .blt "BaseException", .blt "object"]), ((.own "NoRows"), .ref C_NoRows, [.own "NoRows", .own "RingError", .blt "ValueError", .blt "Exception", .blt "BaseException", .blt "object"]), ((.own "NoArity"), .ref C_NoArity, [.own "NoArity", .own "RingError", .blt "ValueError", .blt "Exception", .blt "BaseException", .blt "object"]), ((.own "TooLong"), .ref C_TooLong, [.own "TooLong", .own "RingError", .blt "ValueError", .blt "Exception", .blt "BaseException", .blt "object"]), ((.own "LastToken"), .ref C_LastToken, [.own "LastToken", .own "RingError", .blt "ValueError", .blt "Exception", .blt "BaseException", .blt "object"]), ((.own "OtherEffect"), .ref C_OtherEffect, [.own "OtherEffect", .own "RingError", .blt "ValueError", .blt "Exception", .blt "BaseException", .blt "object"]), ((.own "NoProperty"), .ref C_NoProperty, [.own "NoProperty", .own "RingError", .blt "ValueError", .blt "Exception", .blt "BaseException", .blt "object"]), ((.own "BadWish"), .ref C_BadWish, [.own "BadWish", .own "RingError", .blt "ValueError", .blt "Exception", .blt "BaseException", .blt "object"]), ((.own "BadText"), .ref C_BadText, [.own "BadText", .own "RingError", .blt "ValueError", .blt "Exception", .blt "BaseException", .blt "object"]), ((.own "NoPlace"), .ref C_NoPlace, [.own "NoPlace", .blt "LookupError", .blt "Exception", .blt "BaseException", .blt "object"]), ((.own "NoIndex"), .ref C_NoIndex, [.own "NoIndex", .blt "LookupError", .blt "Exception", .blt "BaseException", .blt "object"]), ((.blt "ValueError"), .type "ValueError", [.blt "ValueError", .blt "Exception", .blt "BaseException", .blt "object"]), ((.blt "LookupError"), .type "LookupError", [.blt "LookupError", .blt "Exception", .blt "BaseException", .blt "object"])] = true)
    (nb_index : noAtB K [((.own "RingError"), .ref C_RingError, [.own "RingError", .blt "ValueError", .blt "Exception", .blt "BaseException", .blt "object"]), ((.own "NotReady"), .ref C_NotReady, [.own "NotReady", .own "RingError", .blt "ValueError", .blt "Exception", .blt "BaseException", .blt "object"]), ((.own "NoBeginning"), .ref C_NoBeginning, [.own "NoBeginning", .own "RingError", .blt "ValueError", .blt "Exception", .blt "BaseException", .blt "object"]), ((.own "NoRows"), .ref C_NoRows, [.own "NoRows", .own "RingError", .blt "ValueError", .blt "Exception", .blt "BaseException", .blt "object"]), ((.own "NoArity"), .ref C_NoArity, [.own "NoArity", .own "RingError", .blt "ValueError", .blt "Exception", .blt "BaseException", .blt "object"]), ((.own "TooLong"), .ref C_TooLong, [.own "TooLong", .own "RingError", .blt "ValueError", .blt "Exception", .blt "BaseException", .blt "object"]), ((.own "LastToken"), .ref C_LastToken, [.own "LastToken", .own "RingError", .blt "ValueError", .blt "Exception", .blt "BaseException", .blt "object"]), ((.own "OtherEffect"), .ref C_OtherEffect, [.own "OtherEffect", .own "RingError", .blt "ValueError", .blt "Exception", .blt "BaseException", .blt "object"]), ((.own "NoProperty"), .ref C_NoProperty, [.own "NoProperty", .own "RingError", .blt "ValueError", .blt "Exception", .blt "BaseException", .blt "object"]), ((.own "BadWish"), .ref C_BadWish, [.own "BadWish", .own "RingError", .blt "ValueError", .blt "Exception", .blt "BaseException", .blt "object"]), ((.own "BadText"), .ref C_BadText, [.own "BadText", .own "RingError", .blt "ValueError", .blt "Exception", .blt "BaseException", .blt "object"]), ((.own "NoPlace"), .ref C_NoPlace, [.own "NoPlace", .blt "LookupError", .blt "Exception", .blt "BaseException", .blt "object"]), ((.own "NoIndex"), .ref C_NoIndex, [.own "NoIndex", .blt "LookupError", .blt "Exception", .blt "BaseException", .blt "object"]), ((.blt "ValueError"), .type "ValueError", [.blt "ValueError", .blt "Exception", .blt "BaseException", .blt "object"]), ((.blt "LookupError"), .type "LookupError", [.blt "LookupError", .blt "Exception", .blt "BaseException", .blt "object"])] "index" = true)
    (z_range : PySem.W.nsIn K mainGlobals "range" = some none)
    (z_len : PySem.W.nsIn K mainGlobals "len" = some none)
    (z_repr : PySem.W.nsIn K mainGlobals "repr" = some none)
    (z_abs : PySem.W.nsIn K mainGlobals "abs" = some none)
    (z_max : PySem.W.nsIn K mainGlobals "max" = some none)
    (z_list : PySem.W.nsIn K mainGlobals "list" = some none)
    (z_tuple : PySem.W.nsIn K mainGlobals "tuple" = some none)
    (z_int : PySem.W.nsIn K mainGlobals "int" = some none)
    (z_isinstance : PySem.W.nsIn K mainGlobals "isinstance" = some none)
    (z_str : PySem.W.nsIn K mainGlobals "str" = some none)
    (z_enumerate : PySem.W.nsIn K mainGlobals "enumerate" = some none)
    (z_LookupError : PySem.W.nsIn K mainGlobals "LookupError" = some none)
    (z_ValueError : PySem.W.nsIn K mainGlobals "ValueError" = some none)
    (hl : LawOk F_law) : ∃ F : Fn, LawOk F ∧ ∀ base : Heap, K.In base → base.Ns mainGlobals mg → (∃ o, base.get? sysModules = some o) → FnD true l.prog w K mg base 133 fa F := by
  have e := hfa.symm.trans (PySem.W.mg_of X G a_law)
  cases e
  have T : Tx K mg f__law_stream f__law_tree_row f__law_draw f__law_nested f__law_tree f__law_term_back f__law_terms f__law_pick f__law_names f__law_edges f__law_odd f__law_changed f_TermReader___init__ f_split_name f_TermReader_add_token f_TermReader_skip f_TermReader_close_terms f_TermReader_next_part f_TermReader_read_name f_TermReader_is_right f_parse_term f__law_alone f__law_parse_told f__law_read f__law_parsed fa := ⟨PySem.W.mg_of X G a__law_stream, k__law_stream, PySem.W.mg_of X G a__law_tree_row, k__law_tree_row, PySem.W.mg_of X G a__law_draw, k__law_draw, PySem.W.mg_of X G a__law_nested, k__law_nested, PySem.W.mg_of X G a__law_tree, k__law_tree, PySem.W.mg_of X G a__law_term_back, k__law_term_back, PySem.W.mg_of X G a__law_terms, k__law_terms, PySem.W.mg_of X G a__law_pick, k__law_pick, PySem.W.mg_of X G a__law_names, k__law_names, PySem.W.mg_of X G a__law_edges, k__law_edges, PySem.W.mg_of X G a__law_odd, k__law_odd, PySem.W.mg_of X G a__law_changed, k__law_changed, k_TermReader___init__, PySem.W.mg_of X G a_split_name, k_split_name, k_TermReader_add_token, k_TermReader_skip, k_TermReader_close_terms, k_TermReader_next_part, k_TermReader_read_name, k_TermReader_is_right, PySem.W.mg_of X G a_parse_term, k_parse_term, PySem.W.mg_of X G a__law_alone, k__law_alone, PySem.W.mg_of X G a__law_parse_told, k__law_parse_told, PySem.W.mg_of X G a__law_read, k__law_read, PySem.W.mg_of X G a__law_parsed, k__law_parsed, PySem.W.mg_none_of X G z_range, PySem.W.mg_none_of X G z_len, PySem.W.mg_none_of X G z_repr, PySem.W.mg_none_of X G z_abs, PySem.W.mg_none_of X G z_max, PySem.W.mg_none_of X G z_list, PySem.W.mg_none_of X G z_tuple, PySem.W.mg_none_of X G z_int, PySem.W.mg_none_of X G z_isinstance, PySem.W.mg_none_of X G z_str, PySem.W.mg_none_of X G z_enumerate, PySem.W.mg_none_of X G z_LookupError, PySem.W.mg_none_of X G z_ValueError⟩
  have mg_MAX_TOKENS := PySem.W.mg_of X G a_MAX_TOKENS
  have kr_MAX_TOKENS : KRep K (.int 24 tk_MAX_TOKENS) d_MAX_TOKENS := ⟨.int 24, ⟨_, rfl⟩, fun ι H => by unfold d_MAX_TOKENS; rw [RepV]⟩
  have mg_MAX_ARITY := PySem.W.mg_of X G a_MAX_ARITY
  have kr_MAX_ARITY : KRep K (.int 5 tk_MAX_ARITY) d_MAX_ARITY := ⟨.int 5, ⟨_, rfl⟩, fun ι H => by unfold d_MAX_ARITY; rw [RepV]⟩
  have mg_LONGEST := PySem.W.mg_of X G a_LONGEST
  have kr_LONGEST : KRep K (.int 8 tk_LONGEST) d_LONGEST := ⟨.int 8, ⟨_, rfl⟩, fun ι H => by unfold d_LONGEST; rw [RepV]⟩
  have mg_LETTERS := PySem.W.mg_of X G a_LETTERS
  have kr_LETTERS : KRep K (.str "abcdefghijklmnopqrstuvwxyz" tk_LETTERS) d_LETTERS := ⟨.str "abcdefghijklmnopqrstuvwxyz", ⟨_, rfl⟩, fun ι H => by unfold d_LETTERS; rw [RepV]⟩
  have T0_RingError : XCls K "RingError" C_RingError := ⟨ca_RingError, ck_RingError, ce_RingError, ct_RingError⟩
  have mc_RingError := PySem.W.mg_of X G ca_RingError
  have T0_NotReady : XCls K "NotReady" C_NotReady := ⟨ca_NotReady, ck_NotReady, ce_NotReady, ct_NotReady⟩
  have mc_NotReady := PySem.W.mg_of X G ca_NotReady
  have T0_NoBeginning : XCls K "NoBeginning" C_NoBeginning := ⟨ca_NoBeginning, ck_NoBeginning, ce_NoBeginning, ct_NoBeginning⟩
  have mc_NoBeginning := PySem.W.mg_of X G ca_NoBeginning
  have T0_NoRows : XCls K "NoRows" C_NoRows := ⟨ca_NoRows, ck_NoRows, ce_NoRows, ct_NoRows⟩
  have mc_NoRows := PySem.W.mg_of X G ca_NoRows
  have T0_NoArity : XCls K "NoArity" C_NoArity := ⟨ca_NoArity, ck_NoArity, ce_NoArity, ct_NoArity⟩
  have mc_NoArity := PySem.W.mg_of X G ca_NoArity
  have T0_TooLong : XCls K "TooLong" C_TooLong := ⟨ca_TooLong, ck_TooLong, ce_TooLong, ct_TooLong⟩
  have mc_TooLong := PySem.W.mg_of X G ca_TooLong
  have T0_LastToken : XCls K "LastToken" C_LastToken := ⟨ca_LastToken, ck_LastToken, ce_LastToken, ct_LastToken⟩
  have mc_LastToken := PySem.W.mg_of X G ca_LastToken
  have T0_OtherEffect : XCls K "OtherEffect" C_OtherEffect := ⟨ca_OtherEffect, ck_OtherEffect, ce_OtherEffect, ct_OtherEffect⟩
  have mc_OtherEffect := PySem.W.mg_of X G ca_OtherEffect
  have T0_NoProperty : XCls K "NoProperty" C_NoProperty := ⟨ca_NoProperty, ck_NoProperty, ce_NoProperty, ct_NoProperty⟩
  have mc_NoProperty := PySem.W.mg_of X G ca_NoProperty
  have T0_BadWish : XCls K "BadWish" C_BadWish := ⟨ca_BadWish, ck_BadWish, ce_BadWish, ct_BadWish⟩
  have mc_BadWish := PySem.W.mg_of X G ca_BadWish
  have T0_BadText : XCls K "BadText" C_BadText := ⟨ca_BadText, ck_BadText, ce_BadText, ct_BadText⟩
  have mc_BadText := PySem.W.mg_of X G ca_BadText
  have TI_BadText : XInit K C_BadText I_BadText "BadText.__init__" "index" := ⟨⟨_, _, _, _, _, _, _, _, _, _, _, _, _, _, _, _, _, xb_VE, cl_BadText, cm_BadText⟩, cs_BadText, cn_BadText, ci_BadText, cf_BadText, ⟨_, _, _, _, _, _, _, _, _, _, _, _, _, _, cg_BadText, cc_BadText⟩, fun _ _ _ _ _ _ _ _ _ _ _ _ _ => rfl, by decide, by decide⟩
  have T0_NoPlace : XCls K "NoPlace" C_NoPlace := ⟨ca_NoPlace, ck_NoPlace, ce_NoPlace, ct_NoPlace⟩
  have mc_NoPlace := PySem.W.mg_of X G ca_NoPlace
  have T0_NoIndex : XCls K "NoIndex" C_NoIndex := ⟨ca_NoIndex, ck_NoIndex, ce_NoIndex, ct_NoIndex⟩
  have mc_NoIndex := PySem.W.mg_of X G ca_NoIndex
  have oc_TermReader : Cls K OC_TermReader := ⟨o1_TermReader, o2_TermReader, o3_TermReader, o4_TermReader⟩
  have of_rest : FldOk K ocs_rest "rest" := (fld_cons on_TermReader oc_TermReader of_TermReader_rest fld_nil)
  have of_row : FldOk K ocs_row "row" := (fld_cons on_TermReader oc_TermReader of_TermReader_row fld_nil)
  have of_names : FldOk K ocs_names "names" := (fld_cons on_TermReader oc_TermReader of_TermReader_names fld_nil)
  have of_opened : FldOk K ocs_opened "opened" := (fld_cons on_TermReader oc_TermReader of_TermReader_opened fld_nil)
  have omm_TermReader_add_token : Meth K OC_TermReader "add_token" f_TermReader_add_token := ⟨om_TermReader_add_token, i_TermReader_add_token, k_TermReader_add_token⟩
  have omm_TermReader_skip : Meth K OC_TermReader "skip" f_TermReader_skip := ⟨om_TermReader_skip, i_TermReader_skip, k_TermReader_skip⟩
  have omm_TermReader_close_terms : Meth K OC_TermReader "close_terms" f_TermReader_close_terms := ⟨om_TermReader_close_terms, i_TermReader_close_terms, k_TermReader_close_terms⟩
  have omm_TermReader_next_part : Meth K OC_TermReader "next_part" f_TermReader_next_part := ⟨om_TermReader_next_part, i_TermReader_next_part, k_TermReader_next_part⟩
  have omm_TermReader_read_name : Meth K OC_TermReader "read_name" f_TermReader_read_name := ⟨om_TermReader_read_name, i_TermReader_read_name, k_TermReader_read_name⟩
  have ok_TermReader : Mk K OC_TermReader f_TermReader___init__ := ⟨o5_TermReader, oi_TermReader, i_TermReader___init__, o6_TermReader⟩
  have og_TermReader := PySem.W.mg_of X G on_TermReader
  have omm_TermReader_is_right : Meth K OC_TermReader "is_right" f_TermReader_is_right := ⟨om_TermReader_is_right, i_TermReader_is_right, k_TermReader_is_right⟩
  have TK : TabOk K xtab := tab_ok tb
  have na_index : NoAt K xtab "index" := noAt_ok tb nb_index
  refine ⟨F_law, hl, fun base _ _ hsys => ?_⟩
  have G__law_stream : FnD true l.prog w K mg base 1 f__law_stream F__law_stream := fn__law_stream T (fun_mk (st := st__law_stream) l__law_stream c__law_stream k__law_stream) 
  have G__law_tree_row : FnD true l.prog w K mg base 41 f__law_tree_row (F__law_tree_row 40) := fn__law_tree_row T (fun_mk (st := st__law_tree_row) l__law_tree_row c__law_tree_row k__law_tree_row)  40
  have G__law_draw : FnD true l.prog w K mg base 1 f__law_draw F__law_draw := fn__law_draw T (fun_mk (st := st__law_draw) l__law_draw c__law_draw k__law_draw) 
  have G__law_nested : FnD true l.prog w K mg base 41 f__law_nested (F__law_nested 40) := fn__law_nested T (fun_mk (st := st__law_nested) l__law_nested c__law_nested k__law_nested)  40
  have G__law_tree : FnD true l.prog w K mg base 42 f__law_tree F__law_tree := fn__law_tree T (fun_mk (st := st__law_tree) l__law_tree c__law_tree k__law_tree) G__law_draw G__law_nested
  have G__law_term_back : FnD true l.prog w K mg base 41 f__law_term_back (F__law_term_back 40) := fn__law_term_back T (fun_mk (st := st__law_term_back) l__law_term_back c__law_term_back k__law_term_back)  40
  have G__law_terms : FnD true l.prog w K mg base 42 f__law_terms F__law_terms := fn__law_terms T (fun_mk (st := st__law_terms) l__law_terms c__law_terms k__law_terms) G__law_term_back
  have G__law_pick : FnD true l.prog w K mg base 2 f__law_pick F__law_pick := fn__law_pick T (fun_mk (st := st__law_pick) l__law_pick c__law_pick k__law_pick) G__law_draw
  have G__law_names : FnD true l.prog w K mg base 3 f__law_names F__law_names := fn__law_names T (fun_mk (st := st__law_names) l__law_names c__law_names k__law_names) G__law_draw G__law_pick
  have G__law_edges : FnD true l.prog w K mg base 1 f__law_edges F__law_edges := fn__law_edges T (fun_mk (st := st__law_edges) l__law_edges c__law_edges k__law_edges) 
  have G__law_odd : FnD true l.prog w K mg base 2 f__law_odd F__law_odd := fn__law_odd T (fun_mk (st := st__law_odd) l__law_odd c__law_odd k__law_odd) G__law_draw
  have G__law_changed : FnD true l.prog w K mg base 3 f__law_changed F__law_changed := fn__law_changed T (fun_mk (st := st__law_changed) l__law_changed c__law_changed k__law_changed) G__law_draw G__law_pick
  have G_TermReader___init__ : FnD false l.prog w K mg base 1 f_TermReader___init__ F_TermReader___init__ := fn_TermReader___init__ T (fun_mk (st := st_TermReader___init__) l_TermReader___init__ c_TermReader___init__ k_TermReader___init__)  of_rest of_row of_names of_opened
  have G_split_name : FnD false l.prog w K mg base 1 f_split_name F_split_name := fn_split_name T (fun_mk (st := st_split_name) l_split_name c_split_name k_split_name)  mg_LETTERS kr_LETTERS
  have G_TermReader_add_token : FnD false l.prog w K mg base 1 f_TermReader_add_token F_TermReader_add_token := fn_TermReader_add_token T (fun_mk (st := st_TermReader_add_token) l_TermReader_add_token c_TermReader_add_token k_TermReader_add_token)  of_names of_row
  have G_TermReader_skip : FnD false l.prog w K mg base 1 f_TermReader_skip F_TermReader_skip := fn_TermReader_skip T (fun_mk (st := st_TermReader_skip) l_TermReader_skip c_TermReader_skip k_TermReader_skip)  of_rest
  have G_TermReader_close_terms : FnD false l.prog w K mg base 2 f_TermReader_close_terms F_TermReader_close_terms := fn_TermReader_close_terms T (fun_mk (st := st_TermReader_close_terms) l_TermReader_close_terms c_TermReader_close_terms k_TermReader_close_terms) G_TermReader_add_token G_TermReader_skip on_TermReader oc_TermReader of_opened of_rest omm_TermReader_add_token omm_TermReader_skip
  have G_TermReader_next_part : FnD false l.prog w K mg base 2 f_TermReader_next_part F_TermReader_next_part := fn_TermReader_next_part T (fun_mk (st := st_TermReader_next_part) l_TermReader_next_part c_TermReader_next_part k_TermReader_next_part) G_TermReader_skip on_TermReader oc_TermReader of_opened of_rest omm_TermReader_skip
  have G_TermReader_read_name : FnD false l.prog w K mg base 3 f_TermReader_read_name F_TermReader_read_name := fn_TermReader_read_name T (fun_mk (st := st_TermReader_read_name) l_TermReader_read_name c_TermReader_read_name k_TermReader_read_name) G_split_name G_TermReader_add_token G_TermReader_close_terms G_TermReader_next_part G_TermReader_skip on_TermReader oc_TermReader of_rest omm_TermReader_add_token omm_TermReader_close_terms omm_TermReader_next_part omm_TermReader_skip of_opened mg_LONGEST kr_LONGEST
  have G_TermReader_is_right : FnD false l.prog w K mg base 4 f_TermReader_is_right F_TermReader_is_right := fn_TermReader_is_right T (fun_mk (st := st_TermReader_is_right) l_TermReader_is_right c_TermReader_is_right k_TermReader_is_right) G_TermReader_read_name on_TermReader oc_TermReader omm_TermReader_read_name of_rest of_opened of_row mg_MAX_TOKENS kr_MAX_TOKENS mg_MAX_ARITY kr_MAX_ARITY
  have G_parse_term : FnD false l.prog w K mg base 5 f_parse_term F_parse_term := fn_parse_term T (fun_mk (st := st_parse_term) l_parse_term c_parse_term k_parse_term) G_TermReader___init__ G_TermReader_is_right on_TermReader oc_TermReader ok_TermReader og_TermReader omm_TermReader_is_right of_names of_row T0_BadText mc_BadText TI_BadText
  have G__law_alone : FnDH true l.prog w K mg base 1 f__law_alone F__law_alone := fn__law_alone T (fun_mk (st := st__law_alone) l__law_alone c__law_alone k__law_alone)  T0_NoRows mc_NoRows T0_NoBeginning mc_NoBeginning T0_NotReady mc_NotReady T0_NoArity mc_NoArity T0_BadText mc_BadText T0_TooLong mc_TooLong T0_NoProperty mc_NoProperty T0_OtherEffect mc_OtherEffect T0_LastToken mc_LastToken T0_NoIndex mc_NoIndex T0_NoPlace mc_NoPlace T0_BadWish mc_BadWish T0_RingError mc_RingError TK
  have G__law_parse_told : FnD true l.prog w K mg base 6 f__law_parse_told F__law_parse_told := fn__law_parse_told T (fun_mk (st := st__law_parse_told) l__law_parse_told c__law_parse_told k__law_parse_told) G_parse_term G__law_alone T0_RingError mc_RingError T0_BadText mc_BadText TK na_index
  have G__law_read : FnD true l.prog w K mg base 131 f__law_read (F__law_read 130) := fn__law_read T (fun_mk (st := st__law_read) l__law_read c__law_read k__law_read)  130
  have G__law_parsed : FnD true l.prog w K mg base 132 f__law_parsed F__law_parsed := fn__law_parsed T (fun_mk (st := st__law_parsed) l__law_parsed c__law_parsed k__law_parsed) G__law_read
  have G_law : FnD true l.prog w K mg base 133 fa F_law := fn_law T (fun_mk (st := st_law) l_law c_law k_law) G__law_stream G__law_tree_row G__law_tree G__law_terms G__law_names G__law_edges G__law_odd G__law_changed G__law_parse_told G__law_parsed hsys
  exact G_law
end TX
open PySem PySem.W PyProof.Rows
set_option maxRecDepth 100000 in
set_option maxHeartbeats 0 in
theorem PySem.Challenge.cw_ringpostfix_k36_other_terms_holds : PySem.Challenge.rw_ringpostfix_k36_other_terms.Holds := by
  w_on; o_law; k_head; (case hw => w_witness2)
  k_fill
  refine DL.law_walk (k := 133) (l := PySem.Challenge.rw_ringpostfix_k36_other_terms) rfl rfl ⟨rfl, by decide, by decide⟩ (by decide +kernel) (fun w h Y => PySem.W.kIn_of Y) ?F
  case F =>
    intro w mg fa h KX G hmg
    refine' TX.all_mk KX G hmg ?on_TermReader ?o1_TermReader ?o2_TermReader ?o3_TermReader ?o4_TermReader ?o5_TermReader ?o6_TermReader ?of_TermReader_rest ?of_TermReader_row ?of_TermReader_names ?of_TermReader_opened ?om_TermReader_add_token ?om_TermReader_skip ?om_TermReader_close_terms ?om_TermReader_next_part ?om_TermReader_read_name ?oi_TermReader ?om_TermReader_is_right ?a__law_stream ?l__law_stream ?c__law_stream ?k__law_stream ?a__law_tree_row ?l__law_tree_row ?c__law_tree_row ?k__law_tree_row ?a__law_draw ?l__law_draw ?c__law_draw ?k__law_draw ?a__law_nested ?l__law_nested ?c__law_nested ?k__law_nested ?a__law_tree ?l__law_tree ?c__law_tree ?k__law_tree ?a__law_term_back ?l__law_term_back ?c__law_term_back ?k__law_term_back ?a__law_terms ?l__law_terms ?c__law_terms ?k__law_terms ?a__law_pick ?l__law_pick ?c__law_pick ?k__law_pick ?a__law_names ?l__law_names ?c__law_names ?k__law_names ?a__law_edges ?l__law_edges ?c__law_edges ?k__law_edges ?a__law_odd ?l__law_odd ?c__law_odd ?k__law_odd ?a__law_changed ?l__law_changed ?c__law_changed ?k__law_changed ?i_TermReader___init__ ?a_TermReader___init__ ?l_TermReader___init__ ?c_TermReader___init__ ?k_TermReader___init__ ?a_split_name ?l_split_name ?c_split_name ?k_split_name ?i_TermReader_add_token ?a_TermReader_add_token ?l_TermReader_add_token ?c_TermReader_add_token ?k_TermReader_add_token ?i_TermReader_skip ?a_TermReader_skip ?l_TermReader_skip ?c_TermReader_skip ?k_TermReader_skip ?i_TermReader_close_terms ?a_TermReader_close_terms ?l_TermReader_close_terms ?c_TermReader_close_terms ?k_TermReader_close_terms ?i_TermReader_next_part ?a_TermReader_next_part ?l_TermReader_next_part ?c_TermReader_next_part ?k_TermReader_next_part ?i_TermReader_read_name ?a_TermReader_read_name ?l_TermReader_read_name ?c_TermReader_read_name ?k_TermReader_read_name ?i_TermReader_is_right ?a_TermReader_is_right ?l_TermReader_is_right ?c_TermReader_is_right ?k_TermReader_is_right ?a_parse_term ?l_parse_term ?c_parse_term ?k_parse_term ?a__law_alone ?l__law_alone ?c__law_alone ?k__law_alone ?a__law_parse_told ?l__law_parse_told ?c__law_parse_told ?k__law_parse_told ?a__law_read ?l__law_read ?c__law_read ?k__law_read ?a__law_parsed ?l__law_parsed ?c__law_parsed ?k__law_parsed ?a_law ?l_law ?c_law ?k_law ?a_MAX_TOKENS ?a_MAX_ARITY ?a_LONGEST ?a_LETTERS ?ca_RingError ?ck_RingError ?ce_RingError ?ct_RingError ?ca_NotReady ?ck_NotReady ?ce_NotReady ?ct_NotReady ?ca_NoBeginning ?ck_NoBeginning ?ce_NoBeginning ?ct_NoBeginning ?ca_NoRows ?ck_NoRows ?ce_NoRows ?ct_NoRows ?ca_NoArity ?ck_NoArity ?ce_NoArity ?ct_NoArity ?ca_TooLong ?ck_TooLong ?ce_TooLong ?ct_TooLong ?ca_LastToken ?ck_LastToken ?ce_LastToken ?ct_LastToken ?ca_OtherEffect ?ck_OtherEffect ?ce_OtherEffect ?ct_OtherEffect ?ca_NoProperty ?ck_NoProperty ?ce_NoProperty ?ct_NoProperty ?ca_BadWish ?ck_BadWish ?ce_BadWish ?ct_BadWish ?ca_BadText ?ck_BadText ?ce_BadText ?ct_BadText ?cl_BadText ?cs_BadText ?cn_BadText ?ci_BadText ?cf_BadText ?cg_BadText ?cc_BadText ?cm_BadText ?ca_NoPlace ?ck_NoPlace ?ce_NoPlace ?ct_NoPlace ?ca_NoIndex ?ck_NoIndex ?ce_NoIndex ?ct_NoIndex ?tb ?nb_index ?z_range ?z_len ?z_repr ?z_abs ?z_max ?z_list ?z_tuple ?z_int ?z_isinstance ?z_str ?z_enumerate ?z_LookupError ?z_ValueError TX.law_ok
    (case on_TermReader => k_is)
    (case o1_TermReader => k_is)
    (case o2_TermReader => k_is)
    (case o3_TermReader => k_is)
    (case o4_TermReader => k_is)
    (case o5_TermReader => k_is)
    (case o6_TermReader => k_is)
    (case of_TermReader_rest => k_is)
    (case of_TermReader_row => k_is)
    (case of_TermReader_names => k_is)
    (case of_TermReader_opened => k_is)
    (case om_TermReader_add_token => k_is)
    (case om_TermReader_skip => k_is)
    (case om_TermReader_close_terms => k_is)
    (case om_TermReader_next_part => k_is)
    (case om_TermReader_read_name => k_is)
    (case oi_TermReader => k_is)
    (case om_TermReader_is_right => k_is)
    (case a__law_stream => k_is)
    (case l__law_stream => k_is)
    (case c__law_stream => k_is)
    (case k__law_stream => k_is)
    (case a__law_tree_row => k_is)
    (case l__law_tree_row => k_is)
    (case c__law_tree_row => k_is)
    (case k__law_tree_row => k_is)
    (case a__law_draw => k_is)
    (case l__law_draw => k_is)
    (case c__law_draw => k_is)
    (case k__law_draw => k_is)
    (case a__law_nested => k_is)
    (case l__law_nested => k_is)
    (case c__law_nested => k_is)
    (case k__law_nested => k_is)
    (case a__law_tree => k_is)
    (case l__law_tree => k_is)
    (case c__law_tree => k_is)
    (case k__law_tree => k_is)
    (case a__law_term_back => k_is)
    (case l__law_term_back => k_is)
    (case c__law_term_back => k_is)
    (case k__law_term_back => k_is)
    (case a__law_terms => k_is)
    (case l__law_terms => k_is)
    (case c__law_terms => k_is)
    (case k__law_terms => k_is)
    (case a__law_pick => k_is)
    (case l__law_pick => k_is)
    (case c__law_pick => k_is)
    (case k__law_pick => k_is)
    (case a__law_names => k_is)
    (case l__law_names => k_is)
    (case c__law_names => k_is)
    (case k__law_names => k_is)
    (case a__law_edges => k_is)
    (case l__law_edges => k_is)
    (case c__law_edges => k_is)
    (case k__law_edges => k_is)
    (case a__law_odd => k_is)
    (case l__law_odd => k_is)
    (case c__law_odd => k_is)
    (case k__law_odd => k_is)
    (case a__law_changed => k_is)
    (case l__law_changed => k_is)
    (case c__law_changed => k_is)
    (case k__law_changed => k_is)
    (case i_TermReader___init__ => k_is)
    (case a_TermReader___init__ => k_is)
    (case l_TermReader___init__ => k_is)
    (case c_TermReader___init__ => k_is)
    (case k_TermReader___init__ => k_is)
    (case a_split_name => k_is)
    (case l_split_name => k_is)
    (case c_split_name => k_is)
    (case k_split_name => k_is)
    (case i_TermReader_add_token => k_is)
    (case a_TermReader_add_token => k_is)
    (case l_TermReader_add_token => k_is)
    (case c_TermReader_add_token => k_is)
    (case k_TermReader_add_token => k_is)
    (case i_TermReader_skip => k_is)
    (case a_TermReader_skip => k_is)
    (case l_TermReader_skip => k_is)
    (case c_TermReader_skip => k_is)
    (case k_TermReader_skip => k_is)
    (case i_TermReader_close_terms => k_is)
    (case a_TermReader_close_terms => k_is)
    (case l_TermReader_close_terms => k_is)
    (case c_TermReader_close_terms => k_is)
    (case k_TermReader_close_terms => k_is)
    (case i_TermReader_next_part => k_is)
    (case a_TermReader_next_part => k_is)
    (case l_TermReader_next_part => k_is)
    (case c_TermReader_next_part => k_is)
    (case k_TermReader_next_part => k_is)
    (case i_TermReader_read_name => k_is)
    (case a_TermReader_read_name => k_is)
    (case l_TermReader_read_name => k_is)
    (case c_TermReader_read_name => k_is)
    (case k_TermReader_read_name => k_is)
    (case i_TermReader_is_right => k_is)
    (case a_TermReader_is_right => k_is)
    (case l_TermReader_is_right => k_is)
    (case c_TermReader_is_right => k_is)
    (case k_TermReader_is_right => k_is)
    (case a_parse_term => k_is)
    (case l_parse_term => k_is)
    (case c_parse_term => k_is)
    (case k_parse_term => k_is)
    (case a__law_alone => k_is)
    (case l__law_alone => k_is)
    (case c__law_alone => k_is)
    (case k__law_alone => k_is)
    (case a__law_parse_told => k_is)
    (case l__law_parse_told => k_is)
    (case c__law_parse_told => k_is)
    (case k__law_parse_told => k_is)
    (case a__law_read => k_is)
    (case l__law_read => k_is)
    (case c__law_read => k_is)
    (case k__law_read => k_is)
    (case a__law_parsed => k_is)
    (case l__law_parsed => k_is)
    (case c__law_parsed => k_is)
    (case k__law_parsed => k_is)
    (case a_law => k_is)
    (case l_law => k_is)
    (case c_law => k_is)
    (case k_law => k_is)
    (case a_MAX_TOKENS => k_is)
    (case a_MAX_ARITY => k_is)
    (case a_LONGEST => k_is)
    (case a_LETTERS => k_is)
    (case ca_RingError => k_is)
    (case ck_RingError => k_is)
    (case ce_RingError => k_is)
    (case ct_RingError => k_is)
    (case ca_NotReady => k_is)
    (case ck_NotReady => k_is)
    (case ce_NotReady => k_is)
    (case ct_NotReady => k_is)
    (case ca_NoBeginning => k_is)
    (case ck_NoBeginning => k_is)
    (case ce_NoBeginning => k_is)
    (case ct_NoBeginning => k_is)
    (case ca_NoRows => k_is)
    (case ck_NoRows => k_is)
    (case ce_NoRows => k_is)
    (case ct_NoRows => k_is)
    (case ca_NoArity => k_is)
    (case ck_NoArity => k_is)
    (case ce_NoArity => k_is)
    (case ct_NoArity => k_is)
    (case ca_TooLong => k_is)
    (case ck_TooLong => k_is)
    (case ce_TooLong => k_is)
    (case ct_TooLong => k_is)
    (case ca_LastToken => k_is)
    (case ck_LastToken => k_is)
    (case ce_LastToken => k_is)
    (case ct_LastToken => k_is)
    (case ca_OtherEffect => k_is)
    (case ck_OtherEffect => k_is)
    (case ce_OtherEffect => k_is)
    (case ct_OtherEffect => k_is)
    (case ca_NoProperty => k_is)
    (case ck_NoProperty => k_is)
    (case ce_NoProperty => k_is)
    (case ct_NoProperty => k_is)
    (case ca_BadWish => k_is)
    (case ck_BadWish => k_is)
    (case ce_BadWish => k_is)
    (case ct_BadWish => k_is)
    (case ca_BadText => k_is)
    (case ck_BadText => k_is)
    (case ce_BadText => k_is)
    (case ct_BadText => k_is)
    (case cl_BadText => k_is)
    (case cs_BadText => k_is)
    (case cn_BadText => k_is)
    (case ci_BadText => k_is)
    (case cf_BadText => k_is)
    (case cg_BadText => k_is)
    (case cc_BadText => k_is)
    (case cm_BadText => kernel_rfl)
    (case ca_NoPlace => k_is)
    (case ck_NoPlace => k_is)
    (case ce_NoPlace => k_is)
    (case ct_NoPlace => k_is)
    (case ca_NoIndex => k_is)
    (case ck_NoIndex => k_is)
    (case ce_NoIndex => k_is)
    (case ct_NoIndex => k_is)
    (case tb => kernel_rfl)
    (case nb_index => kernel_rfl)
    (case z_range => k_is)
    (case z_len => k_is)
    (case z_repr => k_is)
    (case z_abs => k_is)
    (case z_max => k_is)
    (case z_list => k_is)
    (case z_tuple => k_is)
    (case z_int => k_is)
    (case z_isinstance => k_is)
    (case z_str => k_is)
    (case z_enumerate => k_is)
    (case z_LookupError => k_is)
    (case z_ValueError => k_is)
