import PyProof.Rows.All
import Wide.All
import OpenK.AllK
import Wide.FinOn
import HandS.ForMost
import HandS.ForExc
import HandS.Star
import HandS.IsInst
import HandS.Flow
import HandS.Wide
import HandS.EndBits
import PyProof.ReprRoads
import HandS.TupAny
import HandS.TupMul
import HandS.Deep
import HandS.More
import HandS.Style
import KE.KTupSum
import PyProof.WalkInts
import HandS.SortInts
import HandS.Zip
import KE.KRevSl
import KE.KExcInit
import KE.KExcIs
import HandS.ExcIs
import HandS.ExcField
import HandS.TryMany
import HandS.Small
import HandS.HotCalls
import HandS.Conv
import HandS.Iter
import KE.GoesEnum
import PyProof.NeKinds
import KE.DataFind
import KE.KEqDict
import HandS.NoneIn
import PyProof.Rows.IntBool
import HandS.ExcValue
import HandS.Text
import PyProof.StrBlock2
import PyProof.CallStr
import HandS.FStr
import HandS.GenList
import PyProof.RulesMatch
import PyProof.AutoSeq1
import PyProof.Rows.ReprOcc
import PyProof.Rows.StrBin
import PySem.Challenge.RW_ringpostfix_k25_trees_judged
set_option Elab.async false
set_option linter.all false
set_option maxRecDepth 100000
set_option maxHeartbeats 4000000
namespace DL
open PySem PySem.Spec L2
open PyProof.Rows hiding St
/-- a class by its name: of the program, built in -/
inductive Cn where
  | own (n : Str) | blt (n : String)
  deriving DecidableEq
/-- plain data (tuples, frozen lists and dicts by value), defs by name, caught errors, and places of the store -/
inductive D where
  | non | bl (b : Bool) | int (i : Int) | str (x : Str) | ty (n : String) | fn (n : Str)
  | tup (ds : List D) | fl (ds : List D) | kl (ds : List D) | fd (kvs : List (Key × D)) | exc (c : Cn) (fs : List (Str × D)) | loc (n : Nat)
abbrev Ev := List (Option D)
/-- what a place of the store holds -/
inductive Ob where
  | lst (ds : List D)
  | ins (c : Str) (fs : List (Str × D))
  | dct (kvs : List (Key × D))
  | dtt (kvs : List (List Key × D))
  | scr (ds : List D)
  | tpl (ds : List D)
abbrev Sto := List Ob
structure Ex where
  cls : Cn
  fs : List (Str × D)
inductive R (α : Type) where
  | ok (a : α) (S : Sto)
  | er (e : Ex) (S : Sto)
  | stuck
inductive SR where
  | nx (ρ : Ev) (S : Sto)
  | rt (d : D) (S : Sto)
  | bk (ρ : Ev) (S : Sto)
  | ct (ρ : Ev) (S : Sto)
  | er (e : Ex) (ρ : Ev) (S : Sto)
  | stuck
/-- a test that no reckoning opens -/
noncomputable def ifp {α : Type} (p : Prop) (a b : α) : α := @ite α p (Classical.propDecidable p) a b
theorem ifp_pos {α : Type} {p : Prop} {a b : α} (h : p) : ifp p a b = a := by unfold ifp; exact if_pos h
theorem ifp_neg {α : Type} {p : Prop} {a b : α} (h : ¬ p) : ifp p a b = b := by unfold ifp; exact if_neg h
theorem ifp_t {α : Type} {a b : α} : ifp True a b = a := ifp_pos trivial
theorem ifp_f {α : Type} {a b : α} : ifp False a b = b := ifp_neg id
def R.bind {α β : Type} (r : R α) (k : α → Sto → R β) : R β := match r with
  | .ok a S => k a S
  | .er e S => .er e S
  | .stuck => .stuck
@[simp] theorem R.bind_ok {α β : Type} (a : α) (S : Sto) (k : α → Sto → R β) : (R.ok a S).bind k = k a S := rfl
@[simp] theorem R.bind_er {α β : Type} (e : Ex) (S : Sto) (k : α → Sto → R β) : (R.er e S : R α).bind k = .er e S := rfl
@[simp] theorem R.bind_stuck {α β : Type} (k : α → Sto → R β) : (R.stuck : R α).bind k = .stuck := rfl
def TupAt (K : PySem.W.Frag) (ι : List Addr) (H : Hp) (a : Addr) (vs : List V) : Prop := (a ∉ ι ∧ H a = some (.tup vs)) ∨ SqT K (fun _ => none) a vs
def LstAt (ι : List Addr) (H : Hp) (a : Addr) (vs : List V) : Prop := a ∉ ι ∧ H a = some (.lst vs)
/-- a list that nobody changes: locked, or of the written part -/
def KlAt (K : PySem.W.Frag) (ι : List Addr) (H : Hp) (a : Addr) (vs : List V) : Prop := (a ∉ ι ∧ ∃ o, H a = some (.frz o (.lst vs))) ∨ SqL K (fun _ => none) a vs
theorem no_rd {a : Addr} {u : HO} (h : Rd (fun _ => none) a u) : False := by
  rcases h with h | ⟨_, h⟩ <;> cases h
theorem TupAt.sq {K : PySem.W.Frag} {ι : List Addr} {H : Hp} {a : Addr} {vs : List V} (h : TupAt K ι H a vs) : SqT K H a vs := by
  rcases h with h | h | h
  · exact .inl (.inl h.2)
  · exact (no_rd h).elim
  · exact .inr h
theorem KlAt.sq {K : PySem.W.Frag} {ι : List Addr} {H : Hp} {a : Addr} {vs : List V} (h : KlAt K ι H a vs) : SqL K H a vs := by
  rcases h with ⟨_, h⟩ | h | h
  · exact .inl (.inr h)
  · exact (no_rd h).elim
  · exact .inr h
theorem LstAt.sq {K : PySem.W.Frag} {ι : List Addr} {H : Hp} {a : Addr} {vs : List V} (h : LstAt ι H a vs) : SqL K H a vs := SqL.of h.2
def RepC (K : PySem.W.Frag) : Cn → Value → Prop
  | .own n, v => ∃ C, v = .ref C ∧ PySem.W.nsIn K mainGlobals n = some (some (.ref C))
  | .blt n, v => v = .type n
/-- an error that is held as a value: at a, its class, its dict -/
def exv (a : Addr) (cls : Value) (d : Option Addr) : HO := .ext fun h => ∃ (oe : Obj) (vs : Array Value), h.get? a = some oe ∧ oe.cls = cls ∧ oe.dict = d ∧ oe.data = .fields vs
mutual
def RepV (K : PySem.W.Frag) (ι : List Addr) (H : Hp) : D → V → Prop
  | .non, v => v = .non
  | .bl b, v => v = .bl b
  | .int i, v => v = .int i
  | .str x, v => v = .str x
  | .ty n, v => v = .ty n
  | .fn n, v => ∃ a, v = .ref a ∧ PySem.W.nsIn K mainGlobals n = some (some (.ref a))
  | .loc n, v => ∃ a, ι[n]? = some a ∧ v = .ref a
  | .tup ds, v => ∃ a vs, v = .ref a ∧ TupAt K ι H a vs ∧ RepL K ι H ds vs
  | .fl ds, v => ∃ a vs, v = .ref a ∧ LstAt ι H a vs ∧ RepL K ι H ds vs
  | .kl ds, v => ∃ a vs, v = .ref a ∧ KlAt K ι H a vs ∧ RepL K ι H ds vs
  | .fd kvs, v => ∃ a ks, v = .ref a ∧ a ∉ ι ∧ H a = some (.dK ks) ∧ RepK K ι H kvs ks
  | .exc c fs, v => ∃ a cls dd, v = .ref a ∧ a ∉ ι ∧ H a = some (exv a cls dd) ∧ RepC K c cls ∧ ((dd = none ∧ fs = []) ∨ ∃ d vs, dd = some d ∧ d ∉ ι ∧ H d = some (.xd vs) ∧ RepF K ι H fs vs)
def RepL (K : PySem.W.Frag) (ι : List Addr) (H : Hp) : List D → List V → Prop
  | [], vs => vs = []
  | d :: ds, vs => ∃ v r, vs = v :: r ∧ RepV K ι H d v ∧ RepL K ι H ds r
def RepK (K : PySem.W.Frag) (ι : List Addr) (H : Hp) : List (Key × D) → List (Key × V) → Prop
  | [], vs => vs = []
  | (k, d) :: ds, vs => ∃ v r, vs = (k, v) :: r ∧ RepV K ι H d v ∧ RepK K ι H ds r
def RepF (K : PySem.W.Frag) (ι : List Addr) (H : Hp) : List (Str × D) → List (Str × V) → Prop
  | [], vs => vs = []
  | (k, d) :: ds, vs => ∃ v r, vs = (k, v) :: r ∧ RepV K ι H d v ∧ RepF K ι H ds r
end
def RepKT (K : PySem.W.Frag) (ι : List Addr) (H : Hp) : List (List Key × D) → List (List Key × V) → Prop
  | [], vs => vs = []
  | (k, d) :: ds, vs => ∃ v r, vs = (k, v) :: r ∧ RepV K ι H d v ∧ RepKT K ι H ds r
def RepO (K : PySem.W.Frag) (ι : List Addr) (H : Hp) (a : Addr) : Ob → Prop
  | .lst ds => ∃ vs, H a = some (.lst vs) ∧ RepL K ι H ds vs
  | .ins c fs => ∃ C dx vs, PySem.W.nsIn K mainGlobals c = some (some (.ref C)) ∧ H a = some (.ins C dx vs) ∧ RepF K ι H fs vs
  | .dct kvs => ∃ ks, H a = some (.dK ks) ∧ RepK K ι H kvs ks
  | .dtt kvs => ∃ ks, H a = some (.dT ks) ∧ RepKT K ι H kvs ks
  | .scr ds => ∃ o vs, H a = some (.frz o (.lst vs)) ∧ RepL K ι H ds vs
  | .tpl ds => ∃ o vs, H a = some (.frz o (.tup vs)) ∧ o.cls = .type "tuple" ∧ o.dict = none ∧ RepL K ι H ds vs
structure Sim (K : PySem.W.Frag) (ι : List Addr) (H : Hp) (S : Sto) : Prop where
  nd : ι.Nodup
  len : ι.length = S.length
  ob : ∀ (n : Nat) (a : Addr) (o : Ob), ι[n]? = some a → S[n]? = some o → RepO K ι H a o
def RepE (K : PySem.W.Frag) (ι : List Addr) (H : Hp) (σ : St) (ρ : Ev) : Prop :=
  σ.length = ρ.length ∧ ∀ (i : Nat) (d : D), ρ[i]? = some (some d) → ∃ v, σ[i]? = some (some v) ∧ RepV K ι H d v
structure Grow (ι : List Addr) (H : Hp) (ι' : List Addr) (H' : Hp) : Prop where
  pre : ι <+: ι'
  keep : ∀ a o, H a = some o → a ∉ ι → H' a = some o
  fresh : ∀ a, a ∈ ι' → a ∉ ι → H a = none
theorem Grow.refl (ι : List Addr) (H : Hp) : Grow ι H ι H := ⟨List.prefix_rfl, fun _ _ e _ => e, fun _ h n => absurd h n⟩
theorem Grow.trans {ι ι1 ι2 : List Addr} {H H1 H2 : Hp} (a : Grow ι H ι1 H1) (b : Grow ι1 H1 ι2 H2) : Grow ι H ι2 H2 where
  pre := a.pre.trans b.pre
  keep := fun c o e n => b.keep c o (a.keep c o e n) fun z => by
    have := a.fresh c z n
    rw [this] at e; cases e
  fresh := fun c h n => by
    by_cases z : c ∈ ι1
    · exact a.fresh c z n
    · have q := b.fresh c h z
      cases e : H c with
      | none => rfl
      | some o => rw [a.keep c o e n] at q; cases q
theorem Grow.rd {ι ι' : List Addr} {H H' : Hp} {a : Addr} {u : HO} (g : Grow ι H ι' H') (n : a ∉ ι) (r : H a = some u) : a ∉ ι' ∧ H' a = some u := by
  refine ⟨fun z => ?_, g.keep _ _ r n⟩
  have q := g.fresh a z n
  rw [q] at r; cases r
theorem TupAt.grow {K : PySem.W.Frag} {ι ι' : List Addr} {H H' : Hp} {a : Addr} {vs : List V} (g : Grow ι H ι' H') (h : TupAt K ι H a vs) : TupAt K ι' H' a vs := by
  rcases h with ⟨n, r⟩ | h
  · exact .inl (g.rd n r)
  · exact .inr h
theorem KlAt.grow {K : PySem.W.Frag} {ι ι' : List Addr} {H H' : Hp} {a : Addr} {vs : List V} (g : Grow ι H ι' H') (h : KlAt K ι H a vs) : KlAt K ι' H' a vs := by
  rcases h with ⟨n, o, r⟩ | h
  · exact .inl ⟨(g.rd n r).1, o, (g.rd n r).2⟩
  · exact .inr h
theorem LstAt.grow {ι ι' : List Addr} {H H' : Hp} {a : Addr} {vs : List V} (g : Grow ι H ι' H') (h : LstAt ι H a vs) : LstAt ι' H' a vs := g.rd h.1 h.2
theorem getElem?_pre {ι ι' : List Addr} (p : ι <+: ι') {n : Nat} {a : Addr} (h : ι[n]? = some a) : ι'[n]? = some a := by
  obtain ⟨t, rfl⟩ := p
  have hn : n < ι.length := (List.getElem?_eq_some_iff.mp h).1
  rw [List.getElem?_append_left hn]; exact h
mutual
theorem RepV.grow {K : PySem.W.Frag} {ι ι' : List Addr} {H H' : Hp} (g : Grow ι H ι' H') : ∀ (d : D) (v : V), RepV K ι H d v → RepV K ι' H' d v
  | .non, _, h => by rw [RepV] at h ⊢; exact h
  | .bl _, _, h => by rw [RepV] at h ⊢; exact h
  | .int _, _, h => by rw [RepV] at h ⊢; exact h
  | .str _, _, h => by rw [RepV] at h ⊢; exact h
  | .ty _, _, h => by rw [RepV] at h ⊢; exact h
  | .fn _, _, h => by rw [RepV] at h ⊢; exact h
  | .loc n, _, h => by
    rw [RepV] at h ⊢
    obtain ⟨a, e, r⟩ := h
    exact ⟨a, getElem?_pre g.pre e, r⟩
  | .tup ds, _, h => by
    rw [RepV] at h ⊢
    obtain ⟨a, vs, e, t, r⟩ := h
    exact ⟨a, vs, e, t.grow g, RepL.grow g ds vs r⟩
  | .fl ds, _, h => by
    rw [RepV] at h ⊢
    obtain ⟨a, vs, e, t, r⟩ := h
    exact ⟨a, vs, e, t.grow g, RepL.grow g ds vs r⟩
  | .kl ds, _, h => by
    rw [RepV] at h ⊢
    obtain ⟨a, vs, e, t, r⟩ := h
    exact ⟨a, vs, e, t.grow g, RepL.grow g ds vs r⟩
  | .fd kvs, _, h => by
    rw [RepV] at h ⊢
    obtain ⟨a, vs, e, n, t, r⟩ := h
    have q := g.rd n t
    exact ⟨a, vs, e, q.1, g.keep _ _ t n, RepK.grow g kvs vs r⟩
  | .exc c fs, _, h => by
    rw [RepV] at h ⊢
    obtain ⟨a, cls, dd, e, n, t, rc, r⟩ := h
    have q := g.rd n t
    refine ⟨a, cls, dd, e, q.1, q.2, rc, ?_⟩
    rcases r with r | ⟨d, vs, e1, e2, e3, e4⟩
    · exact .inl r
    · have q2 := g.rd e2 e3
      exact .inr ⟨d, vs, e1, q2.1, q2.2, RepF.grow g fs vs e4⟩
theorem RepL.grow {K : PySem.W.Frag} {ι ι' : List Addr} {H H' : Hp} (g : Grow ι H ι' H') : ∀ (ds : List D) (vs : List V), RepL K ι H ds vs → RepL K ι' H' ds vs
  | [], _, h => by rw [RepL] at h ⊢; exact h
  | d :: ds, _, h => by
    rw [RepL] at h ⊢
    obtain ⟨v, r, e, a, b⟩ := h
    exact ⟨v, r, e, RepV.grow g d v a, RepL.grow g ds r b⟩
theorem RepK.grow {K : PySem.W.Frag} {ι ι' : List Addr} {H H' : Hp} (g : Grow ι H ι' H') : ∀ (ds : List (Key × D)) (vs : List (Key × V)), RepK K ι H ds vs → RepK K ι' H' ds vs
  | [], _, h => by rw [RepK] at h ⊢; exact h
  | (k, d) :: ds, _, h => by
    rw [RepK] at h ⊢
    obtain ⟨v, r, e, a, b⟩ := h
    exact ⟨v, r, e, RepV.grow g d v a, RepK.grow g ds r b⟩
theorem RepF.grow {K : PySem.W.Frag} {ι ι' : List Addr} {H H' : Hp} (g : Grow ι H ι' H') : ∀ (ds : List (Str × D)) (vs : List (Str × V)), RepF K ι H ds vs → RepF K ι' H' ds vs
  | [], _, h => by rw [RepF] at h ⊢; exact h
  | (k, d) :: ds, _, h => by
    rw [RepF] at h ⊢
    obtain ⟨v, r, e, a, b⟩ := h
    exact ⟨v, r, e, RepV.grow g d v a, RepF.grow g ds r b⟩
end
theorem RepKT.grow {K : PySem.W.Frag} {ι ι' : List Addr} {H H' : Hp} (g : Grow ι H ι' H') : ∀ (ds : List (List Key × D)) (vs : List (List Key × V)), RepKT K ι H ds vs → RepKT K ι' H' ds vs
  | [], _, h => by rw [RepKT] at h ⊢; exact h
  | (k, d) :: ds, _, h => by
    rw [RepKT] at h ⊢
    obtain ⟨v, r, e, a, b⟩ := h
    exact ⟨v, r, e, RepV.grow g d v a, RepKT.grow g ds r b⟩
theorem RepE.grow {K : PySem.W.Frag} {ι ι' : List Addr} {H H' : Hp} {σ : St} {ρ : Ev} (g : Grow ι H ι' H') (h : RepE K ι H σ ρ) : RepE K ι' H' σ ρ :=
  ⟨h.1, fun i d e => let ⟨v, e', r⟩ := h.2 i d e; ⟨v, e', RepV.grow g d v r⟩⟩
theorem RepE.get {K : PySem.W.Frag} {ι : List Addr} {H : Hp} {σ : St} {ρ : Ev} (h : RepE K ι H σ ρ) {i : Nat} {d : D} (e : ρ[i]? = some (some d)) : ∃ v, σ[i]? = some (some v) ∧ RepV K ι H d v := h.2 i d e
theorem RepE.set {K : PySem.W.Frag} {ι : List Addr} {H : Hp} {σ : St} {ρ : Ev} (h : RepE K ι H σ ρ) {d : D} {v : V} (r : RepV K ι H d v) (i : Nat) : RepE K ι H (σ.set i (some v)) (ρ.set i (some d)) := by
  refine ⟨by simp [h.1], fun j d' e => ?_⟩
  rw [List.getElem?_set] at e ⊢
  by_cases hij : i = j
  · rw [if_pos hij] at e ⊢
    by_cases hl : i < ρ.length
    · rw [if_pos hl] at e
      rw [if_pos (by rw [h.1]; exact hl)]
      cases e
      exact ⟨v, rfl, r⟩
    · rw [if_neg hl] at e; cases e
  · rw [if_neg hij] at e ⊢
    exact h.2 j d' e
theorem RepE.drop {K : PySem.W.Frag} {ι : List Addr} {H : Hp} {σ : St} {ρ : Ev} (h : RepE K ι H σ ρ) (x : Option V) (i : Nat) : RepE K ι H (σ.set i x) (ρ.set i none) := by
  refine ⟨by simp [h.1], fun j d' e => ?_⟩
  rw [List.getElem?_set] at e ⊢
  by_cases hij : i = j
  · rw [if_pos hij] at e
    by_cases hl : i < ρ.length
    · rw [if_pos hl] at e; cases e
    · rw [if_neg hl] at e; cases e
  · rw [if_neg hij] at e ⊢
    exact h.2 j d' e
theorem RepL.length {K : PySem.W.Frag} {ι : List Addr} {H : Hp} : ∀ (ds : List D) (vs : List V), RepL K ι H ds vs → ds.length = vs.length
  | [], _, h => by rw [RepL] at h; subst h; rfl
  | d :: ds, _, h => by
    rw [RepL] at h
    obtain ⟨v, r, rfl, _, b⟩ := h
    simp [RepL.length ds r b]
theorem RepL.get {K : PySem.W.Frag} {ι : List Addr} {H : Hp} : ∀ (ds : List D) (vs : List V), RepL K ι H ds vs → ∀ (i : Nat) (d : D), ds[i]? = some d → ∃ v, vs[i]? = some v ∧ RepV K ι H d v
  | [], _, h, i, d, e => by simp at e
  | d :: ds, _, h, i, d', e => by
    rw [RepL] at h
    obtain ⟨v, r, rfl, a, b⟩ := h
    cases i with
    | zero => simp at e; subst e; exact ⟨v, rfl, a⟩
    | succ i => exact RepL.get ds r b i d' (by simpa using e)
theorem RepL.app {K : PySem.W.Frag} {ι : List Addr} {H : Hp} : ∀ (ds : List D) (vs : List V), RepL K ι H ds vs → ∀ (es : List D) (us : List V), RepL K ι H es us → RepL K ι H (ds ++ es) (vs ++ us)
  | [], _, h, es, us, h' => by rw [RepL] at h; subst h; simpa using h'
  | d :: ds, _, h, es, us, h' => by
    rw [RepL] at h
    obtain ⟨v, r, rfl, a, b⟩ := h
    show RepL K ι H (d :: (ds ++ es)) (v :: (r ++ us))
    rw [RepL]
    exact ⟨v, _, rfl, a, RepL.app ds r b es us h'⟩
theorem RepL.one {K : PySem.W.Frag} {ι : List Addr} {H : Hp} {d : D} {v : V} (h : RepV K ι H d v) : RepL K ι H [d] [v] := by
  rw [RepL]; exact ⟨v, [], rfl, h, by rw [RepL]⟩
theorem RepL.nil {K : PySem.W.Frag} {ι : List Addr} {H : Hp} : RepL K ι H [] [] := by rw [RepL]
theorem RepL.cons {K : PySem.W.Frag} {ι : List Addr} {H : Hp} {d : D} {v : V} {ds : List D} {vs : List V} (h : RepV K ι H d v) (t : RepL K ι H ds vs) : RepL K ι H (d :: ds) (v :: vs) := by
  rw [RepL]; exact ⟨v, vs, rfl, h, t⟩
theorem RepL.take {K : PySem.W.Frag} {ι : List Addr} {H : Hp} : ∀ (ds : List D) (vs : List V) (n : Nat), RepL K ι H ds vs → RepL K ι H (ds.take n) (vs.take n)
  | _, _, 0, _ => by simp [RepL]
  | [], _, n + 1, h => by rw [RepL] at h; subst h; simp [RepL]
  | d :: ds, _, n + 1, h => by
    rw [RepL] at h
    obtain ⟨v, r, rfl, a, b⟩ := h
    exact RepL.cons a (RepL.take ds r n b)
theorem RepL.drop {K : PySem.W.Frag} {ι : List Addr} {H : Hp} : ∀ (ds : List D) (vs : List V) (n : Nat), RepL K ι H ds vs → RepL K ι H (ds.drop n) (vs.drop n)
  | _, _, 0, h => h
  | [], _, n + 1, h => by rw [RepL] at h; subst h; simp [RepL]
  | d :: ds, _, n + 1, h => by
    rw [RepL] at h
    obtain ⟨v, r, rfl, a, b⟩ := h
    exact RepL.drop ds r n b
theorem RepL.set {K : PySem.W.Frag} {ι : List Addr} {H : Hp} {d : D} {v : V} (r : RepV K ι H d v) : ∀ (ds : List D) (vs : List V) (n : Nat), RepL K ι H ds vs → RepL K ι H (ds.set n d) (vs.set n v)
  | [], _, n, h => by rw [RepL] at h; subst h; simp [RepL]
  | d' :: ds, _, 0, h => by
    rw [RepL] at h
    obtain ⟨v', r', rfl, a, b⟩ := h
    exact RepL.cons r b
  | d' :: ds, _, n + 1, h => by
    rw [RepL] at h
    obtain ⟨v', r', rfl, a, b⟩ := h
    exact RepL.cons a (RepL.set r ds r' n b)
theorem RepO.grow {K : PySem.W.Frag} {ι : List Addr} {H H' : Hp} {a : Addr} {o : Ob} {ι' : List Addr} (g : Grow ι H ι' H') (e : H' a = H a) (h : RepO K ι H a o) : RepO K ι' H' a o := by
  cases o with
  | lst ds => obtain ⟨vs, q, r⟩ := h; exact ⟨vs, by rw [e]; exact q, RepL.grow g ds vs r⟩
  | ins C fs => obtain ⟨C', dx, vs, nc, q, r⟩ := h; exact ⟨C', dx, vs, nc, by rw [e]; exact q, RepF.grow g fs vs r⟩
  | dct ks => obtain ⟨vs, q, r⟩ := h; exact ⟨vs, by rw [e]; exact q, RepK.grow g ks vs r⟩
  | dtt ks => obtain ⟨vs, q, r⟩ := h; exact ⟨vs, by rw [e]; exact q, RepKT.grow g ks vs r⟩
  | scr ds => obtain ⟨o, vs, q, r⟩ := h; exact ⟨o, vs, by rw [e]; exact q, RepL.grow g ds vs r⟩
  | tpl ds => obtain ⟨o, vs, q, c1, c2, r⟩ := h; exact ⟨o, vs, by rw [e]; exact q, c1, c2, RepL.grow g ds vs r⟩
theorem RepO.some {K : PySem.W.Frag} {ι : List Addr} {H : Hp} {a : Addr} {o : Ob} (h : RepO K ι H a o) : ∃ u, H a = some u := by
  cases o with
  | lst ds => obtain ⟨vs, q, _⟩ := h; exact ⟨_, q⟩
  | ins C fs => obtain ⟨C', dx, vs, _, q, _⟩ := h; exact ⟨_, q⟩
  | dct ks => obtain ⟨vs, q, _⟩ := h; exact ⟨_, q⟩
  | dtt ks => obtain ⟨vs, q, _⟩ := h; exact ⟨_, q⟩
  | scr ds => obtain ⟨o, vs, q, _⟩ := h; exact ⟨_, q⟩
  | tpl ds => obtain ⟨o, vs, q, _⟩ := h; exact ⟨_, q⟩
theorem Sim.there {K : PySem.W.Frag} {ι : List Addr} {H : Hp} {S : Sto} (s : Sim K ι H S) {a : Addr} (h : a ∈ ι) : ∃ u, H a = some u := by
  obtain ⟨n, hn, rfl⟩ := List.mem_iff_getElem.mp h
  have hs : n < S.length := by rw [← s.len]; exact hn
  exact (s.ob n ι[n] S[n] (List.getElem?_eq_some_iff.mpr ⟨hn, rfl⟩) (List.getElem?_eq_some_iff.mpr ⟨hs, rfl⟩)).some
theorem Sim.free {K : PySem.W.Frag} {ι : List Addr} {H : Hp} {S : Sto} (s : Sim K ι H S) {p : Addr} (h : H p = none) : p ∉ ι := fun z => by
  obtain ⟨u, e⟩ := s.there z
  rw [h] at e; cases e
/-- a new thing outside of the store -/
theorem Grow.upd {ι : List Addr} {H : Hp} {p : Addr} {o : HO} (h : H p = none) : Grow ι H ι (L2.upd H p o) :=
  ⟨List.prefix_rfl, fun a u e _ => by rw [upd_ne (ne_of_none e h)]; exact e, fun _ z n => absurd z n⟩
theorem Sim.upd {K : PySem.W.Frag} {ι : List Addr} {H : Hp} {S : Sto} (s : Sim K ι H S) {p : Addr} {o : HO} (h : H p = none) : Sim K ι (L2.upd H p o) S :=
  ⟨s.nd, s.len, fun n a u e1 e2 => (s.ob n a u e1 e2).grow (Grow.upd h) (by
    have hp := s.free h
    have hne : a ≠ p := fun z => hp (z ▸ List.mem_of_getElem? e1)
    rw [upd_ne hne])⟩
/-- a new place -/
theorem Grow.push {ι : List Addr} {H : Hp} {p : Addr} {o : HO} (h : H p = none) : Grow ι H (ι ++ [p]) (L2.upd H p o) :=
  ⟨List.prefix_append _ _, fun a u e _ => by rw [upd_ne (ne_of_none e h)]; exact e, fun a z n => by
    rcases List.mem_append.mp z with z | z
    · exact absurd z n
    · rw [List.mem_singleton.mp z]; exact h⟩
theorem Sim.push {K : PySem.W.Frag} {ι : List Addr} {H : Hp} {S : Sto} (s : Sim K ι H S) {p : Addr} {o : HO} {b : Ob} (h : H p = none) (r : RepO K (ι ++ [p]) (L2.upd H p o) p b) : Sim K (ι ++ [p]) (L2.upd H p o) (S ++ [b]) := by
  have hp := s.free h
  refine ⟨?_, by simp [s.len], fun n a u e1 e2 => ?_⟩
  · exact List.nodup_append.mpr ⟨s.nd, by simp, fun x hx y hy => by rw [List.mem_singleton.mp hy]; exact fun z => hp (z ▸ hx)⟩
  · by_cases hn : n < ι.length
    · rw [List.getElem?_append_left hn] at e1
      rw [List.getElem?_append_left (by rw [← s.len]; exact hn)] at e2
      refine (s.ob n a u e1 e2).grow (Grow.push h) ?_
      have hne : a ≠ p := fun z => hp (z ▸ List.mem_of_getElem? e1)
      rw [upd_ne hne]
    · rw [List.getElem?_append_right (by omega)] at e1
      rw [List.getElem?_append_right (by rw [← s.len]; omega)] at e2
      rw [← s.len] at e2
      have hl := (List.getElem?_eq_some_iff.mp e1).1
      have : n - ι.length = 0 := by simpa using hl
      rw [this] at e1 e2
      simp at e1 e2
      subst e1; subst e2
      exact r
/-- a place changed -/
theorem Grow.put {ι : List Addr} {H : Hp} {p : Addr} {o : HO} (h : p ∈ ι) : Grow ι H ι (L2.upd H p o) :=
  ⟨List.prefix_rfl, fun a u e n => by
    have hne : a ≠ p := fun z => n (z ▸ h)
    rw [upd_ne hne]; exact e, fun _ z n => absurd z n⟩
theorem Sim.put {K : PySem.W.Frag} {ι : List Addr} {H : Hp} {S : Sto} (s : Sim K ι H S) {p : Addr} {o : HO} {b : Ob} {m : Nat} (h : ι[m]? = some p) (r : RepO K ι (L2.upd H p o) p b) : Sim K ι (L2.upd H p o) (S.set m b) := by
  refine ⟨s.nd, by simp [s.len], fun n a u e1 e2 => ?_⟩
  by_cases hn : n = m
  · subst hn
    rw [h] at e1; cases e1
    have hl : n < S.length := by rw [← s.len]; exact (List.getElem?_eq_some_iff.mp h).1
    rw [List.getElem?_set_self hl] at e2; cases e2
    exact r
  · rw [List.getElem?_set_ne (Ne.symm hn)] at e2
    refine (s.ob n a u e1 e2).grow (Grow.put (List.mem_of_getElem? h)) ?_
    rw [upd_ne]
    rintro rfl
    obtain ⟨h1, q1⟩ := List.getElem?_eq_some_iff.mp e1
    obtain ⟨h2, q2⟩ := List.getElem?_eq_some_iff.mp h
    exact hn ((List.getElem_inj s.nd).mp (q1.trans q2.symm))
/-- a raised exception: its class, its own dict -/
def RepX (K : PySem.W.Frag) (ι : List Addr) (H : Hp) (e : Ex) (cls : Value) (dd : Option Addr) : Prop :=
  RepC K e.cls cls ∧ ((dd = none ∧ e.fs = []) ∨ ∃ a vs, dd = some a ∧ a ∉ ι ∧ H a = some (.xd vs) ∧ RepF K ι H e.fs vs)
/-- behind a result: what is wanted of a value, W of an exception -/
def Post {α : Type} (K : PySem.W.Frag) (W : WX) (σ : St) (ι : List Addr) (H : Hp) (r : R α) (P : α → Sto → List Addr → Hp → Prop) : Prop := match r with
  | .ok a S' => ∀ ι' H', Grow ι H ι' H' → Sim K ι' H' S' → P a S' ι' H'
  | .er e S' => ∀ ι' H' cls dd, Grow ι H ι' H' → Sim K ι' H' S' → RepX K ι' H' e cls dd → W cls dd σ H'
  | .stuck => False
theorem Post.bind {α β : Type} {K : PySem.W.Frag} {W : WX} {σ : St} {ι : List Addr} {H : Hp} {r : R α} {k : α → Sto → R β} {P : β → Sto → List Addr → Hp → Prop} (h : Post K W σ ι H (r.bind k) P) :
    Post K W σ ι H r fun a S1 ι1 H1 => Post K W σ ι1 H1 (k a S1) P := by
  cases r with
  | stuck => exact h
  | er e S => exact h
  | ok a S =>
    intro ι1 H1 G1 s1
    have h : Post K W σ ι H (k a S) P := h
    show Post K W σ ι1 H1 (k a S) P
    revert h
    cases k a S with
    | stuck => exact fun h => h
    | er e S => exact fun h ι2 H2 cls dd G2 s2 x => h ι2 H2 cls dd (G1.trans G2) s2 x
    | ok b S => exact fun h ι2 H2 G2 s2 => h ι2 H2 (G1.trans G2) s2
theorem Post.mono {α : Type} {K : PySem.W.Frag} {W : WX} {σ : St} {ι : List Addr} {H : Hp} {r : R α} {P P' : α → Sto → List Addr → Hp → Prop} (h : Post K W σ ι H r P)
    (i : ∀ a S' ι' H', Grow ι H ι' H' → Sim K ι' H' S' → P a S' ι' H' → P' a S' ι' H') : Post K W σ ι H r P' := by
  cases r with
  | stuck => exact h
  | er e S => exact h
  | ok a S => exact fun ι' H' G s => i a S ι' H' G s (h ι' H' G s)
theorem Post.here {α : Type} {K : PySem.W.Frag} {W : WX} {σ : St} {ι : List Addr} {H : Hp} {a : α} {S : Sto} {P : α → Sto → List Addr → Hp → Prop} (h : Post K W σ ι H (.ok a S) P) (s : Sim K ι H S) : P a S ι H := h ι H (Grow.refl ι H) s
/-- the world of a piece of code: the store's addresses, the data of the slots, the store -/
def rdE (K : PySem.W.Frag) (W : WX) (f : Ev → Sto → R D) : TE := fun σ H Q => ∃ ι ρ S, RepE K ι H σ ρ ∧ Sim K ι H S ∧ Post K W σ ι H (f ρ S) fun d _ ι' H' => ∀ v, RepV K ι' H' d v → Q v H'
def rdT (K : PySem.W.Frag) (W : WX) (f : Ev → Sto → R Bool) : TT := fun σ H Q => ∃ ι ρ S, RepE K ι H σ ρ ∧ Sim K ι H S ∧ Post K W σ ι H (f ρ S) fun b _ _ H' => Q b H'
def rdA (K : PySem.W.Frag) (W : WX) (f : Ev → Sto → R (List D)) : TA := fun σ H Q => ∃ ι ρ S, RepE K ι H σ ρ ∧ Sim K ι H S ∧ Post K W σ ι H (f ρ S) fun ds _ ι' H' => ∀ vs, RepL K ι' H' ds vs → Q vs H'
/-- behind a statement -/
def PostS (K : PySem.W.Frag) (W : WX) (E : Ends) (ι : List Addr) (H : Hp) (r : SR) : Prop := match r with
  | .nx ρ' S' => ∀ ι' H' σ', Grow ι H ι' H' → Sim K ι' H' S' → RepE K ι' H' σ' ρ' → E.nx σ' H'
  | .rt d S' => ∀ ι' H' v, Grow ι H ι' H' → Sim K ι' H' S' → RepV K ι' H' d v → E.rt v H'
  | .bk ρ' S' => ∀ ι' H' σ', Grow ι H ι' H' → Sim K ι' H' S' → RepE K ι' H' σ' ρ' → E.bk σ' H'
  | .ct ρ' S' => ∀ ι' H' σ', Grow ι H ι' H' → Sim K ι' H' S' → RepE K ι' H' σ' ρ' → E.ct σ' H'
  | .er e ρ' S' => ∀ ι' H' σ' cls dd, Grow ι H ι' H' → Sim K ι' H' S' → RepE K ι' H' σ' ρ' → RepX K ι' H' e cls dd → W cls dd σ' H'
  | .stuck => False
theorem PostS.grow {K : PySem.W.Frag} {W : WX} {E : Ends} {ι ι1 : List Addr} {H H1 : Hp} {r : SR} (h : PostS K W E ι H r) (G : Grow ι H ι1 H1) : PostS K W E ι1 H1 r := by
  cases r with
  | stuck => exact h
  | nx ρ S => exact fun ι' H' σ' G1 => h ι' H' σ' (G.trans G1)
  | bk ρ S => exact fun ι' H' σ' G1 => h ι' H' σ' (G.trans G1)
  | ct ρ S => exact fun ι' H' σ' G1 => h ι' H' σ' (G.trans G1)
  | rt d S => exact fun ι' H' v G1 => h ι' H' v (G.trans G1)
  | er e ρ S => exact fun ι' H' σ' cls dd G1 => h ι' H' σ' cls dd (G.trans G1)
def rdS (K : PySem.W.Frag) (W : WX) (F : Ev → Sto → SR) : TS := fun E σ H => ∃ ι ρ S, RepE K ι H σ ρ ∧ Sim K ι H S ∧ PostS K W E ι H (F ρ S)
abbrev DE (X : Cx) (W : WX) (e : Expr) (f : Ev → Sto → R D) : Prop := PE X e (rdE X.K W f)
abbrev DT (X : Cx) (W : WX) (e : Expr) (f : Ev → Sto → R Bool) : Prop := PT X e (rdT X.K W f)
abbrev DW (X : Cx) (W : WX) (e : Expr) (f : Ev → Sto → R Bool) : Prop := PW X e (rdT X.K W f)
abbrev DA (X : Cx) (W : WX) (es : List Expr) (f : Ev → Sto → R (List D)) : Prop := PA X es (rdA X.K W f)
abbrev DS (X : Cx) (W : WX) (st : Stmt) (F : Ev → Sto → SR) : Prop := PS X st (rdS X.K W F)
abbrev DSs (X : Cx) (W : WX) (st : List Stmt) (F : Ev → Sto → SR) : Prop := PSs X st (rdS X.K W F)
theorem PE.imp {X : Cx} {e : Expr} {t u : TE} (h : PE X e t) (i : ∀ σ H Q, u σ H Q → t σ H Q) : PE X e u := ⟨fun pins s σ H Q I q => h.run pins s σ H Q I (i σ H Q q)⟩
theorem PT.imp {X : Cx} {e : Expr} {t u : TT} (h : PT X e t) (i : ∀ σ H Q, u σ H Q → t σ H Q) : PT X e u := ⟨fun pins s σ H Q I q => h.run pins s σ H Q I (i σ H Q q)⟩
theorem PW.imp {X : Cx} {e : Expr} {t u : TT} (h : PW X e t) (i : ∀ σ H Q, u σ H Q → t σ H Q) : PW X e u := ⟨fun wh pins s σ H Q I q => h.run wh pins s σ H Q I (i σ H Q q)⟩
theorem PA.imp {X : Cx} {e : List Expr} {t u : TA} (h : PA X e t) (i : ∀ σ H Q, u σ H Q → t σ H Q) : PA X e u := ⟨fun p pins s σ H Q I q => h.run p pins s σ H Q I (i σ H Q q)⟩
theorem PS.imp {X : Cx} {e : Stmt} {t u : TS} (h : PS X e t) (i : ∀ D σ H, u D σ H → t D σ H) : PS X e u := ⟨fun pins s σ H D I q => h.run pins s σ H D I (i D σ H q)⟩
theorem PSs.imp {X : Cx} {e : List Stmt} {t u : TS} (h : PSs X e t) (i : ∀ D σ H, u D σ H → t D σ H) : PSs X e u := ⟨fun pins s σ H D I q => h.run pins s σ H D I (i D σ H q)⟩
end DL
namespace DL
open PySem PySem.Spec L2
open PyProof.Rows hiding St
section
variable {X : Cx} {W : WX} {pos : Pos}
def eVar (i : Nat) : Ev → Sto → R D := fun ρ S => match ρ[i]? with
  | some (some d) => .ok d S
  | _ => .stuck
def eC (d : D) : Ev → Sto → R D := fun _ S => .ok d S
theorem de_var (i : Nat) {x : Str} {pos : Pos} (hN : X.N[i]? = some x := by rfl) (hv : Vis X.env.scope x := by first | exact Or.inl rfl | exact Or.inr (Or.inl rfl) | exact Or.inr (Or.inr rfl)) (hd : (x == ("__debug__" : Str)) = false := by decide)
    (hcd : (x == ("__classdict__" : Str)) = false := by decide) : DE X W (.Name x pos) (eVar i) := by
  refine PE.imp (pe_var hN hv hd hcd) fun σ H Q ⟨ι, ρ, S, hE, hS, h⟩ => ?_
  unfold eVar at h
  split at h
  · rename_i d e
    obtain ⟨v, e', r⟩ := hE.get e
    exact ⟨v, e', h.here hS v r⟩
  · exact h.elim
theorem de_c {e : Expr} {d : D} {v : V} (h : PE X e (tC v)) (r : ∀ ι H, RepV X.K ι H d v) : DE X W e (eC d) :=
  PE.imp h fun σ H Q ⟨ι, ρ, S, hE, hS, h⟩ => h.here hS v (r ι H)
theorem de_int {i j pos} : DE X W (.Constant (.int i) j pos) (eC (.int i)) := de_c pe_int fun _ _ => by rw [RepV]
theorem de_bl {b j pos} : DE X W (.Constant (.bool b) j pos) (eC (.bl b)) := de_c pe_bl fun _ _ => by rw [RepV]
theorem de_non {j pos} : DE X W (.Constant .none j pos) (eC .non) := de_c pe_non fun _ _ => by rw [RepV]
theorem de_str {x j pos} : DE X W (.Constant (.str x) j pos) (eC (.str x)) := de_c pe_str fun _ _ => by rw [RepV]
/-- a module's constant: KRep says how the datum stands in the written part -/
def KRep (K : PySem.W.Frag) (u : Value) (d : D) : Prop := ∃ v, RelV v u ∧ ∀ ι H, RepV K ι H d v
theorem de_glob {x : Str} {d : D} {u : Value} {pos : Pos} (hg : Gl X x) (hm : X.mg x = some u) (r : KRep X.K u d) (hd : (x == ("__debug__" : Str)) = false := by decide) : DE X W (.Name x pos) (eC d) :=
  let ⟨v, rv, rr⟩ := r
  de_c (pe_glob hg hm rv hd) rr
def eOp (o : D → D → Sto → R D) (f g : Ev → Sto → R D) : Ev → Sto → R D := fun ρ S => (f ρ S).bind fun a S1 => (g ρ S1).bind fun b S2 => o a b S2
/-- a rule by values keeps the function o -/
def OpK (K : PySem.W.Frag) (r : R2) (o : D → D → Sto → R D) : Prop := ∀ (W : WX) (σ : St) (ι : List Addr) (H : Hp) (S : Sto) (x y : V) (a b : D) (Q : VK), Sim K ι H S → RepV K ι H a x → RepV K ι H b y →
  Post K W σ ι H (o a b S) (fun d _ ι' H' => ∀ v, RepV K ι' H' d v → Q v H') → r x y H Q
theorem op_seq {r : R2} {o : D → D → Sto → R D} {f g : Ev → Sto → R D} (k : OpK X.K r o) : ∀ σ H Q, rdE X.K W (eOp o f g) σ H Q → tOp r (rdE X.K W f) (rdE X.K W g) σ H Q := fun σ H Q ⟨ι, ρ, S, hE, hS, h⟩ => by
  refine ⟨ι, ρ, S, hE, hS, (Post.bind h).mono fun a S1 ι1 H1 G1 s1 h1 x rx => ?_⟩
  refine ⟨ι1, ρ, S1, hE.grow G1, s1, (Post.bind h1).mono fun b S2 ι2 H2 G2 s2 h2 y ry => ?_⟩
  exact k W σ ι2 H2 S2 x y a b Q s2 (RepV.grow G2 a x rx) ry h2
theorem de_op {a b : Expr} {op : Operator} {r : R2} {o : D → D → Sto → R D} {f g : Ev → Sto → R D} (ho : OpR X (binaryOp op) r) (k : OpK X.K r o) (ha : DE X W a f) (hb : DE X W b g) : DE X W (.BinOp a op b pos) (eOp o f g) :=
  PE.imp (pe_op ho ha hb) (op_seq k)
theorem de_cmp {a b : Expr} {op : CmpOp} {r : R2} {o : D → D → Sto → R D} {f g : Ev → Sto → R D} (ho : OpR X (compareOp op) r) (k : OpK X.K r o) (ha : DE X W a f) (hb : DE X W b g) (hm : behindInMarks op b = false) : DE X W (.Compare a [op] [b] pos) (eOp o f g) :=
  PE.imp (pe_cmpR ho ha hb hm) (op_seq k)
/-- a value's truth where it is a bool -/
def bOf : D → Sto → R Bool := fun d S => match d with
  | .bl b => .ok b S
  | _ => .stuck
def eT (f : Ev → Sto → R D) : Ev → Sto → R Bool := fun ρ S => (f ρ S).bind bOf
theorem bOf_post {K : PySem.W.Frag} {σ : St} {ι : List Addr} {H : Hp} {d : D} {S : Sto} {v : V} {Q : Bool → Hp → Prop} (h : Post K W σ ι H (bOf d S) fun b _ _ H' => Q b H') (s : Sim K ι H S) (r : RepV K ι H d v) : ∃ c, v = .bl c ∧ Q c H := by
  cases d with
  | bl b => rw [RepV] at r; exact ⟨b, r, h.here s⟩
  | _ => exact (show False from h).elim
theorem dt_of_test {e : Expr} {t : TE} {f : Ev → Sto → R D} (h : PT X e (tTest t)) (i : ∀ σ H Q, rdE X.K W f σ H Q → t σ H Q) : DT X W e (eT f) := by
  refine PT.imp h fun σ H Q ⟨ι, ρ, S, hE, hS, q⟩ => i σ H _ ⟨ι, ρ, S, hE, hS, (Post.bind q).mono fun d S1 ι1 H1 G1 s1 h1 v rv => bOf_post h1 s1 rv⟩
theorem dt_cmp {a b : Expr} {op : CmpOp} {r : R2} {o : D → D → Sto → R D} {f g : Ev → Sto → R D} (ho : OpR X (compareOp op) r) (k : OpK X.K r o) (ha : DE X W a f) (hb : DE X W b g) (hm : behindInMarks op b = false) : DT X W (.Compare a [op] [b] pos) (eT (eOp o f g)) :=
  dt_of_test (pt_cmpR ho ha hb hm) (op_seq k)
/-- an expression whose value is a bool, as a test -/
theorem dt_val {e : Expr} {f : Ev → Sto → R D} (h : DE X W e f) (he : ∀ whole, isTrue e X.env whole = (do let v ← whole; standAt e.pos; holding [v] (truthy v)) := by intro _; rfl) : DT X W e (eT f) := by
  refine PT.imp (pt_val h he) fun σ H Q ⟨ι, ρ, S, hE, hS, q⟩ => ⟨ι, ρ, S, hE, hS, (Post.bind q).mono fun d S1 ι1 H1 G1 s1 h1 v rv => bOf_post h1 s1 rv⟩
def eAnd (f g : Ev → Sto → R Bool) : Ev → Sto → R Bool := fun ρ S => (f ρ S).bind fun b S1 => if b = true then g ρ S1 else .ok false S1
def eOr (f g : Ev → Sto → R Bool) : Ev → Sto → R Bool := fun ρ S => (f ρ S).bind fun b S1 => if b = true then .ok true S1 else g ρ S1
def eNot (f : Ev → Sto → R Bool) : Ev → Sto → R Bool := fun ρ S => (f ρ S).bind fun b S1 => .ok (!b) S1
def eIf (c : Ev → Sto → R Bool) (f g : Ev → Sto → R D) : Ev → Sto → R D := fun ρ S => (c ρ S).bind fun b S1 => if b = true then f ρ S1 else g ρ S1
variable {a b c : Expr} {rest : List Expr} {f g : Ev → Sto → R Bool}
theorem dw_and1 (ha : DT X W a f) : DW X W (.BoolOp .And [a] pos) f := pw_and1 ha
theorem dw_or1 (ha : DT X W a f) : DW X W (.BoolOp .Or [a] pos) f := pw_or1 ha
theorem dw_and (ha : DT X W a f) (hb : DW X W (.BoolOp .And (b :: rest) pos) g) : DW X W (.BoolOp .And (a :: b :: rest) pos) (eAnd f g) := by
  refine PW.imp (pw_and ha hb) fun σ H Q ⟨ι, ρ, S, hE, hS, h⟩ => ⟨ι, ρ, S, hE, hS, (Post.bind h).mono fun k S1 ι1 H1 G1 s1 h1 => ?_⟩
  cases k with
  | true => rw [if_pos rfl] at h1 ⊢; exact ⟨ι1, ρ, S1, hE.grow G1, s1, h1⟩
  | false => rw [if_neg (by decide)] at h1 ⊢; exact h1.here s1
theorem dw_or (ha : DT X W a f) (hb : DW X W (.BoolOp .Or (b :: rest) pos) g) : DW X W (.BoolOp .Or (a :: b :: rest) pos) (eOr f g) := by
  refine PW.imp (pw_or ha hb) fun σ H Q ⟨ι, ρ, S, hE, hS, h⟩ => ⟨ι, ρ, S, hE, hS, (Post.bind h).mono fun k S1 ι1 H1 G1 s1 h1 => ?_⟩
  cases k with
  | false => rw [if_neg (by decide)] at h1 ⊢; exact ⟨ι1, ρ, S1, hE.grow G1, s1, h1⟩
  | true => rw [if_pos rfl] at h1 ⊢; exact h1.here s1
theorem dw_t (h : DW X W a f) : DT X W a f := PW.pt h
theorem dt_not (ha : DT X W a f) : DT X W (.UnaryOp .Not a pos) (eNot f) := by
  refine PT.imp (pt_not ha) fun σ H Q ⟨ι, ρ, S, hE, hS, h⟩ => ⟨ι, ρ, S, hE, hS, (Post.bind h).mono fun k S1 ι1 H1 G1 s1 h1 => ?_⟩
  exact h1.here s1
/-- and, or, not as values: all but the last a bool -/
def eAndV (f g : Ev → Sto → R D) : Ev → Sto → R D := fun ρ S => (f ρ S).bind fun d S1 => (bOf d S1).bind fun b S2 => if b = true then g ρ S2 else .ok (.bl false) S2
def eOrV (f g : Ev → Sto → R D) : Ev → Sto → R D := fun ρ S => (f ρ S).bind fun d S1 => (bOf d S1).bind fun b S2 => if b = true then .ok (.bl true) S2 else g ρ S2
def eNotV (f : Ev → Sto → R D) : Ev → Sto → R D := fun ρ S => (f ρ S).bind fun d S1 => (bOf d S1).bind fun b S2 => .ok (.bl (!b)) S2
end
end DL
namespace DL
open PySem PySem.Spec L2
open PyProof.Rows hiding St
theorem OpR.or {X : Cx} {f : Value → Value → Sem Value} {r r' : R2} (h : OpR X f r) (h' : OpR X f r') : OpR X f (fun x y H Q => r x y H Q ∨ r' x y H Q) := by
  intro pins s σ H x y v u Q I rx ry q
  rcases q with q | q
  · exact h pins s σ H x y v u Q I rx ry q
  · exact h' pins s σ H x y v u Q I rx ry q
/-- a new tuple, a new list that is not changed any more -/
theorem rep_tup {K : PySem.W.Frag} {ι : List Addr} {H : Hp} {S : Sto} {ds : List D} {vs : List V} {p : Addr} (s : Sim K ι H S) (h : H p = none) (r : RepL K ι H ds vs) : RepV K ι (upd H p (.tup vs)) (.tup ds) (.ref p) := by
  rw [RepV]
  exact ⟨p, vs, rfl, .inl ⟨s.free h, upd_same⟩, RepL.grow (Grow.upd h) ds vs r⟩
theorem rep_fl {K : PySem.W.Frag} {ι : List Addr} {H : Hp} {S : Sto} {ds : List D} {vs : List V} {p : Addr} (s : Sim K ι H S) (h : H p = none) (r : RepL K ι H ds vs) : RepV K ι (upd H p (.lst vs)) (.fl ds) (.ref p) := by
  rw [RepV]
  exact ⟨p, vs, rfl, ⟨s.free h, upd_same⟩, RepL.grow (Grow.upd h) ds vs r⟩
theorem new_tup {K : PySem.W.Frag} {W : WX} {σ : St} {ι : List Addr} {H : Hp} {S : Sto} {ds : List D} {vs : List V} {Q : VK} (h : Post K W σ ι H (.ok (.tup ds) S) fun d _ ι' H' => ∀ v, RepV K ι' H' d v → Q v H') (s : Sim K ι H S) (r : RepL K ι H ds vs) :
    ∀ p, H p = none → Q (.ref p) (upd H p (.tup vs)) := fun p hp => h ι _ (Grow.upd hp) (s.upd hp) _ (rep_tup s hp r)
theorem new_fl {K : PySem.W.Frag} {W : WX} {σ : St} {ι : List Addr} {H : Hp} {S : Sto} {ds : List D} {vs : List V} {Q : VK} (h : Post K W σ ι H (.ok (.fl ds) S) fun d _ ι' H' => ∀ v, RepV K ι' H' d v → Q v H') (s : Sim K ι H S) (r : RepL K ι H ds vs) :
    ∀ p, H p = none → Q (.ref p) (upd H p (.lst vs)) := fun p hp => h ι _ (Grow.upd hp) (s.upd hp) _ (rep_fl s hp r)
theorem new_loc {K : PySem.W.Frag} {W : WX} {σ : St} {ι : List Addr} {H : Hp} {S : Sto} {ds : List D} {vs : List V} {Q : VK} (h : Post K W σ ι H (.ok (.loc S.length) (S ++ [.lst ds])) fun d _ ι' H' => ∀ v, RepV K ι' H' d v → Q v H') (s : Sim K ι H S) (r : RepL K ι H ds vs) :
    ∀ p, H p = none → Q (.ref p) (upd H p (.lst vs)) := fun p hp => by
  refine h (ι ++ [p]) _ (Grow.push hp) (s.push hp ⟨vs, upd_same, RepL.grow (Grow.push hp) ds vs r⟩) _ ?_
  rw [RepV]
  exact ⟨p, by rw [← s.len]; simp, rfl⟩
def getL (S : Sto) (n : Nat) : Option (List D) := match S[n]? with
  | some (.lst ds) => some ds
  | _ => none
def getQ (S : Sto) (n : Nat) : Option (List D) := match S[n]? with
  | some (.lst ds) => some ds
  | some (.scr ds) => some ds
  | _ => none
def lstOf (S : Sto) : D → Option (List D)
  | .fl ds => some ds
  | .loc n => getL S n
  | _ => none
def seqOf (S : Sto) : D → Option (List D)
  | .tup ds => some ds
  | .fl ds => some ds
  | .kl ds => some ds
  | .loc n => getQ S n
  | _ => none
theorem getL_some {S : Sto} {n : Nat} {ds : List D} (h : getL S n = some ds) : S[n]? = some (.lst ds) := by
  unfold getL at h
  (try unfold ifp at h); split at h
  · rename_i e; cases h; exact e
  · cases h
theorem getL_of {S : Sto} {n : Nat} {ds : List D} (h : S[n]? = some (.lst ds)) : getL S n = some ds := by unfold getL; rw [h]
theorem getQ_of {S : Sto} {n : Nat} {ds : List D} (h : S[n]? = some (.lst ds)) : getQ S n = some ds := by unfold getQ; rw [h]
theorem lst_at {K : PySem.W.Frag} {ι : List Addr} {H : Hp} {S : Sto} {d : D} {x : V} {ds : List D} (s : Sim K ι H S) (r : RepV K ι H d x) (e : lstOf S d = some ds) : ∃ p vs, x = .ref p ∧ H p = some (.lst vs) ∧ RepL K ι H ds vs := by
  cases d with
  | fl xs => cases e; rw [RepV] at r; obtain ⟨a, vs, rfl, t, q⟩ := r; exact ⟨a, vs, rfl, t.2, q⟩
  | loc n =>
    rw [RepV] at r
    obtain ⟨a, ea, rfl⟩ := r
    obtain ⟨vs, h1, h2⟩ := s.ob _ _ _ ea (getL_some e)
    exact ⟨a, vs, rfl, h1, h2⟩
  | _ => cases e
theorem seq_at {K : PySem.W.Frag} {ι : List Addr} {H : Hp} {S : Sto} {d : D} {x : V} {ds : List D} (s : Sim K ι H S) (r : RepV K ι H d x) (e : seqOf S d = some ds) : ∃ p vs, x = .ref p ∧ (SqL K H p vs ∨ SqT K H p vs) ∧ RepL K ι H ds vs := by
  cases d with
  | tup xs => cases e; rw [RepV] at r; obtain ⟨a, vs, rfl, t, q⟩ := r; exact ⟨a, vs, rfl, .inr t.sq, q⟩
  | fl xs => cases e; rw [RepV] at r; obtain ⟨a, vs, rfl, t, q⟩ := r; exact ⟨a, vs, rfl, .inl t.sq, q⟩
  | kl xs => cases e; rw [RepV] at r; obtain ⟨a, vs, rfl, t, q⟩ := r; exact ⟨a, vs, rfl, .inl t.sq, q⟩
  | loc n =>
    rw [RepV] at r
    obtain ⟨a, ea, rfl⟩ := r
    have e : getQ S n = some ds := e
    unfold getQ at e
    (try unfold ifp at e); split at e
    · rename_i q; cases e
      obtain ⟨vs, h1, h2⟩ := s.ob _ _ _ ea q
      exact ⟨a, vs, rfl, .inl (SqL.of h1), h2⟩
    · rename_i q; cases e
      obtain ⟨o, vs, h1, h2⟩ := s.ob _ _ _ ea q
      exact ⟨a, vs, rfl, .inl (.inl (.inr ⟨o, h1⟩)), h2⟩
    · cases e
  | _ => cases e
theorem tup_at {K : PySem.W.Frag} {ι : List Addr} {H : Hp} {ds : List D} {x : V} (r : RepV K ι H (.tup ds) x) : ∃ p vs, x = .ref p ∧ SqT K H p vs ∧ RepL K ι H ds vs := by
  rw [RepV] at r; obtain ⟨a, vs, rfl, t, q⟩ := r; exact ⟨a, vs, rfl, t.sq, q⟩
theorem int_at {K : PySem.W.Frag} {ι : List Addr} {H : Hp} {i : Int} {x : V} (r : RepV K ι H (.int i) x) : x = .int i := by rw [RepV] at r; exact r
theorem str_at {K : PySem.W.Frag} {ι : List Addr} {H : Hp} {i : Str} {x : V} (r : RepV K ι H (.str i) x) : x = .str i := by rw [RepV] at r; exact r
theorem int_rep {K : PySem.W.Frag} {ι : List Addr} {H : Hp} {i : Int} : RepV K ι H (.int i) (.int i) := by rw [RepV]
theorem bl_rep {K : PySem.W.Frag} {ι : List Addr} {H : Hp} {i : Bool} : RepV K ι H (.bl i) (.bl i) := by rw [RepV]
theorem str_rep {K : PySem.W.Frag} {ι : List Addr} {H : Hp} {i : Str} : RepV K ι H (.str i) (.str i) := by rw [RepV]
theorem non_rep {K : PySem.W.Frag} {ι : List Addr} {H : Hp} : RepV K ι H .non .non := by rw [RepV]
theorem rep_nil {K : PySem.W.Frag} {ι : List Addr} {H : Hp} {ds : List D} (h : RepL K ι H ds []) : ds = [] := by
  cases ds with
  | nil => rfl
  | cons d ds => rw [RepL] at h; obtain ⟨v, r, e, _⟩ := h; cases e
noncomputable def dAdd (a b : D) (S : Sto) : R D := match a, b with
  | .int i, .int j => .ok (.int (i + j)) S
  | .str x, .str y => ifp (x.length + y.length ≤ sizeLine) (.ok (.str (x ++ y)) S) .stuck
  | .tup xs, .tup ys => ifp (xs.length + ys.length ≤ sizeLine) (.ok (.tup (xs ++ ys)) S) .stuck
  | a, b => match lstOf S a, lstOf S b with
    | some xs, some ys => ifp (xs.length + ys.length ≤ sizeLine) (.ok (.fl (xs ++ ys)) S) .stuck
    | _, _ => .stuck
def dSub (a b : D) (S : Sto) : R D := match a, b with
  | .int i, .int j => .ok (.int (i - j)) S
  | _, _ => .stuck
open Classical in
noncomputable def dMul (a b : D) (S : Sto) : R D := match a, b with
  | .int i, .int j => ifp (CMul i j ∨ CMulW i j) (.ok (.int (i * j)) S) .stuck
  | a, .int k => match lstOf S a with
    | some xs => ifp (-(2 ^ 63) ≤ k ∧ k < 2 ^ 63 ∧ xs.length * k.toNat ≤ sizeLine) (.ok (.fl (List.replicate k.toNat xs).flatten) S) .stuck
    | _ => .stuck
  | _, _ => .stuck
noncomputable def dFdiv (a b : D) (S : Sto) : R D := match a, b with
  | .int i, .int j => ifp (0 < j ∧ j.natAbs.log2 < 9000) (.ok (.int (i / j)) S) .stuck
  | _, _ => .stuck
def dMod (a b : D) (S : Sto) : R D := match a, b with
  | .int i, .int j => if 0 < j then .ok (.int (i % j)) S else .stuck
  | _, _ => .stuck
noncomputable def dPow (a b : D) (S : Sto) : R D := match a, b with
  | .int i, .int j => ifp (0 ≤ j ∧ j ≤ 1000000 ∧ i.natAbs < 2 ^ 64) (.ok (.int (i ^ j.toNat)) S) .stuck
  | _, _ => .stuck
def dCmp (p : Int → Int → Bool) (a b : D) (S : Sto) : R D := match a, b with
  | .int i, .int j => .ok (.bl (p i j)) S
  | _, _ => .stuck
section
variable {X : Cx} {K : PySem.W.Frag}
def rAddD (K : PySem.W.Frag) : R2 := fun x y H Q => (∃ i j, x = .int i ∧ y = .int j ∧ Q (.int (i + j)) H) ∨ (∃ i j, x = .str i ∧ y = .str j ∧ i.length + j.length ≤ sizeLine ∧ Q (.str (i ++ j)) H) ∨ rCatA K x y H Q ∨ rCat x y H Q
theorem or_add : OpR X (binaryOp .Add) (rAddD X.K) := OpR.or op_add (OpR.or op_add_str (OpR.or op_catA op_cat))
theorem RepL.replicate {K : PySem.W.Frag} {ι : List Addr} {H : Hp} {ds : List D} {vs : List V} (h : RepL K ι H ds vs) : ∀ n : Nat, RepL K ι H (List.replicate n ds).flatten (List.replicate n vs).flatten
  | 0 => RepL.nil
  | n + 1 => by
    rw [List.replicate_succ, List.replicate_succ, List.flatten_cons, List.flatten_cons]
    exact RepL.app ds vs h _ _ (RepL.replicate h n)
theorem k_cat {W : WX} {σ : St} {ι : List Addr} {H : Hp} {S : Sto} {a b : D} {x y : V} {Q : VK} (s : Sim K ι H S) (rx : RepV K ι H a x) (ry : RepV K ι H b y)
    (h : Post K W σ ι H (match lstOf S a, lstOf S b with
    | some xs, some ys => ifp (xs.length + ys.length ≤ sizeLine) (.ok (.fl (xs ++ ys)) S) .stuck
    | _, _ => .stuck) fun d _ ι' H' => ∀ v, RepV K ι' H' d v → Q v H') : rCat x y H Q := by
  (try unfold ifp at h); split at h
  · rename_i xs ys e1 e2
    (try unfold ifp at h); split at h
    · rename_i hl
      obtain ⟨p, vs, rfl, hp, rp⟩ := lst_at s rx e1
      obtain ⟨q, us, rfl, hq, rq⟩ := lst_at s ry e2
      refine ⟨p, q, vs, us, rfl, rfl, hp, hq, ?_, new_fl h s (RepL.app _ _ rp _ _ rq)⟩
      rw [← RepL.length _ _ rp, ← RepL.length _ _ rq]; exact hl
    · exact h.elim
  · exact h.elim
theorem k_add : OpK K (rAddD K) dAdd := by
  intro W σ ι H S x y a b Q s rx ry h
  unfold dAdd at h
  (try unfold ifp at h); split at h
  · rename_i i j
    exact .inl ⟨i, j, int_at rx, int_at ry, h.here s _ int_rep⟩
  · rename_i i j
    (try unfold ifp at h); split at h
    · rename_i hl
      exact .inr (.inl ⟨i, j, str_at rx, str_at ry, hl, h.here s _ str_rep⟩)
    · exact h.elim
  · rename_i xs ys
    (try unfold ifp at h); split at h
    · rename_i hl
      obtain ⟨p, vs, rfl, hp, rp⟩ := tup_at rx
      obtain ⟨q, us, rfl, hq, rq⟩ := tup_at ry
      refine .inr (.inr (.inl ⟨p, q, vs, us, rfl, rfl, hp, hq, ?_, fun e => ?_, fun e1 e => ?_, fun _ _ => new_tup h s (RepL.app _ _ rp _ _ rq)⟩))
      · rw [← RepL.length _ _ rp, ← RepL.length _ _ rq]; exact hl
      · subst e
        have := rep_nil rp
        subst this
        exact h.here s _ (by simpa using ry)
      · subst e
        have := rep_nil rq
        subst this
        exact h.here s _ (by simpa using rx)
    · exact h.elim
  · exact .inr (.inr (.inr (k_cat s rx ry h)))
theorem k_sub : OpK K (rI0 fun i j => .int (i - j)) dSub := by
  intro W σ ι H S x y a b Q s rx ry h
  unfold dSub at h
  (try unfold ifp at h); split at h
  · rename_i i j
    exact ⟨i, j, int_at rx, int_at ry, h.here s _ int_rep⟩
  · exact h.elim
def rMulD : R2 := fun x y H Q => rI CMul (fun i j => .int (i * j)) x y H Q ∨ rI CMulW (fun i j => .int (i * j)) x y H Q ∨ rRep x y H Q
theorem or_mul : OpR X (binaryOp .Mult) rMulD := OpR.or op_mul (OpR.or op_mulW op_rep)
theorem k_mul : OpK K rMulD dMul := by
  intro W σ ι H S x y a b Q s rx ry h
  unfold dMul at h
  (try unfold ifp at h); split at h
  · rename_i i j
    (try unfold ifp at h); split at h
    · rename_i hl
      rcases hl with hl | hl
      · exact .inl ⟨i, j, int_at rx, int_at ry, hl, h.here s _ int_rep⟩
      · exact .inr (.inl ⟨i, j, int_at rx, int_at ry, hl, h.here s _ int_rep⟩)
    · exact h.elim
  · rename_i k _
    (try unfold ifp at h); split at h
    · rename_i xs e
      (try unfold ifp at h); split at h
      · rename_i hl
        obtain ⟨p, vs, rfl, hp, rp⟩ := lst_at s rx e
        refine .inr (.inr ⟨p, k, vs, rfl, int_at ry, hp, hl.1, hl.2.1, ?_, new_fl h s (RepL.replicate rp _)⟩)
        rw [← RepL.length _ _ rp]; exact hl.2.2
      · exact h.elim
    · exact h.elim
  · exact h.elim
theorem k_fdiv : OpK K (rI CDivW fun i j => .int (i / j)) dFdiv := by
  intro W σ ι H S x y a b Q s rx ry h
  unfold dFdiv at h
  (try unfold ifp at h); split at h
  · rename_i i j
    (try unfold ifp at h); split at h
    · rename_i hl
      exact ⟨i, j, int_at rx, int_at ry, hl, h.here s _ int_rep⟩
    · exact h.elim
  · exact h.elim
theorem k_mod : OpK K (rI (fun _ j => j ≠ 0) fun i j => .int (i.fmod j)) dMod := by
  intro W σ ι H S x y a b Q s rx ry h
  unfold dMod at h
  (try unfold ifp at h); split at h
  · rename_i i j
    (try unfold ifp at h); split at h
    · rename_i hl
      refine ⟨i, j, int_at rx, int_at ry, by omega, ?_⟩
      show Q (V.int (i.fmod j)) H
      rw [Int.fmod_eq_emod_of_nonneg i (by omega)]
      exact h.here s _ int_rep
    · exact h.elim
  · exact h.elim
theorem k_pow : OpK K (rI CPow fun i j => .int (i ^ j.toNat)) dPow := by
  intro W σ ι H S x y a b Q s rx ry h
  unfold dPow at h
  (try unfold ifp at h); split at h
  · rename_i i j
    (try unfold ifp at h); split at h
    · rename_i hl
      exact ⟨i, j, int_at rx, int_at ry, hl, h.here s _ int_rep⟩
    · exact h.elim
  · exact h.elim
theorem k_cmp {p : Int → Int → Bool} : OpK K (rI0 fun i j => .bl (p i j)) (dCmp p) := by
  intro W σ ι H S x y a b Q s rx ry h
  unfold dCmp at h
  (try unfold ifp at h); split at h
  · rename_i i j
    exact ⟨i, j, int_at rx, int_at ry, h.here s _ bl_rep⟩
  · exact h.elim
def dLt : D → D → Sto → R D := dCmp fun i j => decide (i < j)
def dLe : D → D → Sto → R D := dCmp fun i j => decide (i ≤ j)
def dGt : D → D → Sto → R D := dCmp fun i j => decide (j < i)
def dGe : D → D → Sto → R D := dCmp fun i j => decide (j ≤ i)
end
end DL
namespace DL
open PySem PySem.Spec L2
open PyProof.Rows hiding St
section
variable {X : Cx} {W : WX} {pos : Pos} {e : Expr} {es : List Expr}
def aNil : Ev → Sto → R (List D) := fun _ S => .ok [] S
def aCons (f : Ev → Sto → R D) (g : Ev → Sto → R (List D)) : Ev → Sto → R (List D) := fun ρ S => (f ρ S).bind fun d S1 => (g ρ S1).bind fun ds S2 => .ok (d :: ds) S2
def sOf (d : D) (S : Sto) : R (List D) := match seqOf S d with
  | some ds => .ok ds S
  | none => .stuck
def aStar (f : Ev → Sto → R D) (g : Ev → Sto → R (List D)) : Ev → Sto → R (List D) := fun ρ S => (f ρ S).bind fun d S1 => (sOf d S1).bind fun xs S2 => (g ρ S2).bind fun ds S3 => .ok (xs ++ ds) S3
theorem da_nil : DA X W [] aNil := PA.imp pa_nil fun σ H Q ⟨ι, ρ, S, hE, hS, h⟩ => h.here hS [] RepL.nil
theorem da_cons {f : Ev → Sto → R D} {g : Ev → Sto → R (List D)} (ha : DE X W e f) (hr : DA X W es g) (hs : starEach (e :: es) X.env = (false, eval e X.env) :: starEach es X.env := by rfl) : DA X W (e :: es) (aCons f g) := by
  refine PA.imp (pa_cons ha hr hs) fun σ H Q ⟨ι, ρ, S, hE, hS, h⟩ => ⟨ι, ρ, S, hE, hS, (Post.bind h).mono fun d S1 ι1 H1 G1 s1 h1 v rv => ?_⟩
  refine ⟨ι1, ρ, S1, hE.grow G1, s1, (Post.bind h1).mono fun ds S2 ι2 H2 G2 s2 h2 vs rs => ?_⟩
  exact h2.here s2 _ (RepL.cons (RepV.grow G2 d v rv) rs)
noncomputable def eTup (g : Ev → Sto → R (List D)) : Ev → Sto → R D := fun ρ S => (g ρ S).bind fun ds S1 => ifp (ds.length ≤ sizeLine) (.ok (.tup ds) S1) .stuck
noncomputable def eFl (g : Ev → Sto → R (List D)) : Ev → Sto → R D := fun ρ S => (g ρ S).bind fun ds S1 => ifp (ds.length ≤ sizeLine) (.ok (.fl ds) S1) .stuck
noncomputable def eLoc (g : Ev → Sto → R (List D)) : Ev → Sto → R D := fun ρ S => (g ρ S).bind fun ds S1 => ifp (ds.length ≤ sizeLine) (.ok (.loc S1.length) (S1 ++ [.lst ds])) .stuck
theorem de_tup {k} {g : Ev → Sto → R (List D)} (h : DA X W es g) : DE X W (.Tuple es k pos) (eTup g) := by
  refine PE.imp (pe_tup h) fun σ H Q ⟨ι, ρ, S, hE, hS, h⟩ => ⟨ι, ρ, S, hE, hS, (Post.bind h).mono fun ds S1 ι1 H1 G1 s1 h1 vs rs => ?_⟩
  (try unfold ifp at h1); split at h1
  · rename_i hl
    exact ⟨by rw [← RepL.length _ _ rs]; exact hl, new_tup h1 s1 rs⟩
  · exact h1.elim
theorem de_fl {g : Ev → Sto → R (List D)} (h : DA X W es g) : DE X W (.List es pos) (eFl g) := by
  refine PE.imp (pe_lst h) fun σ H Q ⟨ι, ρ, S, hE, hS, h⟩ => ⟨ι, ρ, S, hE, hS, (Post.bind h).mono fun ds S1 ι1 H1 G1 s1 h1 vs rs => ?_⟩
  (try unfold ifp at h1); split at h1
  · rename_i hl
    exact ⟨by rw [← RepL.length _ _ rs]; exact hl, new_fl h1 s1 rs⟩
  · exact h1.elim
theorem de_loc {g : Ev → Sto → R (List D)} (h : DA X W es g) : DE X W (.List es pos) (eLoc g) := by
  refine PE.imp (pe_lst h) fun σ H Q ⟨ι, ρ, S, hE, hS, h⟩ => ⟨ι, ρ, S, hE, hS, (Post.bind h).mono fun ds S1 ι1 H1 G1 s1 h1 vs rs => ?_⟩
  (try unfold ifp at h1); split at h1
  · rename_i hl
    exact ⟨by rw [← RepL.length _ _ rs]; exact hl, new_loc h1 s1 rs⟩
  · exact h1.elim
noncomputable def dIx (a b : D) (S : Sto) : R D := match a, b with
  | .str z, .int i => ifp (z.length ≤ sizeLine) (match atI z.cps.toList i with
    | some c => .ok (.str ⟨#[c]⟩) S
    | none => .stuck) .stuck
  | a, .int i => match seqOf S a with
    | some xs => (match atI xs i with
      | some d => .ok d S
      | none => .stuck)
    | none => .stuck
  | _, _ => .stuck
theorem atI_rep {K : PySem.W.Frag} {ι : List Addr} {H : Hp} {ds : List D} {vs : List V} {i : Int} {d : D} (r : RepL K ι H ds vs) (e : atI ds i = some d) : ∃ v, atI vs i = some v ∧ RepV K ι H d v := by
  unfold atI at e ⊢
  rw [← RepL.length _ _ r]
  cases h : ixN ds.length i with
  | none => rw [h] at e; cases e
  | some j =>
    rw [h] at e
    exact RepL.get _ _ r j d e
theorem k_ix {K : PySem.W.Frag} : OpK K (rIx K) dIx := by
  intro W σ ι H S x y a b Q s rx ry h
  unfold dIx at h
  (try unfold ifp at h); split at h
  · rename_i z i
    (try unfold ifp at h); split at h
    · rename_i hz
      (try unfold ifp at h); split at h
      · rename_i c hc
        exact .inr (.inr ⟨z, i, c, str_at rx, int_at ry, hz, hc, h.here s _ str_rep⟩)
      · exact h.elim
    · exact h.elim
  · rename_i i _
    (try unfold ifp at h); split at h
    · rename_i xs e
      (try unfold ifp at h); split at h
      · rename_i d hd
        obtain ⟨p, vs, rfl, q, rl⟩ := seq_at s rx e
        obtain ⟨v, hv, rv⟩ := atI_rep rl hd
        rcases q with q | q
        · exact .inl ⟨p, vs, i, v, rfl, int_at ry, q, hv, h.here s _ rv⟩
        · exact .inr (.inl ⟨p, vs, i, v, rfl, int_at ry, q, hv, h.here s _ rv⟩)
      · exact h.elim
    · exact h.elim
  · exact h.elim
theorem de_ix {a b : Expr} {f g : Ev → Sto → R D} (ha : DE X W a f) (hb : DE X W b g) (hs : PlainIx b := by exact fun _ _ => rfl) : DE X W (.Subscript a b pos) (eOp dIx f g) :=
  PE.imp (pe_ix ix_seq ha hb hs) (op_seq k_ix)
def rdO (K : PySem.W.Frag) (W : WX) (f : Ev → Sto → R (Option Int)) : TO := fun σ H Q => ∃ ι ρ S, RepE K ι H σ ρ ∧ Sim K ι H S ∧ Post K W σ ι H (f ρ S) fun b _ _ H' => Q b H'
abbrev DO (X : Cx) (W : WX) (e : Option Expr) (f : Ev → Sto → R (Option Int)) : Prop := PO X e (rdO X.K W f)
theorem PO.imp {X : Cx} {e : Option Expr} {t u : TO} (h : PO X e t) (i : ∀ σ H Q, u σ H Q → t σ H Q) : PO X e u := ⟨fun pins s σ H Q I q => h.run pins s σ H Q I (i σ H Q q)⟩
def oNone : Ev → Sto → R (Option Int) := fun _ S => .ok none S
def iOf (d : D) (S : Sto) : R Int := match d with
  | .int i => .ok i S
  | _ => .stuck
def oSome (f : Ev → Sto → R D) : Ev → Sto → R (Option Int) := fun ρ S => (f ρ S).bind fun d S1 => (iOf d S1).bind fun i S2 => .ok (some i) S2
theorem do_none : DO X W none oNone := PO.imp po_none fun σ H Q ⟨ι, ρ, S, hE, hS, h⟩ => h.here hS
theorem do_some {f : Ev → Sto → R D} (h : DE X W e f) : DO X W (some e) (oSome f) := by
  refine PO.imp (po_some h) fun σ H Q ⟨ι, ρ, S, hE, hS, h⟩ => ⟨ι, ρ, S, hE, hS, (Post.bind h).mono fun d S1 ι1 H1 G1 s1 h1 v rv => ?_⟩
  cases d with
  | int i => exact ⟨i, int_at rv, h1.here s1⟩
  | _ => exact (show False from h1).elim
def cut {α : Type} (xs : List α) (lo hi : Option Int) : List α := (xs.drop (HT.sIx xs.length 0 lo)).take (HT.sIx xs.length xs.length hi - HT.sIx xs.length 0 lo)
noncomputable def dSl (mk : List D → Sto → R D) (a : D) (lo hi : Option Int) (S : Sto) : R D := match a with
  | .str z => ifp (z.length ≤ sizeLine) (.ok (.str (cutS z lo hi)) S) .stuck
  | .tup xs => .ok (.tup (cut xs lo hi)) S
  | a => match lstOf S a with
    | some xs => mk (cut xs lo hi) S
    | none => .stuck
def mkFl (ds : List D) (S : Sto) : R D := .ok (.fl ds) S
/-- a new list comes, frozen or into the store -/
def MkOk (mk : List D → Sto → R D) : Prop := ∀ (K : PySem.W.Frag) (W : WX) (σ : St) (ι : List Addr) (H : Hp) (S : Sto) (ds : List D) (vs : List V) (Q : VK), Post K W σ ι H (mk ds S) (fun d _ ι' H' => ∀ v, RepV K ι' H' d v → Q v H') → Sim K ι H S → RepL K ι H ds vs →
  ∀ p, H p = none → Q (.ref p) (upd H p (.lst vs))
theorem mk_fl : MkOk mkFl := fun _ _ _ _ _ _ _ _ _ h s r => new_fl h s r
noncomputable def eSl (mk : List D → Sto → R D) (f : Ev → Sto → R D) (l u : Ev → Sto → R (Option Int)) : Ev → Sto → R D := fun ρ S => (f ρ S).bind fun d S1 => (l ρ S1).bind fun lo S2 => (u ρ S2).bind fun hi S3 => dSl mk d lo hi S3
theorem cut_rep {K : PySem.W.Frag} {ι : List Addr} {H : Hp} {ds : List D} {vs : List V} (r : RepL K ι H ds vs) (lo hi : Option Int) : RepL K ι H (cut ds lo hi) (cutV vs lo hi) := by
  unfold cut cutV
  rw [← RepL.length _ _ r]
  exact RepL.take _ _ _ (RepL.drop _ _ _ r)
theorem cut_whole {α : Type} (xs : List α) (lo hi : Option Int) (h : HT.sIx xs.length 0 lo = 0 ∧ HT.sIx xs.length xs.length hi = xs.length) : cut xs lo hi = xs := by
  unfold cut
  rw [h.1, h.2]
  simp
theorem de_sl {mk : List D → Sto → R D} {lo hi : Option Expr} {p2 : Pos} {f : Ev → Sto → R D} {l u : Ev → Sto → R (Option Int)} (m : MkOk mk) (he : DE X W e f) (hl : DO X W lo l) (hu : DO X W hi u) : DE X W (.Subscript e (.Slice lo hi none p2) pos) (eSl mk f l u) := by
  refine PE.imp (pe_slice (SlR.or sl_str (SlR.or sl_tupA sl_list)) he hl hu) fun σ H Q ⟨ι, ρ, S, hE, hS, h⟩ => ⟨ι, ρ, S, hE, hS, (Post.bind h).mono fun d S1 ι1 H1 G1 s1 h1 v rv => ?_⟩
  refine ⟨ι1, ρ, S1, hE.grow G1, s1, (Post.bind h1).mono fun lo S2 ι2 H2 G2 s2 h2 => ?_⟩
  refine ⟨ι2, ρ, S2, (hE.grow G1).grow G2, s2, (Post.bind h2).mono fun hi S3 ι3 H3 G3 s3 h3 => ?_⟩
  have rv := RepV.grow G3 d v (RepV.grow G2 d v rv)
  unfold dSl at h3
  (try unfold ifp at h3); split at h3
  · (try unfold ifp at h3); split at h3
    · rename_i hz
      exact .inl ⟨_, str_at rv, hz, h3.here s3 _ str_rep⟩
    · exact h3.elim
  · obtain ⟨p, vs, rfl, q, rl⟩ := tup_at rv
    refine .inr (.inl ⟨p, vs, rfl, q, fun e => ?_, fun _ => new_tup h3 s3 (cut_rep rl _ _)⟩)
    rw [← RepL.length _ _ rl] at e
    rw [cut_whole _ _ _ e] at h3
    exact h3.here s3 _ rv
  · (try unfold ifp at h3); split at h3
    · rename_i xs e
      obtain ⟨p, vs, rfl, q, rl⟩ := lst_at s3 rv e
      exact .inr (.inr ⟨p, vs, rfl, SqL.of q, m _ _ _ _ _ _ _ _ _ h3 s3 (cut_rep rl _ _)⟩)
    · exact h3.elim
end
end DL
namespace DL
open PySem PySem.Spec L2
open PyProof.Rows hiding St
def keyPy : Key → PyData
  | .inl i => .int i
  | .inr x => .str x
mutual
def py : D → Option PyData
  | .non => some .none
  | .bl b => some (.bool b)
  | .int i => some (.int i)
  | .str x => some (.str x)
  | .tup ds => (pyL ds).map .tuple
  | .fl ds => (pyL ds).map .list
  | .kl _ => none
  | .fd kvs => (pyK kvs).map .dict
  | .ty _ => none
  | .fn _ => none
  | .exc _ _ => none
  | .loc _ => none
def pyL : List D → Option (List PyData)
  | [] => some []
  | d :: ds => (py d).bind fun p => (pyL ds).map fun ps => p :: ps
def pyK : List (Key × D) → Option (List (PyData × PyData))
  | [] => some []
  | (k, d) :: ds => (py d).bind fun p => (pyK ds).map fun ps => (keyPy k, p) :: ps
end
def pyS (S : Sto) : D → Option PyData
  | .loc n => (getQ S n).bind fun ds => (pyL ds).map .list
  | d => py d
mutual
theorem py_dp {K : PySem.W.Frag} {ι : List Addr} {H : Hp} : ∀ (d : D) (v : V) (p : PyData), RepV K ι H d v → py d = some p → p.hasDict = false → Dp K H v p
  | .non, v, p, r, e, _ => by rw [RepV] at r; rw [py] at e; cases e; subst r; exact .non
  | .bl b, v, p, r, e, _ => by rw [RepV] at r; rw [py] at e; cases e; subst r; exact .bl b
  | .int i, v, p, r, e, _ => by rw [RepV] at r; rw [py] at e; cases e; subst r; exact .int i
  | .str x, v, p, r, e, _ => by rw [RepV] at r; rw [py] at e; cases e; subst r; exact .str x
  | .tup ds, v, p, r, e, n => by
    rw [RepV] at r
    obtain ⟨a, vs, rfl, t, q⟩ := r
    rw [py] at e
    cases h : pyL ds with
    | none => rw [h] at e; cases e
    | some ps =>
      rw [h] at e; cases e
      exact .tup t.sq (pyL_dp ds vs ps q h (by simpa [PyData.hasDict] using n))
  | .fl ds, v, p, r, e, n => by
    rw [RepV] at r
    obtain ⟨a, vs, rfl, t, q⟩ := r
    rw [py] at e
    cases h : pyL ds with
    | none => rw [h] at e; cases e
    | some ps =>
      rw [h] at e; cases e
      exact .lst t.sq (pyL_dp ds vs ps q h (by simpa [PyData.hasDict] using n))
  | .kl _, v, p, r, e, _ => by rw [py] at e; cases e
  | .fd kvs, v, p, r, e, n => by
    rw [py] at e
    cases h : pyK kvs with
    | none => rw [h] at e; cases e
    | some ps => rw [h] at e; cases e; simp [PyData.hasDict] at n
  | .ty _, v, p, r, e, _ => by rw [py] at e; cases e
  | .fn _, v, p, r, e, _ => by rw [py] at e; cases e
  | .exc _ _, v, p, r, e, _ => by rw [py] at e; cases e
  | .loc _, v, p, r, e, _ => by rw [py] at e; cases e
theorem pyL_dp {K : PySem.W.Frag} {ι : List Addr} {H : Hp} : ∀ (ds : List D) (vs : List V) (ps : List PyData), RepL K ι H ds vs → pyL ds = some ps → PyData.hasDictAll ps = false → DpAll K H vs ps
  | [], vs, ps, r, e, _ => by rw [RepL] at r; rw [pyL] at e; cases e; subst r; exact .nil
  | d :: ds, vs, ps, r, e, n => by
    rw [RepL] at r
    obtain ⟨v, us, rfl, a, b⟩ := r
    rw [pyL] at e
    cases h : py d with
    | none => rw [h] at e; cases e
    | some p =>
      rw [h] at e
      cases h2 : pyL ds with
      | none => rw [h2] at e; cases e
      | some qs =>
        rw [h2] at e; cases e
        simp only [PyData.hasDictAll, Bool.or_eq_false_iff] at n
        exact .cons (py_dp d v p a h n.1) (pyL_dp ds us qs b h2 n.2)
end
theorem pyS_dp {K : PySem.W.Frag} {ι : List Addr} {H : Hp} {S : Sto} {d : D} {v : V} {p : PyData} (s : Sim K ι H S) (r : RepV K ι H d v) (e : pyS S d = some p) (n : p.hasDict = false) : Dp K H v p := by
  cases d with
  | loc m =>
    have e : (getQ S m).bind (fun ds => (pyL ds).map .list) = some p := e
    cases h : getQ S m with
    | none => rw [h] at e; cases e
    | some ds =>
      rw [h] at e
      have e : (pyL ds).map PyData.list = some p := e
      cases h2 : pyL ds with
      | none => rw [h2] at e; cases e
      | some ps =>
        rw [h2] at e; cases e
        rw [RepV] at r
        obtain ⟨a, ea, rfl⟩ := r
        have n : PyData.hasDictAll ps = false := by simpa [PyData.hasDict] using n
        unfold getQ at h
        split at h
        · rename_i q; cases h
          obtain ⟨vs, h1, h3⟩ := s.ob _ _ _ ea q
          exact .lst (SqL.of h1) (pyL_dp _ _ _ h3 h2 n)
        · rename_i q; cases h
          obtain ⟨o, vs, h1, h3⟩ := s.ob _ _ _ ea q
          exact .lst (.inl (.inr ⟨o, h1⟩)) (pyL_dp _ _ _ h3 h2 n)
        · cases h
  | _ => exact py_dp _ v p r e n
def dEqP (neg : Bool) (a b : D) (S : Sto) : R D := match pyS S a, pyS S b with
  | some p, some q => if SeqAt.shaped p = true ∧ SeqAt.shaped q = true then .ok (.bl (if neg then !PyData.eqv p q else PyData.eqv p q)) S else .stuck
  | _, _ => .stuck
def dEq (neg : Bool) (a b : D) (S : Sto) : R D := match a, b with
  | .str x, .str y => .ok (.bl (if neg then !decide (x = y) else decide (x = y))) S
  | a, b => dEqP neg a b S
theorem noDict_shaped {p : PyData} (h : SeqAt.shaped p = true) : p.hasDict = false := PyData.hasDict_of_canLay p (SeqAt.canLay_of_shaped h)
theorem or_eq {X : Cx} (hu : X.A.units + 64 < cLine) : OpR X (compareOp .Eq) (fun x y H Q => rEq x y H Q ∨ rEqD X.K x y H Q) := OpR.or op_eq (op_eqD hu)
theorem or_ne {X : Cx} (hu : X.A.units + 64 < cLine) : OpR X (compareOp .NotEq) (fun x y H Q => rNe x y H Q ∨ rNeD X.K x y H Q) := OpR.or op_ne (op_neD hu)
theorem dec_str (x y : Str) : decide ((V.str x) = V.str y) = decide (x = y) := by
  by_cases e : x = y
  · subst e; simp
  · rw [decide_eq_false e, decide_eq_false fun z => e (V.str.inj z)]
theorem k_eqD {K : PySem.W.Frag} : OpK K (fun x y H Q => rEq x y H Q ∨ rEqD K x y H Q) (dEq false) := by
  intro W σ ι H S x y a b Q s rx ry h
  unfold dEq at h
  split at h
  · rename_i u v
    rw [str_at rx, str_at ry]
    refine .inl ⟨rfl, ?_⟩
    rw [dec_str]
    exact h.here s _ bl_rep
  · unfold dEqP at h
    split at h
    · rename_i p q e1 e2
      split at h
      · rename_i hl
        exact .inr ⟨p, q, pyS_dp s rx e1 (noDict_shaped hl.1), pyS_dp s ry e2 (noDict_shaped hl.2), hl.1, hl.2, h.here s _ bl_rep⟩
      · exact h.elim
    · exact h.elim
theorem k_neD {K : PySem.W.Frag} : OpK K (fun x y H Q => rNe x y H Q ∨ rNeD K x y H Q) (dEq true) := by
  intro W σ ι H S x y a b Q s rx ry h
  unfold dEq at h
  split at h
  · rename_i u v
    rw [str_at rx, str_at ry]
    refine .inl ⟨rfl, ?_⟩
    rw [dec_str]
    exact h.here s _ bl_rep
  · unfold dEqP at h
    split at h
    · rename_i p q e1 e2
      split at h
      · rename_i hl
        exact .inr ⟨p, q, pyS_dp s rx e1 (noDict_shaped hl.1), pyS_dp s ry e2 (noDict_shaped hl.2), hl.1, hl.2, h.here s _ bl_rep⟩
      · exact h.elim
    · exact h.elim
def isN : D → Bool
  | .non => true
  | _ => false
def dIsN (neg : Bool) (a b : D) (S : Sto) : R D := match b with
  | .non => .ok (.bl (if neg then !isN a else isN a)) S
  | _ => .stuck
end DL
namespace DL
open PySem PySem.Spec L2
open PyProof.Rows hiding St
def R.toS {α : Type} (r : R α) (ρ : Ev) (k : α → Sto → SR) : SR := match r with
  | .ok a S => k a S
  | .er e S => .er e ρ S
  | .stuck => .stuck
@[simp] theorem R.toS_ok {α : Type} (a : α) (S : Sto) (ρ : Ev) (k : α → Sto → SR) : (R.ok a S).toS ρ k = k a S := rfl
@[simp] theorem R.toS_er {α : Type} (e : Ex) (S : Sto) (ρ : Ev) (k : α → Sto → SR) : (R.er e S : R α).toS ρ k = .er e ρ S := rfl
@[simp] theorem R.toS_stuck {α : Type} (ρ : Ev) (k : α → Sto → SR) : (R.stuck : R α).toS ρ k = .stuck := rfl
def SR.next (r : SR) (k : Ev → Sto → SR) : SR := match r with
  | .nx ρ S => k ρ S
  | .rt d S => .rt d S
  | .bk ρ S => .bk ρ S
  | .ct ρ S => .ct ρ S
  | .er e ρ S => .er e ρ S
  | .stuck => .stuck
@[simp] theorem SR.next_nx (ρ : Ev) (S : Sto) (k : Ev → Sto → SR) : (SR.nx ρ S).next k = k ρ S := rfl
@[simp] theorem SR.next_rt (d : D) (S : Sto) (k : Ev → Sto → SR) : (SR.rt d S).next k = .rt d S := rfl
@[simp] theorem SR.next_er (e : Ex) (ρ : Ev) (S : Sto) (k : Ev → Sto → SR) : (SR.er e ρ S).next k = .er e ρ S := rfl
@[simp] theorem SR.next_bk (ρ : Ev) (S : Sto) (k : Ev → Sto → SR) : (SR.bk ρ S).next k = .bk ρ S := rfl
@[simp] theorem SR.next_ct (ρ : Ev) (S : Sto) (k : Ev → Sto → SR) : (SR.ct ρ S).next k = .ct ρ S := rfl
@[simp] theorem SR.next_stuck (k : Ev → Sto → SR) : (SR.stuck).next k = .stuck := rfl
theorem PostS.bind {α : Type} {K : PySem.W.Frag} {W : WX} {E : Ends} {σ : St} {ρ : Ev} {ι : List Addr} {H : Hp} {r : R α} {k : α → Sto → SR} (h : PostS K W E ι H (r.toS ρ k)) (hE : RepE K ι H σ ρ) :
    Post K W σ ι H r fun a S1 ι1 H1 => PostS K W E ι1 H1 (k a S1) := by
  cases r with
  | stuck => exact h
  | er e S => exact fun ι' H' cls dd G s x => h ι' H' σ cls dd G s (hE.grow G) x
  | ok a S => exact fun ι1 H1 G1 s1 => PostS.grow h G1
def dCmpI (p : Int → Int → Int) (a b : D) (S : Sto) : R D := match a, b with
  | .int i, .int j => .ok (.int (p i j)) S
  | _, _ => .stuck
def dAddI : D → D → Sto → R D := dCmpI fun i j => i + j
def dSubI : D → D → Sto → R D := dCmpI fun i j => i - j
section
variable {X : Cx} {W : WX} {pos : Pos} {e : Expr} {st : Stmt} {rest : List Stmt}
def sNil : Ev → Sto → SR := fun ρ S => .nx ρ S
def sSeq (F G : Ev → Sto → SR) : Ev → Sto → SR := fun ρ S => (F ρ S).next G
theorem dss_nil : DSs X W [] sNil := PSs.imp pss_nil fun E σ H ⟨ι, ρ, S, hE, hS, h⟩ => h ι H σ (Grow.refl _ _) hS hE
theorem dss_cons {F G : Ev → Sto → SR} (h1 : DS X W st F) (h2 : DSs X W rest G) : DSs X W (st :: rest) (sSeq F G) := by
  refine PSs.imp (pss_cons h1 h2) fun E σ H ⟨ι, ρ, S, hE, hS, h⟩ => ⟨ι, ρ, S, hE, hS, ?_⟩
  unfold sSeq at h
  cases hF : F ρ S with
  | nx ρ1 S1 => rw [hF] at h; exact fun ι1 H1 σ1 G1 s1 e1 => ⟨ι1, ρ1, S1, e1, s1, PostS.grow h G1⟩
  | rt d S1 => rw [hF] at h; exact h
  | bk ρ1 S1 => rw [hF] at h; exact h
  | ct ρ1 S1 => rw [hF] at h; exact h
  | er e ρ1 S1 => rw [hF] at h; exact h
  | stuck => rw [hF] at h; exact h
theorem dss_one {F : Ev → Sto → SR} (h1 : DS X W st F) : DSs X W [st] F := pss_one h1
def sBrk : Ev → Sto → SR := fun ρ S => .bk ρ S
def sCnt : Ev → Sto → SR := fun ρ S => .ct ρ S
def sExp (f : Ev → Sto → R D) : Ev → Sto → SR := fun ρ S => (f ρ S).toS ρ fun _ S1 => .nx ρ S1
def sRet (f : Ev → Sto → R D) : Ev → Sto → SR := fun ρ S => (f ρ S).toS ρ fun d S1 => .rt d S1
theorem ds_expr {f : Ev → Sto → R D} (he : DE X W e f) (hs : swapsWith e none pos.line X.env = pure false := by rfl) : DS X W (.Expr e pos) (sExp f) := by
  refine PS.imp (ps_expr he hs) fun E σ H ⟨ι, ρ, S, hE, hS, h⟩ => ⟨ι, ρ, S, hE, hS, (PostS.bind h hE).mono fun d S1 ι1 H1 G1 s1 h1 v rv => ?_⟩
  exact h1 ι1 H1 σ (Grow.refl _ _) s1 (hE.grow G1)
theorem ds_ret {f : Ev → Sto → R D} (he : DE X W e f) : DS X W (.Return (some e) pos) (sRet f) := by
  refine PS.imp (ps_ret he) fun E σ H ⟨ι, ρ, S, hE, hS, h⟩ => ⟨ι, ρ, S, hE, hS, (PostS.bind h hE).mono fun d S1 ι1 H1 G1 s1 h1 v rv => ?_⟩
  exact h1 ι1 H1 v (Grow.refl _ _) s1 rv
def sRetN : Ev → Sto → SR := fun _ S => .rt .non S
def sIf (c : Ev → Sto → R Bool) (F G : Ev → Sto → SR) : Ev → Sto → SR := fun ρ S => (c ρ S).toS ρ fun b S1 => if b = true then F ρ S1 else G ρ S1
theorem ds_if {c : Expr} {a b : List Stmt} {t : Ev → Sto → R Bool} {F G : Ev → Sto → SR} (hc : DT X W c t) (ha : DSs X W a F) (hb : DSs X W b G) : DS X W (.If c a b pos) (sIf t F G) := by
  refine PS.imp (ps_if hc ha hb) fun E σ H ⟨ι, ρ, S, hE, hS, h⟩ => ⟨ι, ρ, S, hE, hS, (PostS.bind h hE).mono fun b S1 ι1 H1 G1 s1 h1 => ?_⟩
  cases b with
  | true => rw [if_pos rfl] at h1 ⊢; exact ⟨ι1, ρ, S1, hE.grow G1, s1, h1⟩
  | false => rw [if_neg (by decide)] at h1 ⊢; exact ⟨ι1, ρ, S1, hE.grow G1, s1, h1⟩
abbrev Tg := D → Ev → Sto → Option (Ev × Sto)
abbrev Tgs := List D → Ev → Sto → Option (Ev × Sto)
def rdG (K : PySem.W.Frag) (T : Tg) : TG := fun v σ H Q => ∃ ι ρ S d ρ' S', RepE K ι H σ ρ ∧ Sim K ι H S ∧ RepV K ι H d v ∧ T d ρ S = some (ρ', S') ∧ ∀ ι' H' σ', Grow ι H ι' H' → Sim K ι' H' S' → RepE K ι' H' σ' ρ' → Q σ' H'
abbrev DG (X : Cx) (e : Expr) (T : Tg) : Prop := PG X e (rdG X.K T)
theorem PG.imp {X : Cx} {e : Expr} {t u : TG} (h : PG X e t) (i : ∀ v σ H Q, u v σ H Q → t v σ H Q) : PG X e u := ⟨fun pins s σ H v w Q I r q => h.run pins s σ H v w Q I r (i v σ H Q q)⟩
def tN (i : Nat) : Tg := fun d ρ S => some (ρ.set i (some d), S)
theorem dg_name (i : Nat) {x : Str} (hN : X.N.Nodup) (hi : X.N[i]? = some x := by rfl) (hx : Loc X.env.scope x := by first | exact .inl rfl | exact .inr rfl) (hf : X.fn x = true ∨ X.env.scope.names.lookup x = some .local := by first | exact .inl rfl | exact .inr rfl | assumption) : DG X (.Name x pos) (tN i) :=
  PG.imp (pg_name hN hi hx hf) fun v σ H Q ⟨ι, ρ, S, d, ρ', S', hE, hS, r, e, h⟩ => by
    cases e
    exact h ι H _ (Grow.refl _ _) hS (hE.set r i)
def rdGs (K : PySem.W.Frag) (T : Tgs) : TGs := fun vs σ H Q => ∃ ι ρ S ds ρ' S', RepE K ι H σ ρ ∧ Sim K ι H S ∧ RepL K ι H ds vs ∧ T ds ρ S = some (ρ', S') ∧ ∀ ι' H' σ', Grow ι H ι' H' → Sim K ι' H' S' → RepE K ι' H' σ' ρ' → Q σ' H'
abbrev DGs (X : Cx) (e : List Expr) (T : Tgs) : Prop := PGs X e (rdGs X.K T)
theorem PGs.imp {X : Cx} {e : List Expr} {t u : TGs} (h : PGs X e t) (i : ∀ v σ H Q, u v σ H Q → t v σ H Q) : PGs X e u := ⟨fun pins s σ H v w Q I r q => h.run pins s σ H v w Q I r (i v σ H Q q)⟩
def tNil : Tgs := fun ds ρ S => match ds with
  | [] => some (ρ, S)
  | _ => none
def tCons (T : Tg) (U : Tgs) : Tgs := fun ds ρ S => match ds with
  | d :: r => (T d ρ S).bind fun q => U r q.1 q.2
  | [] => none
theorem dgs_nil : DGs X [] tNil := PGs.imp pgs_nil fun v σ H Q ⟨ι, ρ, S, ds, ρ', S', hE, hS, r, e, h⟩ => by
  cases ds with
  | nil => cases e; rw [RepL] at r; exact ⟨r, h ι H σ (Grow.refl _ _) hS hE⟩
  | cons d ds => cases e
theorem dgs_cons {es : List Expr} {T : Tg} {U : Tgs} (h1 : DG X e T) (h2 : DGs X es U) (hs : (assignEach (e :: es) X.env).map (·.2) = assign e X.env :: (assignEach es X.env).map (·.2) := by rfl) : DGs X (e :: es) (tCons T U) :=
  PGs.imp (pgs_cons h1 h2 hs) fun v σ H Q ⟨ι, ρ, S, ds, ρ', S', hE, hS, r, e, h⟩ => by
    cases ds with
    | nil => cases e
    | cons d ds =>
      rw [RepL] at r
      obtain ⟨v, vs, rfl, rv, rl⟩ := r
      have e : (T d ρ S).bind (fun q => U ds q.1 q.2) = some (ρ', S') := e
      cases hT : T d ρ S with
      | none => rw [hT] at e; cases e
      | some q =>
        obtain ⟨ρ1, S1⟩ := q
        rw [hT] at e
        refine ⟨v, vs, rfl, ι, ρ, S, d, ρ1, S1, hE, hS, rv, hT, fun ι1 H1 σ1 G1 s1 e1 => ?_⟩
        exact ⟨ι1, ρ1, S1, ds, ρ', S', e1, s1, RepL.grow G1 _ _ rl, e, fun ι2 H2 σ2 G2 => h ι2 H2 σ2 (G1.trans G2)⟩
def tTup (n : Nat) (U : Tgs) : Tg := fun d ρ S => match d with
  | .tup ds => if ds.length = n then U ds ρ S else none
  | _ => none
theorem dg_tup {es : List Expr} {k : Nat} {U : Tgs} {n : Nat} (hc : X.calm = true) (h : DGs X es U) (hn : (assignEach es X.env).length = n := by rfl) (hst : (assignEach es X.env).findIdx? (·.1) = none := by rfl) : DG X (.Tuple es k pos) (tTup n U) :=
  PG.imp (pg_tup hc h hn hst) fun v σ H Q ⟨ι, ρ, S, d, ρ', S', hE, hS, r, e, h⟩ => by
    cases d with
    | tup ds =>
      have e : (if ds.length = n then U ds ρ S else none) = some (ρ', S') := e
      by_cases hl : ds.length = n
      · rw [if_pos hl] at e
        obtain ⟨p, vs, rfl, q, rl⟩ := tup_at r
        exact ⟨p, vs, rfl, q, by rw [← RepL.length _ _ rl]; exact hl, ι, ρ, S, ds, ρ', S', hE, hS, rl, e, h⟩
      · rw [if_neg hl] at e; cases e
    | _ => cases e
/-- o[i] = v -/
def dSet (o i v : D) (S : Sto) : Option Sto := match o, i with
  | .loc n, .int k => (getL S n).bind fun ds => (ixN ds.length k).map fun j => S.set n (.lst (ds.set j v))
  | _, _ => none
def tSub (f g : Ev → Sto → R D) : Tg := fun v ρ S => match f ρ S with
  | .ok o S1 => (match g ρ S1 with
    | .ok i S2 => (dSet o i v S2).map fun S3 => (ρ, S3)
    | _ => none)
  | _ => none
theorem dSet_some {o i v : D} {S S' : Sto} (h : dSet o i v S = some S') : ∃ n k ds j, o = .loc n ∧ i = .int k ∧ getL S n = some ds ∧ ixN ds.length k = some j ∧ S' = S.set n (.lst (ds.set j v)) := by
  unfold dSet at h
  split at h
  · rename_i n k
    cases hL : getL S n with
    | none => simp [hL] at h
    | some ds =>
      cases hj : ixN ds.length k with
      | none => simp [hL, hj] at h
      | some j =>
        simp [hL, hj] at h
        exact ⟨n, k, ds, j, rfl, rfl, hL, hj, h.symm⟩
  · cases h
theorem dg_sub {o i : Expr} {f g : Ev → Sto → R D} (ho : DE X W o f) (hi : DE X W i g) (ha : ∀ v, assign (.Subscript o i pos) X.env v = (do
      let ov ← holding [v] (eval o X.env)
      let iv ← holding [v, ov] (eval i X.env)
      standAt pos
      holding [v, ov, iv] (setItem ov iv v)
      release [v, ov, iv] []) := by intro _; rfl) : DG X (.Subscript o i pos) (tSub f g) :=
  PG.imp (pg_sub ho hi set_list ha) fun v σ H Q ⟨ι, ρ, S, d, ρ', S', hE, hS, r, e, h⟩ => by
    unfold tSub at e
    cases hf : f ρ S with
    | ok o S1 =>
      simp only [hf] at e
      refine ⟨ι, ρ, S, hE, hS, ?_⟩
      rw [hf]
      intro ι1 H1 G1 s1 x rx
      cases hg : g ρ S1 with
      | ok i S2 =>
        simp only [hg] at e
        refine ⟨ι1, ρ, S1, hE.grow G1, s1, ?_⟩
        rw [hg]
        intro ι2 H2 G2 s2 y ry
        have rx := RepV.grow G2 _ _ rx
        have rv := RepV.grow G2 _ _ (RepV.grow G1 _ _ r)
        have e : (dSet o i d S2).map (fun S3 => (ρ, S3)) = some (ρ', S') := e
        cases hd : dSet o i d S2 with
        | none => rw [hd] at e; cases e
        | some S3 =>
          rw [hd] at e
          cases e
          obtain ⟨n, k, ds, j, rfl, rfl, hL, hj, rfl⟩ := dSet_some hd
          rw [RepV] at rx
          obtain ⟨a, ea, rfl⟩ := rx
          obtain ⟨vs, h1, h3⟩ := s2.ob _ _ _ ea (getL_some hL)
          refine ⟨a, vs, k, j, rfl, int_at ry, h1, by rw [← RepL.length _ _ h3]; exact hj, ?_⟩
          have G3 : Grow ι2 H2 ι2 (upd H2 a (.lst (vs.set j v))) := Grow.put (List.mem_of_getElem? ea)
          exact h ι2 _ σ ((G1.trans G2).trans G3) (s2.put ea ⟨_, upd_same, RepL.set (RepV.grow G3 _ _ rv) _ _ _ (RepL.grow G3 _ _ h3)⟩) (((hE.grow G1).grow G2).grow G3)
      | er e1 S2 => simp only [hg] at e; cases e
      | stuck => simp only [hg] at e; cases e
    | er e1 S1 => simp only [hf] at e; cases e
    | stuck => simp only [hf] at e; cases e
def sAsg (f : Ev → Sto → R D) (T : Tg) : Ev → Sto → SR := fun ρ S => (f ρ S).toS ρ fun d S1 => match T d ρ S1 with
  | some (ρ', S') => .nx ρ' S'
  | none => .stuck
theorem asg_read {K : PySem.W.Frag} {f : Ev → Sto → R D} {T : Tg} : ∀ E σ H, rdS K W (sAsg f T) E σ H → tAsg (rdE K W f) (rdG K T) E σ H := fun E σ H ⟨ι, ρ, S, hE, hS, h⟩ => by
  refine ⟨ι, ρ, S, hE, hS, (PostS.bind h hE).mono fun d S1 ι1 H1 G1 s1 h1 v rv => ?_⟩
  cases hT : T d ρ S1 with
  | none => simp only [hT] at h1; exact h1.elim
  | some q =>
    obtain ⟨ρ1, S2⟩ := q
    simp only [hT] at h1
    exact ⟨ι1, ρ, S1, d, ρ1, S2, hE.grow G1, s1, rv, hT, fun ι2 H2 σ2 G2 s2 e2 => h1 ι2 H2 σ2 G2 s2 e2⟩
theorem ds_asg {tg : Expr} {f : Ev → Sto → R D} {T : Tg} (he : DE X W e f) (hg : DG X tg T) (hs : swapsWithSole [tg] e pos.line X.env = pure false := by rfl) (hw : swappedStores [tg] e X.env = pure none := by rfl)
    (h1 : (assignEach [tg] X.env).map (·.2) = [assign tg X.env] := by rfl) : DS X W (.Assign [tg] e pos) (sAsg f T) := PS.imp (ps_asg he hg hs hw h1) asg_read
/-- name = e -/
def sSet (i : Nat) (f : Ev → Sto → R D) : Ev → Sto → SR := fun ρ S => (f ρ S).toS ρ fun d S1 => .nx (ρ.set i (some d)) S1
theorem set_read {K : PySem.W.Frag} {f : Ev → Sto → R D} {i : Nat} : ∀ E σ H, rdS K W (sSet i f) E σ H → tAsg (rdE K W f) (gName i) E σ H := fun E σ H ⟨ι, ρ, S, hE, hS, h⟩ => by
  refine ⟨ι, ρ, S, hE, hS, (PostS.bind h hE).mono fun d S1 ι1 H1 G1 s1 h1 v rv => ?_⟩
  exact h1 ι1 H1 _ (Grow.refl _ _) s1 ((hE.grow G1).set rv i)
theorem ds_set (i : Nat) {x : Str} {pos' : Pos} {f : Ev → Sto → R D} (hN : X.N.Nodup) (he : DE X W e f) (hi : X.N[i]? = some x := by rfl) (hx : Loc X.env.scope x := by first | exact .inl rfl | exact .inr rfl)
    (hs : swapsWith e (some (.Name x pos')) pos.line X.env = pure false := by rfl) (hf : X.fn x = true ∨ X.env.scope.names.lookup x = some .local := by first | exact .inl rfl | exact .inr rfl | assumption) :
    DS X W (.Assign [.Name x pos'] e pos) (sSet i f) := PS.imp (ps_set hN hi hx he hs hf) set_read
/-- name op= e -/
def sAug (i : Nat) (o : D → D → Sto → R D) (f : Ev → Sto → R D) : Ev → Sto → SR := fun ρ S => match ρ[i]? with
  | some (some x) => ((f ρ S).bind fun d S1 => o x d S1).toS ρ fun z S2 => .nx (ρ.set i (some z)) S2
  | _ => .stuck
theorem ds_aug (i : Nat) {x : Str} {op : Operator} {r : TIp} {o : D → D → Sto → R D} {pos' : Pos} {f : Ev → Sto → R D} (hN : X.N.Nodup) (he : DE X W e f) (ho : PIp X op r) (k : OpK X.K r o) (hi : X.N[i]? = some x := by rfl) (hx : Loc X.env.scope x := by first | exact .inl rfl | exact .inr rfl)
    (hf : X.fn x = true ∨ X.env.scope.names.lookup x = some .local := by first | exact .inl rfl | exact .inr rfl | assumption) : DS X W (.AugAssign (.Name x pos') op e pos) (sAug i o f) := by
  refine PS.imp (ps_aug hN hi hx he ho hf) fun E σ H ⟨ι, ρ, S, hE, hS, h⟩ => ?_
  unfold sAug at h
  split at h
  · rename_i d hd
    obtain ⟨v, hv, rv⟩ := hE.get hd
    refine ⟨v, hv, ι, ρ, S, hE, hS, ((PostS.bind h hE).bind).mono fun b S1 ι1 H1 G1 s1 h1 y ry => ?_⟩
    refine k W σ ι1 H1 S1 v y d b _ s1 (RepV.grow G1 _ _ rv) ry (h1.mono fun z S2 ι2 H2 G2 s2 h2 u ru => ?_)
    exact h2 ι2 H2 _ (Grow.refl _ _) s2 (((hE.grow G1).grow G2).set ru i)
  · exact h.elim
theorem k_ipadd {K : PySem.W.Frag} : OpK K (ipI fun i j => i + j) dAddI := by
  intro W σ ι H S x y a b Q s rx ry h
  unfold dAddI dCmpI at h
  split at h
  · rename_i i j
    exact ⟨i, j, int_at rx, int_at ry, h.here s _ int_rep⟩
  · exact h.elim
/-- a, b = x, y and a, b, c = x, y, z with plain locals -/
def sPar2 (i j : Nat) (g : Ev → Sto → R (List D)) : Ev → Sto → SR := fun ρ S => (g ρ S).toS ρ fun ds S1 => match ds with
  | [a, b] => .nx ((ρ.set i (some a)).set j (some b)) S1
  | _ => .stuck
theorem ds_par2 (i j : Nat) {x y : Str} {a b : Expr} {g : Ev → Sto → R (List D)} {px py pt : Pos} {kt k2 pt2} (hc : X.calm = true) (hN : X.N.Nodup) (ha : DA X W [a, b] g) (hij : i ≠ j := by decide) (hi : X.N[i]? = some x := by rfl) (hj : X.N[j]? = some y := by rfl)
    (hx : X.env.scope.names.lookup x = some .local := by rfl) (hy : X.env.scope.names.lookup y = some .local := by rfl)
    (hw : swappedStores [.Tuple [.Name x px, .Name y py] kt pt] (.Tuple [a, b] k2 pt2) X.env = pure (some [x, y]) := by rfl)
    (hs : swapsWithSole [.Tuple [.Name x px, .Name y py] kt pt] (.Tuple [a, b] k2 pt2) pos.line X.env = pure false := by rfl) :
    DS X W (.Assign [.Tuple [.Name x px, .Name y py] kt pt] (.Tuple [a, b] k2 pt2) pos) (sPar2 i j g) := by
  refine PS.imp (ps_par hc hN hi hj hij hx hy ha hw hs) fun E σ H ⟨ι, ρ, S, hE, hS, h⟩ => ⟨ι, ρ, S, hE, hS, (PostS.bind h hE).mono fun ds S1 ι1 H1 G1 s1 h1 vs rs => ?_⟩
  split at h1
  · rw [RepL] at rs
    obtain ⟨v, r, rfl, rv, rs⟩ := rs
    rw [RepL] at rs
    obtain ⟨u, r, rfl, ru, rs⟩ := rs
    rw [RepL] at rs
    subst rs
    exact ⟨v, u, rfl, h1 ι1 H1 _ (Grow.refl _ _) s1 (((hE.grow G1).set rv i).set ru j)⟩
  · exact h1.elim
end
end DL
namespace DL
open PySem PySem.Spec L2
open PyProof.Rows hiding St
abbrev Src := List D × (Sto → Prop)
def ItOk (K : PySem.W.Frag) (J : It) (ι : List Addr) (H : Hp) (q : Src) : Prop := ∀ ι1 H1 S1, Grow ι H ι1 H1 → Sim K ι1 H1 S1 → q.2 S1 →
  (∀ i, q.1.length ≤ i → J.stop i H1) ∧ ∀ i d, q.1[i]? = some d → J.go i H1 ∧ ∀ x H2, J.yld i H1 x H2 → Grow ι1 H1 ι1 H2 ∧ Sim K ι1 H2 S1 ∧ RepV K ι1 H2 d x
def rdI (K : PySem.W.Frag) (W : WX) (f : Ev → Sto → R Src) : TI := fun σ H Rr => ∃ ι ρ S, RepE K ι H σ ρ ∧ Sim K ι H S ∧ Post K W σ ι H (f ρ S) fun q _ ι' H' => ∀ J, ItOk K J ι' H' q → Rr J H'
abbrev DI (X : Cx) (W : WX) (tg iter : Expr) (f : Ev → Sto → R Src) : Prop := PI X tg iter (rdI X.K W f)
theorem PI.imp {X : Cx} {tg e : Expr} {t u : TI} (h : PI X tg e t) (i : ∀ σ H Q, u σ H Q → t σ H Q) : PI X tg e u := ⟨fun pins s σ H Q I q => h.run pins s σ H Q I (i σ H Q q)⟩
theorem PI.or {X : Cx} {tg e : Expr} {t u : TI} (h : PI X tg e t) (h' : PI X tg e u) : PI X tg e (fun σ H Q => t σ H Q ∨ u σ H Q) := ⟨fun pins s σ H Q I q => by
  rcases q with q | q
  · exact h.run pins s σ H Q I q
  · exact h'.run pins s σ H Q I q⟩
def yes : Sto → Prop := fun _ => True
def srcOf (d : D) (S : Sto) : R Src := match d with
  | .tup ds => .ok (ds, yes) S
  | .fl ds => .ok (ds, yes) S
  | .kl ds => .ok (ds, yes) S
  | .loc n => (match getQ S n with
    | some ds => .ok (ds, fun S => getQ S n = some ds) S
    | none => .stuck)
  | _ => .stuck
def iSeq (f : Ev → Sto → R D) : Ev → Sto → R Src := fun ρ S => (f ρ S).bind srcOf
theorem itl_ok {K : PySem.W.Frag} {ι : List Addr} {H : Hp} {ds : List D} {a : Addr} {g : Sto → Prop} (h : ∀ ι1 H1 S1, Grow ι H ι1 H1 → Sim K ι1 H1 S1 → g S1 → ∃ vs, SqL K H1 a vs ∧ RepL K ι1 H1 ds vs) : ItOk K (Itl K a) ι H (ds, g) := fun ι1 H1 S1 G s gs => by
  obtain ⟨vs, q, r⟩ := h ι1 H1 S1 G s gs
  refine ⟨fun i hi => ⟨vs, q, by rw [← RepL.length _ _ r]; exact hi⟩, fun i d e => ?_⟩
  obtain ⟨v, hv, rv⟩ := RepL.get _ _ r i d e
  refine ⟨⟨vs, v, q, hv⟩, fun x H2 y => ?_⟩
  obtain ⟨rfl, y⟩ := y
  have := y vs q
  rw [hv] at this; cases this
  exact ⟨Grow.refl _ _, s, rv⟩
theorem itt_ok {K : PySem.W.Frag} {ι : List Addr} {H : Hp} {ds : List D} {a : Addr} {g : Sto → Prop} (h : ∀ ι1 H1 S1, Grow ι H ι1 H1 → Sim K ι1 H1 S1 → g S1 → ∃ vs, SqT K H1 a vs ∧ RepL K ι1 H1 ds vs) : ItOk K (Itt K a) ι H (ds, g) := fun ι1 H1 S1 G s gs => by
  obtain ⟨vs, q, r⟩ := h ι1 H1 S1 G s gs
  refine ⟨fun i hi => ⟨vs, q, by rw [← RepL.length _ _ r]; exact hi⟩, fun i d e => ?_⟩
  obtain ⟨v, hv, rv⟩ := RepL.get _ _ r i d e
  refine ⟨⟨vs, v, q, hv⟩, fun x H2 y => ?_⟩
  obtain ⟨rfl, y⟩ := y
  have := y vs q
  rw [hv] at this; cases this
  exact ⟨Grow.refl _ _, s, rv⟩
theorem loc_at {K : PySem.W.Frag} {ι : List Addr} {H : Hp} {S : Sto} {n : Nat} {a : Addr} {ds : List D} (s : Sim K ι H S) (ea : ι[n]? = some a) (e : getQ S n = some ds) : ∃ vs, SqL K H a vs ∧ RepL K ι H ds vs := by
  unfold getQ at e
  (try unfold ifp at e); split at e
  · rename_i q; cases e
    obtain ⟨vs, h1, h2⟩ := s.ob _ _ _ ea q
    exact ⟨vs, SqL.of h1, h2⟩
  · rename_i q; cases e
    obtain ⟨o, vs, h1, h2⟩ := s.ob _ _ _ ea q
    exact ⟨vs, .inl (.inr ⟨o, h1⟩), h2⟩
  · cases e
/-- what a list or tuple that is walked gives, whatever turns behind it -/
theorem src_stands {K : PySem.W.Frag} {ι : List Addr} {H : Hp} {S : Sto} {d : D} {q : Src} {S' : Sto} {v : V} (e : srcOf d S = .ok q S') (s : Sim K ι H S) (r : RepV K ι H d v) : S' = S ∧ ∃ a, v = .ref a ∧
    ((∀ ι1 H1 S1, Grow ι H ι1 H1 → Sim K ι1 H1 S1 → q.2 S1 → ∃ vs, SqT K H1 a vs ∧ RepL K ι1 H1 q.1 vs) ∨ (∀ ι1 H1 S1, Grow ι H ι1 H1 → Sim K ι1 H1 S1 → q.2 S1 → ∃ vs, SqL K H1 a vs ∧ RepL K ι1 H1 q.1 vs)) ∧ q.2 S := by
  cases d with
  | tup ds =>
    cases e
    rw [RepV] at r
    obtain ⟨a, vs, rfl, t, rl⟩ := r
    exact ⟨rfl, a, rfl, .inl fun ι1 H1 S1 G s1 _ => ⟨vs, (t.grow G).sq, RepL.grow G _ _ rl⟩, True.intro⟩
  | fl ds =>
    cases e
    rw [RepV] at r
    obtain ⟨a, vs, rfl, t, rl⟩ := r
    exact ⟨rfl, a, rfl, .inr fun ι1 H1 S1 G s1 _ => ⟨vs, (t.grow G).sq, RepL.grow G _ _ rl⟩, True.intro⟩
  | kl ds =>
    cases e
    rw [RepV] at r
    obtain ⟨a, vs, rfl, t, rl⟩ := r
    exact ⟨rfl, a, rfl, .inr fun ι1 H1 S1 G s1 _ => ⟨vs, (t.grow G).sq, RepL.grow G _ _ rl⟩, True.intro⟩
  | loc n =>
    have e : (match getQ S n with
      | some ds => R.ok (ds, fun S => getQ S n = some ds) S
      | none => .stuck) = .ok q S' := e
    cases hq : getQ S n with
    | none => rw [hq] at e; cases e
    | some ds =>
      rw [hq] at e
      cases e
      rw [RepV] at r
      obtain ⟨a, ea, rfl⟩ := r
      refine ⟨rfl, a, rfl, .inr fun ι1 H1 S1 G s1 g1 => ?_, hq⟩
      exact loc_at s1 (getElem?_pre G.pre ea) g1
  | _ => cases e
section
variable {X : Cx} {W : WX} {pos : Pos} {e tg : Expr}
theorem di_seq {f : Ev → Sto → R D} (h : DE X W e f) : DI X W tg e (iSeq f) := by
  refine PI.imp (PI.or (pi_tup h) (pi_list h)) fun σ H Rr ⟨ι, ρ, S, hE, hS, q⟩ => ?_
  unfold iSeq at q
  cases hf : f ρ S with
  | stuck => rw [hf] at q; exact q.elim
  | er x S1 =>
    rw [hf] at q
    refine .inl ⟨ι, ρ, S, hE, hS, ?_⟩
    rw [hf]; exact q
  | ok d S1 =>
    rw [hf] at q
    replace q : Post X.K W σ ι H (srcOf d S1) fun q _ ι' H' => ∀ J, ItOk X.K J ι' H' q → Rr J H' := q
    cases hs : srcOf d S1 with
    | stuck => rw [hs] at q; exact q.elim
    | er x S2 => exfalso; unfold srcOf at hs; split at hs <;> first | cases hs | (split at hs <;> cases hs)
    | ok c S2 =>
      rw [hs] at q
      have kind : (∃ ds, d = .tup ds) ∨ (∃ ds, d = .fl ds ∨ d = .kl ds) ∨ ∃ n, d = .loc n := by
        cases d with
        | tup ds => exact .inl ⟨ds, rfl⟩
        | fl ds => exact .inr (.inl ⟨ds, .inl rfl⟩)
        | kl ds => exact .inr (.inl ⟨ds, .inr rfl⟩)
        | loc n => exact .inr (.inr ⟨n, rfl⟩)
        | _ => cases hs
      rcases kind with ⟨ds, rfl⟩ | kind
      · refine .inl ⟨ι, ρ, S, hE, hS, ?_⟩
        rw [hf]
        intro ι1 H1 G1 s1 v rv
        obtain ⟨rfl, a, rfl, st, g0⟩ := src_stands hs s1 rv
        rw [RepV] at rv
        obtain ⟨b, vs, eb, t, rl⟩ := rv
        cases eb
        cases hs
        exact ⟨a, rfl, ⟨vs, t.sq⟩, q ι1 H1 G1 s1 _ (itt_ok fun ι2 H2 S2 G s2 _ => ⟨vs, (t.grow G).sq, RepL.grow G _ _ rl⟩)⟩
      · refine .inr ⟨ι, ρ, S, hE, hS, ?_⟩
        rw [hf]
        intro ι1 H1 G1 s1 v rv
        rcases kind with ⟨ds, rfl | rfl⟩ | ⟨n, rfl⟩
        · rw [RepV] at rv
          obtain ⟨b, vs, rfl, t, rl⟩ := rv
          cases hs
          exact ⟨b, rfl, ⟨vs, t.sq⟩, q ι1 H1 G1 s1 _ (itl_ok fun ι2 H2 S2 G s2 _ => ⟨vs, (t.grow G).sq, RepL.grow G _ _ rl⟩)⟩
        · rw [RepV] at rv
          obtain ⟨b, vs, rfl, t, rl⟩ := rv
          cases hs
          exact ⟨b, rfl, ⟨vs, t.sq⟩, q ι1 H1 G1 s1 _ (itl_ok fun ι2 H2 S2 G s2 _ => ⟨vs, (t.grow G).sq, RepL.grow G _ _ rl⟩)⟩
        · rw [RepV] at rv
          obtain ⟨b, eb, rfl⟩ := rv
          have hs' : (match getQ S1 n with
            | some ds => R.ok (ds, fun S => getQ S n = some ds) S1
            | none => .stuck) = .ok c S2 := hs
          cases hq : getQ S1 n with
          | none => rw [hq] at hs'; cases hs'
          | some ds =>
            rw [hq] at hs'
            cases hs'
            obtain ⟨vs, z, _⟩ := loc_at s1 eb hq
            exact ⟨b, rfl, ⟨vs, z⟩, q ι1 H1 G1 s1 _ (itl_ok fun ι2 H2 S2 G s2 g2 => loc_at s2 (getElem?_pre G.pre eb) g2)⟩
def rangeD (lo : Int) (n : Nat) : List D := (List.range n).map fun k => .int (lo + (k : Nat))
theorem rangeD_get {lo : Int} {n i : Nat} {d : D} (h : (rangeD lo n)[i]? = some d) : i < n ∧ d = .int (lo + (i : Nat)) := by
  unfold rangeD at h
  rw [List.getElem?_map] at h
  cases e : (List.range n)[i]? with
  | none => rw [e] at h; cases h
  | some k =>
    rw [e] at h; cases h
    have := List.getElem?_eq_some_iff.mp e
    obtain ⟨h1, h2⟩ := this
    simp at h1 h2
    subst h2
    exact ⟨h1, rfl⟩
theorem rangeD_len (lo : Int) (n : Nat) : (rangeD lo n).length = n := by simp [rangeD]
theorem itr_ok {K : PySem.W.Frag} {ι : List Addr} {H : Hp} {lo : Int} {n : Nat} {g : Sto → Prop} : ItOk K (Itr lo n) ι H (rangeD lo n, g) := fun ι1 H1 S1 G s gs => by
  refine ⟨fun i hi => by rw [rangeD_len] at hi; exact hi, fun i d e => ?_⟩
  obtain ⟨hi, rfl⟩ := rangeD_get e
  refine ⟨hi, fun x H2 y => ?_⟩
  obtain ⟨rfl, rfl⟩ := y
  exact ⟨Grow.refl _ _, s, int_rep⟩
noncomputable def iRange1 (g : Ev → Sto → R (List D)) : Ev → Sto → R Src := fun ρ S => (g ρ S).bind fun ds S1 => match ds with
  | [.int j] => ifp (-(2 ^ 62) ≤ j ∧ j < 2 ^ 62) (.ok (rangeD 0 j.toNat, yes) S1) .stuck
  | _ => .stuck
noncomputable def iRange2 (g : Ev → Sto → R (List D)) : Ev → Sto → R Src := fun ρ S => (g ρ S).bind fun ds S1 => match ds with
  | [.int i, .int j] => ifp (-(2 ^ 62) ≤ i ∧ i < 2 ^ 62 ∧ -(2 ^ 62) ≤ j ∧ j < 2 ^ 62) (.ok (rangeD i (j - i).toNat, yes) S1) .stuck
  | _ => .stuck
theorem RepL.one_inv {K : PySem.W.Frag} {ι : List Addr} {H : Hp} {d : D} {vs : List V} (h : RepL K ι H [d] vs) : ∃ v, vs = [v] ∧ RepV K ι H d v := by
  rw [RepL] at h
  obtain ⟨v, r, rfl, rv, rs⟩ := h
  rw [RepL] at rs
  subst rs
  exact ⟨v, rfl, rv⟩
theorem RepL.two_inv {K : PySem.W.Frag} {ι : List Addr} {H : Hp} {d e : D} {vs : List V} (h : RepL K ι H [d, e] vs) : ∃ v u, vs = [v, u] ∧ RepV K ι H d v ∧ RepV K ι H e u := by
  rw [RepL] at h
  obtain ⟨v, r, rfl, rv, rs⟩ := h
  obtain ⟨u, rfl, ru⟩ := RepL.one_inv rs
  exact ⟨v, u, rfl, rv, ru⟩
theorem di_range1 {a : Expr} {g : Ev → Sto → R (List D)} {p pos : Pos} (hg : Gl X "range") (hm : X.mg "range" = none) (ha : DA X W [a] g) (hs : starEach [a] X.env = [(false, eval a X.env)] := by rfl) : DI X W tg (.Call (.Name "range" p) [a] [] pos) (iRange1 g) := by
  refine PI.imp (pi_range1 hg hm ha hs) fun σ H Rr ⟨ι, ρ, S, hE, hS, q⟩ => ⟨ι, ρ, S, hE, hS, (Post.bind q).mono fun ds S1 ι1 H1 G1 s1 h1 vs rs => ?_⟩
  (try unfold ifp at h1); split at h1
  · obtain ⟨v, rfl, rv⟩ := RepL.one_inv rs
    (try unfold ifp at h1); split at h1
    · rename_i hj
      exact ⟨_, by rw [int_at rv], hj.1, hj.2, h1.here s1 _ itr_ok⟩
    · exact h1.elim
  · exact h1.elim
theorem di_range2 {a b : Expr} {g : Ev → Sto → R (List D)} {p pos : Pos} (hg : Gl X "range") (hm : X.mg "range" = none) (ha : DA X W [a, b] g) (hs : starEach [a, b] X.env = [(false, eval a X.env), (false, eval b X.env)] := by rfl) (hs2 : starEach [b] X.env = [(false, eval b X.env)] := by rfl) : DI X W tg (.Call (.Name "range" p) [a, b] [] pos) (iRange2 g) := by
  refine PI.imp (pi_range2 hg hm ha hs hs2) fun σ H Rr ⟨ι, ρ, S, hE, hS, q⟩ => ⟨ι, ρ, S, hE, hS, (Post.bind q).mono fun ds S1 ι1 H1 G1 s1 h1 vs rs => ?_⟩
  (try unfold ifp at h1); split at h1
  · obtain ⟨v, u, rfl, rv, ru⟩ := RepL.two_inv rs
    (try unfold ifp at h1); split at h1
    · rename_i hj
      exact ⟨_, _, by rw [int_at rv, int_at ru], hj, h1.here s1 _ itr_ok⟩
    · exact h1.elim
  · exact h1.elim
open Classical in
noncomputable def forD (g : Sto → Prop) (T : Tg) (B Z : Ev → Sto → SR) : List D → Ev → Sto → SR
  | [], ρ, S => if g S then Z ρ S else .stuck
  | d :: ds, ρ, S => if g S then (match T d ρ S with
    | none => .stuck
    | some (ρ1, S1) => match B ρ1 S1 with
      | .nx ρ2 S2 => forD g T B Z ds ρ2 S2
      | .ct ρ2 S2 => forD g T B Z ds ρ2 S2
      | .bk ρ2 S2 => .nx ρ2 S2
      | .rt d S2 => .rt d S2
      | .er e ρ2 S2 => .er e ρ2 S2
      | .stuck => .stuck) else .stuck
noncomputable def sFor (f : Ev → Sto → R Src) (T : Tg) (B Z : Ev → Sto → SR) : Ev → Sto → SR := fun ρ S => (f ρ S).toS ρ fun q S1 => forD q.2 T B Z q.1 ρ S1
theorem for_read {K : PySem.W.Frag} {f : Ev → Sto → R Src} {T : Tg} {B Z : Ev → Sto → SR} : ∀ E σ H, rdS K W (sFor f T B Z) E σ H → tForE (rdI K W f) (rdG K T) (rdS K W B) (rdS K W Z) E σ H := fun E σ H ⟨ι, ρ, S, hE, hS, h⟩ => by
  refine ⟨ι, ρ, S, hE, hS, (PostS.bind h hE).mono fun q S1 ι1 H1 G1 s1 h1 J hJ => ?_⟩
  obtain ⟨ds, g⟩ := q
  refine ⟨fun i m σ' H' => m = ds.length - i ∧ i ≤ ds.length ∧ ∃ ι' ρ' S', Grow ι1 H1 ι' H' ∧ RepE K ι' H' σ' ρ' ∧ Sim K ι' H' S' ∧ PostS K W E ι' H' (forD g T B Z (ds.drop i) ρ' S'), ⟨_, rfl, Nat.zero_le _, ι1, ρ, S1, Grow.refl _ _, hE.grow G1, s1, h1⟩, ?_⟩
  rintro i m σ' H' ⟨rfl, hi, ι', ρ', S', G', e', s', h'⟩
  by_cases hlt : i < ds.length
  · rw [List.drop_eq_getElem_cons hlt] at h'
    unfold forD at h'
    (try unfold ifp at h'); split at h'
    · rename_i hg
      obtain ⟨-, item⟩ := hJ ι' H' S' G' s' hg
      obtain ⟨go, yl⟩ := item i ds[i] (List.getElem?_eq_some_iff.mpr ⟨hlt, rfl⟩)
      refine .inr ⟨go, fun σ2 H2 => ∃ ι2 ρ2 S2, Grow ι1 H1 ι2 H2 ∧ RepE K ι2 H2 σ2 ρ2 ∧ Sim K ι2 H2 S2 ∧ PostS K W E ι2 H2 (forD g T B Z (ds.drop (i + 1)) ρ2 S2), fun σ2 H2 hh => ⟨ds.length - (i + 1), by omega, rfl, hlt, hh⟩, fun x H2 y => ?_⟩
      obtain ⟨G2, s2, rx⟩ := yl x H2 y
      cases hT : T ds[i] ρ' S' with
      | none => simp only [hT] at h'; exact h'.elim
      | some q =>
        obtain ⟨ρ1, S2⟩ := q
        simp only [hT] at h'
        refine ⟨ι', ρ', S', ds[i], ρ1, S2, e'.grow G2, s2, rx, hT, fun ι3 H3 σ3 G3 s3 e3 => ⟨ι3, ρ1, S2, e3, s3, ?_⟩⟩
        have G13 := (G'.trans G2).trans G3
        have h3 := PostS.grow h' (G2.trans G3)
        cases hB : B ρ1 S2 with
        | nx ρ2 S3 => simp only [hB] at h3; exact fun ι4 H4 σ4 G4 s4 e4 => ⟨ι4, ρ2, S3, G13.trans G4, e4, s4, PostS.grow h3 G4⟩
        | ct ρ2 S3 => simp only [hB] at h3; exact fun ι4 H4 σ4 G4 s4 e4 => ⟨ι4, ρ2, S3, G13.trans G4, e4, s4, PostS.grow h3 G4⟩
        | bk ρ2 S3 => simp only [hB] at h3; exact h3
        | rt d S3 => simp only [hB] at h3; exact h3
        | er x ρ2 S3 => simp only [hB] at h3; exact h3
        | stuck => simp only [hB] at h3; exact h3
    · exact h'.elim
  · have e : i = ds.length := by omega
    subst e
    rw [List.drop_length] at h'
    unfold forD at h'
    (try unfold ifp at h'); split at h'
    · rename_i hg
      obtain ⟨stop, -⟩ := hJ ι' H' S' G' s' hg
      exact .inl ⟨stop _ (Nat.le_refl _), ι', ρ', S', e', s', h'⟩
    · exact h'.elim
theorem ds_for {iter : Expr} {body orelse : List Stmt} {f : Ev → Sto → R Src} {T : Tg} {B Z : Ev → Sto → SR} (hp : PassesOwn (model X.prog X.w) X.A X.env X.xe) (hc : X.calm = true) (hi : DI X W tg iter f) (hg : DG X tg T) (hb : DSs X W body B) (ho : DSs X W orelse Z)
    (hs : ∀ x, foldedSetIterable iter X.env x = pure x := by intro _; rfl) : DS X W (.For tg iter body orelse pos) (sFor f T B Z) := PS.imp (ps_forE hp hc hi hg hb ho hs) for_read
def whileD (c : Ev → Sto → R Bool) (B : Ev → Sto → SR) : Nat → Ev → Sto → SR
  | 0, _, _ => .stuck
  | n + 1, ρ, S => (c ρ S).toS ρ fun b S1 => if b = true then (match B ρ S1 with
      | .nx ρ2 S2 => whileD c B n ρ2 S2
      | .ct ρ2 S2 => whileD c B n ρ2 S2
      | .bk ρ2 S2 => .nx ρ2 S2
      | .rt d S2 => .rt d S2
      | .er e ρ2 S2 => .er e ρ2 S2
      | .stuck => .stuck) else .nx ρ S1
theorem ds_while (n : Nat) {c : Expr} {body : List Stmt} {t : Ev → Sto → R Bool} {B : Ev → Sto → SR} (hp : PassesOwn (model X.prog X.w) X.A X.env X.xe) (hc : DT X W c t) (hb : DSs X W body B) : DS X W (.While c body [] pos) (whileD t B n) := by
  refine PS.imp (ps_while hp hc hb) fun E σ H ⟨ι, ρ, S, hE, hS, h⟩ => ?_
  refine ⟨fun m σ' H' => ∃ ι' ρ' S', RepE X.K ι' H' σ' ρ' ∧ Sim X.K ι' H' S' ∧ PostS X.K W E ι' H' (whileD t B m ρ' S'), ⟨n, ι, ρ, S, hE, hS, h⟩, ?_⟩
  rintro m σ' H' ⟨ι', ρ', S', e', s', h'⟩
  cases m with
  | zero => exact h'.elim
  | succ m =>
    refine ⟨ι', ρ', S', e', s', (PostS.bind h' e').mono fun b S1 ι1 H1 G1 s1 h1 => ?_⟩
    cases b with
    | false => rw [if_neg (by decide)] at h1 ⊢; exact h1 ι1 H1 σ' (Grow.refl _ _) s1 (e'.grow G1)
    | true =>
      rw [if_pos rfl] at h1 ⊢
      refine ⟨fun σ2 H2 => ∃ ι2 ρ2 S2, RepE X.K ι2 H2 σ2 ρ2 ∧ Sim X.K ι2 H2 S2 ∧ PostS X.K W E ι2 H2 (whileD t B m ρ2 S2), fun σ2 H2 hh => ⟨m, Nat.lt_succ_self _, hh⟩, ι1, ρ', S1, e'.grow G1, s1, ?_⟩
      cases hB : B ρ' S1 with
      | nx ρ2 S3 => simp only [hB] at h1; exact fun ι4 H4 σ4 G4 s4 e4 => ⟨ι4, ρ2, S3, e4, s4, PostS.grow h1 G4⟩
      | ct ρ2 S3 => simp only [hB] at h1; exact fun ι4 H4 σ4 G4 s4 e4 => ⟨ι4, ρ2, S3, e4, s4, PostS.grow h1 G4⟩
      | bk ρ2 S3 => simp only [hB] at h1; exact h1
      | rt d S3 => simp only [hB] at h1; exact h1
      | er x ρ2 S3 => simp only [hB] at h1; exact h1
      | stuck => simp only [hB] at h1; exact h1
end
end DL
namespace DL
open PySem PySem.Spec L2
open PyProof.Rows hiding St
mutual
def low (n : Nat) : D → Bool
  | .loc m => decide (m < n)
  | .tup ds => lowL n ds
  | .fl ds => lowL n ds
  | .kl ds => lowL n ds
  | .fd kvs => lowK n kvs
  | .exc _ fs => lowF n fs
  | .non => true
  | .bl _ => true
  | .int _ => true
  | .str _ => true
  | .ty _ => true
  | .fn _ => true
def lowL (n : Nat) : List D → Bool
  | [] => true
  | d :: ds => low n d && lowL n ds
def lowK (n : Nat) : List (Key × D) → Bool
  | [] => true
  | (_, d) :: ds => low n d && lowK n ds
def lowF (n : Nat) : List (Str × D) → Bool
  | [] => true
  | (_, d) :: ds => low n d && lowF n ds
end
def lowKT (n : Nat) : List (List Key × D) → Bool
  | [] => true
  | (_, d) :: ds => low n d && lowKT n ds
def lowO (n : Nat) : Ob → Bool
  | .lst ds => lowL n ds
  | .ins _ fs => lowF n fs
  | .dct kvs => lowK n kvs
  | .dtt kvs => lowKT n kvs
  | .scr ds => lowL n ds
  | .tpl ds => lowL n ds
section
variable {K : PySem.W.Frag} {ι : List Addr} {H : Hp}
theorem take_out {a : Addr} {n : Nat} (h : a ∉ ι) : a ∉ ι.take n := fun z => h (List.mem_of_mem_take z)
mutual
theorem RepV.low (n : Nat) : ∀ (d : D) (v : V), RepV K ι H d v → DL.low n d = true → RepV K (ι.take n) H d v
  | .non, _, h, _ => by rw [RepV] at h ⊢; exact h
  | .bl _, _, h, _ => by rw [RepV] at h ⊢; exact h
  | .int _, _, h, _ => by rw [RepV] at h ⊢; exact h
  | .str _, _, h, _ => by rw [RepV] at h ⊢; exact h
  | .ty _, _, h, _ => by rw [RepV] at h ⊢; exact h
  | .fn _, _, h, _ => by rw [RepV] at h ⊢; exact h
  | .loc m, _, h, l => by
    rw [RepV] at h ⊢
    obtain ⟨a, e, r⟩ := h
    have l : m < n := by simpa [DL.low] using l
    exact ⟨a, by rw [List.getElem?_take_of_lt l]; exact e, r⟩
  | .tup ds, _, h, l => by
    rw [RepV] at h ⊢
    obtain ⟨a, vs, e, t, r⟩ := h
    refine ⟨a, vs, e, ?_, RepL.low n ds vs r (by simpa [DL.low] using l)⟩
    rcases t with ⟨t1, t2⟩ | t
    · exact .inl ⟨take_out t1, t2⟩
    · exact .inr t
  | .fl ds, _, h, l => by
    rw [RepV] at h ⊢
    obtain ⟨a, vs, e, t, r⟩ := h
    exact ⟨a, vs, e, ⟨take_out t.1, t.2⟩, RepL.low n ds vs r (by simpa [DL.low] using l)⟩
  | .kl ds, _, h, l => by
    rw [RepV] at h ⊢
    obtain ⟨a, vs, e, t, r⟩ := h
    refine ⟨a, vs, e, ?_, RepL.low n ds vs r (by simpa [DL.low] using l)⟩
    rcases t with ⟨t1, t2⟩ | t
    · exact .inl ⟨take_out t1, t2⟩
    · exact .inr t
  | .fd kvs, _, h, l => by
    rw [RepV] at h ⊢
    obtain ⟨a, vs, e, m, t, r⟩ := h
    exact ⟨a, vs, e, take_out m, t, RepK.low n kvs vs r (by simpa [DL.low] using l)⟩
  | .exc c fs, _, h, l => by
    rw [RepV] at h ⊢
    obtain ⟨a, cls, dd, e, m, t, rc, r⟩ := h
    refine ⟨a, cls, dd, e, take_out m, t, rc, ?_⟩
    rcases r with r | ⟨d, vs, e1, e2, e3, e4⟩
    · exact .inl r
    · exact .inr ⟨d, vs, e1, take_out e2, e3, RepF.low n fs vs e4 (by simpa [DL.low] using l)⟩
theorem RepL.low (n : Nat) : ∀ (ds : List D) (vs : List V), RepL K ι H ds vs → DL.lowL n ds = true → RepL K (ι.take n) H ds vs
  | [], _, h, _ => by rw [RepL] at h ⊢; exact h
  | d :: ds, _, h, l => by
    rw [RepL] at h ⊢
    obtain ⟨v, r, e, a, b⟩ := h
    simp only [DL.lowL, Bool.and_eq_true] at l
    exact ⟨v, r, e, RepV.low n d v a l.1, RepL.low n ds r b l.2⟩
theorem RepK.low (n : Nat) : ∀ (ds : List (Key × D)) (vs : List (Key × V)), RepK K ι H ds vs → DL.lowK n ds = true → RepK K (ι.take n) H ds vs
  | [], _, h, _ => by rw [RepK] at h ⊢; exact h
  | (k, d) :: ds, _, h, l => by
    rw [RepK] at h ⊢
    obtain ⟨v, r, e, a, b⟩ := h
    simp only [DL.lowK, Bool.and_eq_true] at l
    exact ⟨v, r, e, RepV.low n d v a l.1, RepK.low n ds r b l.2⟩
theorem RepF.low (n : Nat) : ∀ (ds : List (Str × D)) (vs : List (Str × V)), RepF K ι H ds vs → DL.lowF n ds = true → RepF K (ι.take n) H ds vs
  | [], _, h, _ => by rw [RepF] at h ⊢; exact h
  | (k, d) :: ds, _, h, l => by
    rw [RepF] at h ⊢
    obtain ⟨v, r, e, a, b⟩ := h
    simp only [DL.lowF, Bool.and_eq_true] at l
    exact ⟨v, r, e, RepV.low n d v a l.1, RepF.low n ds r b l.2⟩
end
theorem RepKT.low (n : Nat) : ∀ (ds : List (List Key × D)) (vs : List (List Key × V)), RepKT K ι H ds vs → DL.lowKT n ds = true → RepKT K (ι.take n) H ds vs
  | [], _, h, _ => by rw [RepKT] at h ⊢; exact h
  | (k, d) :: ds, _, h, l => by
    rw [RepKT] at h ⊢
    obtain ⟨v, r, e, a, b⟩ := h
    simp only [DL.lowKT, Bool.and_eq_true] at l
    exact ⟨v, r, e, RepV.low n d v a l.1, RepKT.low n ds r b l.2⟩
theorem RepO.low {a : Addr} {o : Ob} (n : Nat) (h : RepO K ι H a o) (l : DL.lowO n o = true) : RepO K (ι.take n) H a o := by
  cases o with
  | lst ds => obtain ⟨vs, q, r⟩ := h; exact ⟨vs, q, RepL.low n ds vs r l⟩
  | ins C fs => obtain ⟨C', dx, vs, nc, q, r⟩ := h; exact ⟨C', dx, vs, nc, q, RepF.low n fs vs r l⟩
  | dct ks => obtain ⟨vs, q, r⟩ := h; exact ⟨vs, q, RepK.low n ks vs r l⟩
  | dtt ks => obtain ⟨vs, q, r⟩ := h; exact ⟨vs, q, RepKT.low n ks vs r l⟩
  | scr ds => obtain ⟨o, vs, q, r⟩ := h; exact ⟨o, vs, q, RepL.low n ds vs r l⟩
  | tpl ds => obtain ⟨o, vs, q, c1, c2, r⟩ := h; exact ⟨o, vs, q, c1, c2, RepL.low n ds vs r l⟩
mutual
theorem RepV.isLow : ∀ (d : D) (v : V), RepV K ι H d v → DL.low ι.length d = true
  | .non, _, _ => rfl
  | .bl _, _, _ => rfl
  | .int _, _, _ => rfl
  | .str _, _, _ => rfl
  | .ty _, _, _ => rfl
  | .fn _, _, _ => rfl
  | .loc m, _, h => by
    rw [RepV] at h
    obtain ⟨a, e, _⟩ := h
    simpa [DL.low] using (List.getElem?_eq_some_iff.mp e).1
  | .tup ds, _, h => by
    rw [RepV] at h
    obtain ⟨a, vs, e, t, r⟩ := h
    simpa [DL.low] using RepL.isLow ds vs r
  | .fl ds, _, h => by
    rw [RepV] at h
    obtain ⟨a, vs, e, t, r⟩ := h
    simpa [DL.low] using RepL.isLow ds vs r
  | .kl ds, _, h => by
    rw [RepV] at h
    obtain ⟨a, vs, e, t, r⟩ := h
    simpa [DL.low] using RepL.isLow ds vs r
  | .fd ds, _, h => by
    rw [RepV] at h
    obtain ⟨a, vs, e, m, t, r⟩ := h
    simpa [DL.low] using RepK.isLow ds vs r
  | .exc c ds, _, h => by
    rw [RepV] at h
    obtain ⟨a, cls, dd, e, m, t, rc, r⟩ := h
    rcases r with ⟨_, rfl⟩ | ⟨d, vs, e1, e2, e3, e4⟩
    · rfl
    · simpa [DL.low] using RepF.isLow ds vs e4
theorem RepL.isLow : ∀ (ds : List D) (vs : List V), RepL K ι H ds vs → DL.lowL ι.length ds = true
  | [], _, _ => rfl
  | d :: ds, _, h => by
    rw [RepL] at h
    obtain ⟨v, r, e, a, b⟩ := h
    simp only [DL.lowL, Bool.and_eq_true]
    exact ⟨RepV.isLow d v a, RepL.isLow ds r b⟩
theorem RepK.isLow : ∀ (ds : List (Key × D)) (vs : List (Key × V)), RepK K ι H ds vs → DL.lowK ι.length ds = true
  | [], _, _ => rfl
  | (k, d) :: ds, _, h => by
    rw [RepK] at h
    obtain ⟨v, r, e, a, b⟩ := h
    simp only [DL.lowK, Bool.and_eq_true]
    exact ⟨RepV.isLow d v a, RepK.isLow ds r b⟩
theorem RepF.isLow : ∀ (ds : List (Str × D)) (vs : List (Str × V)), RepF K ι H ds vs → DL.lowF ι.length ds = true
  | [], _, _ => rfl
  | (k, d) :: ds, _, h => by
    rw [RepF] at h
    obtain ⟨v, r, e, a, b⟩ := h
    simp only [DL.lowF, Bool.and_eq_true]
    exact ⟨RepV.isLow d v a, RepF.isLow ds r b⟩
end
theorem RepKT.isLow : ∀ (ds : List (List Key × D)) (vs : List (List Key × V)), RepKT K ι H ds vs → DL.lowKT ι.length ds = true
  | [], _, _ => rfl
  | (k, d) :: ds, _, h => by
    rw [RepKT] at h
    obtain ⟨v, r, e, a, b⟩ := h
    simp only [DL.lowKT, Bool.and_eq_true]
    exact ⟨RepV.isLow d v a, RepKT.isLow ds r b⟩
theorem RepO.isLow {a : Addr} {o : Ob} (h : RepO K ι H a o) : DL.lowO ι.length o = true := by
  cases o with
  | lst ds => obtain ⟨vs, q, r⟩ := h; exact RepL.isLow ds vs r
  | ins C fs => obtain ⟨C', dx, vs, nc, q, r⟩ := h; exact RepF.isLow fs vs r
  | dct ks => obtain ⟨vs, q, r⟩ := h; exact RepK.isLow ks vs r
  | dtt ks => obtain ⟨vs, q, r⟩ := h; exact RepKT.isLow ks vs r
  | scr ds => obtain ⟨o, vs, q, r⟩ := h; exact RepL.isLow ds vs r
  | tpl ds => obtain ⟨o, vs, q, c1, c2, r⟩ := h; exact RepL.isLow ds vs r
end
/-- the elder places hold what they held, or nothing that points to a younger one -/
def Trunc (S S' : Sto) : Prop := S.length ≤ S'.length ∧ ∀ k o, k < S.length → S'[k]? = some o → S[k]? = some o ∨ lowO S.length o = true
theorem Trunc.same (S l : Sto) : Trunc S (S ++ l) := ⟨by simp, fun k o h e => .inl (by rw [List.getElem?_append_left h] at e; exact e)⟩
theorem Sim.trunc {K : PySem.W.Frag} {ι ι' : List Addr} {H H' : Hp} {S S' : Sto} (s : Sim K ι H S) (s' : Sim K ι' H' S') (G : Grow ι H ι' H') (t : Trunc S S') : Sim K ι H' (S'.take S.length) ∧ Grow ι H ι H' := by
  have hp : ι'.take ι.length = ι := by
    obtain ⟨r, e⟩ := G.pre
    rw [← e, List.take_left]
  refine ⟨⟨s.nd, by rw [s.len, List.length_take]; have := t.1; omega, fun n a o e1 e2 => ?_⟩, List.prefix_rfl, G.keep, fun _ z n => absurd z n⟩
  have hn : n < S.length := by rw [← s.len]; exact (List.getElem?_eq_some_iff.mp e1).1
  rw [List.getElem?_take_of_lt hn] at e2
  have e1' := getElem?_pre G.pre e1
  have r' := s'.ob n a o e1' e2
  have l : lowO S.length o = true := by
    rcases t.2 n o hn e2 with h | h
    · have := (s.ob n a o e1 h).isLow
      rw [s.len] at this; exact this
    · exact h
  have := r'.low S.length l
  rw [← s.len, hp] at this
  exact this
theorem RepV.trunc {K : PySem.W.Frag} {ι ι' : List Addr} {H H' : Hp} {S : Sto} {d : D} {v : V} (s : Sim K ι H S) (G : Grow ι H ι' H') (r : RepV K ι' H' d v) (l : DL.low S.length d = true) : RepV K ι H' d v := by
  have hp : ι'.take S.length = ι := by
    obtain ⟨r, e⟩ := G.pre
    rw [← s.len, ← e, List.take_left]
  have := RepV.low S.length d v r l
  rw [hp] at this; exact this
theorem RepL.trunc {K : PySem.W.Frag} {ι ι' : List Addr} {H H' : Hp} {S : Sto} {ds : List D} {vs : List V} (s : Sim K ι H S) (G : Grow ι H ι' H') (r : RepL K ι' H' ds vs) (l : lowL S.length ds = true) : RepL K ι H' ds vs := by
  have hp : ι'.take S.length = ι := by
    obtain ⟨r, e⟩ := G.pre
    rw [← s.len, ← e, List.take_left]
  have := RepL.low S.length ds vs r l
  rw [hp] at this; exact this
theorem RepF.trunc {K : PySem.W.Frag} {ι ι' : List Addr} {H H' : Hp} {S : Sto} {ds : List (Str × D)} {vs : List (Str × V)} (s : Sim K ι H S) (G : Grow ι H ι' H') (r : RepF K ι' H' ds vs) (l : lowF S.length ds = true) : RepF K ι H' ds vs := by
  have hp : ι'.take S.length = ι := by
    obtain ⟨r, e⟩ := G.pre
    rw [← s.len, ← e, List.take_left]
  have := RepF.low S.length ds vs r l
  rw [hp] at this; exact this
abbrev W0 : WX := fun _ _ _ _ => False
open Classical in
noncomputable def compD (g : Sto → Prop) (T : Tg) (c : Ev → Sto → R Bool) (f : Ev → Sto → R D) (n : Nat) (ρ : Ev) : List D → Sto → Option Sto
  | [], S => if g S then some S else none
  | d :: ds, S => if g S then (match T d ρ S with
    | none => none
    | some (ρ1, S1) => match c ρ1 S1 with
      | .ok b S2 => if b = true then (match f ρ1 S2 with
          | .ok y S3 => (match getL S3 n with
            | some acc => ifp (acc.length < sizeLine) (compD g T c f n ρ ds (S3.set n (.lst (acc ++ [y])))) none
            | none => none)
          | _ => none) else compD g T c f n ρ ds S2
      | _ => none) else none
def cYes : Ev → Sto → R Bool := fun _ S => .ok true S
/-- how the list stays: in the store, or frozen -/
def finLoc (S : Sto) (S' : Sto) : R D := .ok (.loc S.length) S'
open Classical in
noncomputable def finFl (S : Sto) (S' : Sto) : R D := match getL S' S.length with
  | some acc => if Trunc S S' ∧ S'.length = S.length + 1 ∧ lowL S.length acc = true then .ok (.fl acc) (S'.take S.length) else .stuck
  | none => .stuck
def FinOk (fin : Sto → Sto → R D) : Prop := ∀ (K : PySem.W.Frag) (W : WX) (σ : St) (ι ι' : List Addr) (H H0 H' : Hp) (S S' : Sto) (Da : Addr) (Q : VK), Sim K ι H S → H Da = none → Grow ι H ι H0 → (∀ b, b ≠ Da → H0 b = H b) → Sim K ι' H' S' → Grow (ι ++ [Da]) H0 ι' H' →
  Post K W σ ι H (fin S S') (fun d _ ι' H' => ∀ v, RepV K ι' H' d v → Q v H') → Q (.ref Da) H'
theorem fin_grow {ι ι' : List Addr} {H H0 H' : Hp} {Da : Addr} (n : H Da = none) (hb : ∀ b, b ≠ Da → H0 b = H b) (G : Grow (ι ++ [Da]) H0 ι' H') : Grow ι H ι' H' where
  pre := (List.prefix_append _ _).trans G.pre
  keep := fun a o e na => by
    have hne : a ≠ Da := ne_of_none e n
    refine G.keep a o (by rw [hb a hne]; exact e) fun z => ?_
    rcases List.mem_append.mp z with z | z
    · exact na z
    · exact hne (List.mem_singleton.mp z)
  fresh := fun a z na => by
    by_cases hne : a = Da
    · rw [hne]; exact n
    · have := G.fresh a z fun y => by
        rcases List.mem_append.mp y with y | y
        · exact na y
        · exact hne (List.mem_singleton.mp y)
      rw [hb a hne] at this; exact this
theorem fin_loc : FinOk finLoc := fun K W σ ι ι' H H0 H' S S' Da Q s n G0 hb s' G h => by
  refine h ι' H' (fin_grow n hb G) s' _ ?_
  rw [RepV]
  exact ⟨Da, getElem?_pre G.pre (by rw [← s.len]; simp), rfl⟩
theorem fin_fl : FinOk finFl := fun K W σ ι ι' H H0 H' S S' Da Q s n G0 hb s' G h => by
  unfold finFl at h
  (try unfold ifp at h); split at h
  · rename_i acc ha
    (try unfold ifp at h); split at h
    · rename_i hh
      obtain ⟨t, hl, hlow⟩ := hh
      have G1 := fin_grow n hb G
      obtain ⟨s2, G2⟩ := s.trunc s' G1 t
      have ea : ι'[S.length]? = some Da := getElem?_pre G.pre (by rw [← s.len]; simp)
      obtain ⟨vs, h1, h2⟩ := s'.ob _ _ _ ea (getL_some ha)
      refine h ι H' G2 s2 _ ?_
      rw [RepV]
      refine ⟨Da, vs, rfl, ⟨fun z => ?_, h1⟩, RepL.trunc s G1 h2 hlow⟩
      obtain ⟨u, e⟩ := s.there z
      rw [n] at e; cases e
    · exact h.elim
  · exact h.elim
/-- the target of a comprehension: its own slots, its store, by the very slots -/
structure CT (K : PySem.W.Frag) (vs : List Nat) (g : TG) (T : Tg) : Prop where
  wipeE : ∀ (ι : List Addr) (H : Hp) (σ : St) (ρ : Ev), RepE K ι H σ ρ → RepE K ι H (wipe σ vs) (ρ.mapIdx fun i d => if i ∈ vs then none else d)
  run : ∀ (ι : List Addr) (H : Hp) (S S' : Sto) (σ : St) (ρ ρ' : Ev) (d : D) (v : V) (Q : St → Hp → Prop), RepE K ι H (wipe σ vs) ρ → Sim K ι H S → RepV K ι H d v → T d ρ S = some (ρ', S') → S' = S ∧
    ((∀ σ', wipe σ' vs = wipe σ vs → RepE K ι H σ' ρ' → Q σ' H) → g v (wipe σ vs) H Q)
def wipeD (ρ : Ev) (vs : List Nat) : Ev := ρ.mapIdx fun i d => if i ∈ vs then none else d
noncomputable def eLc (fin : Sto → Sto → R D) (src : Ev → Sto → R Src) (T : Tg) (vs : List Nat) (c : Ev → Sto → R Bool) (f : Ev → Sto → R D) : Ev → Sto → R D := fun ρ S => (src ρ S).bind fun q S1 => match compD q.2 T c f S1.length (wipeD ρ vs) q.1 (S1 ++ [.lst []]) with
  | some S2 => fin S1 S2
  | none => .stuck
section
variable {X : Cx} {W : WX} {pos : Pos}
theorem lc_read {fin : Sto → Sto → R D} {K : PySem.W.Frag} {src : Ev → Sto → R Src} {g : TG} {T : Tg} {vs : List Nat} {c : Ev → Sto → R Bool} {f : Ev → Sto → R D} (hfin : FinOk fin) (ct : CT K vs g T) :
    ∀ σ H Q, rdE K W (eLc fin src T vs c f) σ H Q → tLc (rdI K W src) g (rdT K W0 c) (rdE K W0 f) vs σ H Q := fun σ H Q ⟨ι, ρ, S, hE, hS, h⟩ => by
  refine ⟨ι, ρ, S, hE, hS, (Post.bind h).mono fun q S1 ι1 H1 G1 s1 h1 J hJ Da hDa => ?_⟩
  obtain ⟨ds, gd⟩ := q
  cases hc : compD gd T c f S1.length (wipeD ρ vs) ds (S1 ++ [.lst []]) with
  | none => simp only [hc] at h1; exact h1.elim
  | some S2 =>
    simp only [hc] at h1
    have G0 : Grow ι1 H1 (ι1 ++ [Da]) (upd H1 Da (.lst [])) := Grow.push hDa
    have hE1 := ct.wipeE _ _ _ _ (hE.grow G1)
    refine ⟨fun i m H' => m = ds.length - i ∧ i ≤ ds.length ∧ ∃ ι' S', Grow (ι1 ++ [Da]) (upd H1 Da (.lst [])) ι' H' ∧ Sim K ι' H' S' ∧ compD gd T c f S1.length (wipeD ρ vs) (ds.drop i) S' = some S2,
      ⟨_, rfl, Nat.zero_le _, ι1 ++ [Da], (S1 ++ [Ob.lst []] : Sto), Grow.refl _ _, s1.push (b := Ob.lst []) hDa ⟨[], upd_same, RepL.nil⟩, hc⟩, ?_⟩
    rintro i m H' ⟨rfl, hi, ι', S', G', s', h'⟩
    have Gt : Grow ι1 H1 ι' H' := G0.trans G'
    have hE' : RepE K ι' H' (wipe σ vs) (wipeD ρ vs) := hE1.grow Gt
    have eD : ι'[S1.length]? = some Da := getElem?_pre G'.pre (by rw [← s1.len]; simp)
    by_cases hlt : i < ds.length
    · rw [List.drop_eq_getElem_cons hlt] at h'
      unfold compD at h'
      (try unfold ifp at h'); split at h'
      · rename_i hg
        obtain ⟨-, item⟩ := hJ ι' H' S' Gt s' hg
        obtain ⟨go, yl⟩ := item i ds[i] (List.getElem?_eq_some_iff.mpr ⟨hlt, rfl⟩)
        refine .inr ⟨go, fun H2 => ∃ ι2 S2', Grow (ι1 ++ [Da]) (upd H1 Da (.lst [])) ι2 H2 ∧ Sim K ι2 H2 S2' ∧ compD gd T c f S1.length (wipeD ρ vs) (ds.drop (i + 1)) S2' = some S2, fun H2 hh => ⟨ds.length - (i + 1), by omega, rfl, hlt, hh⟩, fun x H2 y => ?_⟩
        obtain ⟨G2, s2, rx⟩ := yl x H2 y
        cases hT : T ds[i] (wipeD ρ vs) S' with
        | none => simp only [hT] at h'; cases h'
        | some q =>
          obtain ⟨ρ1, S3⟩ := q
          simp only [hT] at h'
          obtain ⟨e3, run⟩ := ct.run ι' H2 S' S3 σ _ ρ1 ds[i] x (fun σ2 H2 => wipe σ2 vs = wipe σ vs ∧ rdT K W0 c σ2 H2 fun b H3 =>
            if b = true then rdE K W0 f σ2 H3 fun y H4 => ∃ acc, H4 Da = some (.lst acc) ∧ acc.length < sizeLine ∧ ∃ ι2 S2', Grow (ι1 ++ [Da]) (upd H1 Da (.lst [])) ι2 (upd H4 Da (.lst (acc ++ [y]))) ∧ Sim K ι2 (upd H4 Da (.lst (acc ++ [y]))) S2' ∧ compD gd T c f S1.length (wipeD ρ vs) (ds.drop (i + 1)) S2' = some S2
            else ∃ ι2 S2', Grow (ι1 ++ [Da]) (upd H1 Da (.lst [])) ι2 H3 ∧ Sim K ι2 H3 S2' ∧ compD gd T c f S1.length (wipeD ρ vs) (ds.drop (i + 1)) S2' = some S2) (hE'.grow G2) s2 rx hT
          subst e3
          refine run fun σ2 hw e2 => ⟨hw, ι', ρ1, S3, e2, s2, ?_⟩
          cases hcc : c ρ1 S3 with
          | stuck => simp only [hcc] at h'; cases h'
          | er x S4 => simp only [hcc] at h'; cases h'
          | ok b S4 =>
            simp only [hcc] at h'
            intro ι3 H3 G3 s3
            cases b with
            | false =>
              rw [if_neg (by decide)] at h' ⊢
              exact ⟨ι3, S4, (G'.trans G2).trans G3, s3, h'⟩
            | true =>
              rw [if_pos rfl] at h' ⊢
              refine ⟨ι3, ρ1, S4, e2.grow G3, s3, ?_⟩
              cases hf : f ρ1 S4 with
              | stuck => simp only [hf] at h'; cases h'
              | er x S5 => simp only [hf] at h'; cases h'
              | ok z S5 =>
                simp only [hf] at h'
                intro ι4 H4 G4 s4 v rv
                cases hL : getL S5 S1.length with
                | none => simp only [hL] at h'; cases h'
                | some acc =>
                  simp only [hL] at h'
                  (try unfold ifp at h'); split at h'
                  · rename_i hz
                    have e4 : ι4[S1.length]? = some Da := getElem?_pre G4.pre (getElem?_pre G3.pre eD)
                    obtain ⟨us, h5, h6⟩ := s4.ob _ _ _ e4 (getL_some hL)
                    have G5 : Grow ι4 H4 ι4 (upd H4 Da (.lst (us ++ [v]))) := Grow.put (List.mem_of_getElem? e4)
                    refine ⟨us, h5, by rw [← RepL.length _ _ h6]; exact hz, ι4, _, (((G'.trans G2).trans G3).trans G4).trans G5, s4.put (b := .lst (acc ++ [z])) e4 ⟨_, upd_same, ?_⟩, h'⟩
                    exact RepL.app _ _ (RepL.grow G5 _ _ h6) _ _ (RepL.one (RepV.grow G5 _ _ rv))
                  · cases h'
      · cases h'
    · have e : i = ds.length := by omega
      subst e
      rw [List.drop_length] at h'
      unfold compD at h'
      (try unfold ifp at h'); split at h'
      · rename_i hg
        cases h'
        obtain ⟨stop, -⟩ := hJ ι' H' S2 Gt s' hg
        exact .inl ⟨stop _ (Nat.le_refl _), hfin K W σ ι1 ι' H1 _ H' S1 S2 Da Q s1 hDa (Grow.upd hDa) (fun b hb => upd_ne hb) s' G' h1⟩
      · cases h'
theorem getElem?_wipe {ρ : Ev} {vs : List Nat} {i : Nat} {d : D} (h : (wipeD ρ vs)[i]? = some (some d)) : i ∉ vs ∧ ρ[i]? = some (some d) := by
  unfold wipeD at h
  rw [List.getElem?_mapIdx] at h
  cases e : ρ[i]? with
  | none => rw [e] at h; cases h
  | some x =>
    rw [e] at h
    simp only [Option.map_some, Option.some.injEq] at h
    by_cases hi : i ∈ vs
    · rw [if_pos hi] at h; cases h
    · rw [if_neg hi] at h; exact ⟨hi, by rw [h]⟩
theorem wipe_get (σ : St) : ∀ (vs : List Nat) (i : Nat), i ∉ vs → (wipe σ vs)[i]? = σ[i]?
  | [], _, _ => rfl
  | v :: vs, i, h => by
    unfold wipe
    rw [List.getElem?_set_ne (fun e => h (by rw [← e]; exact List.mem_cons_self))]
    exact wipe_get σ vs i fun z => h (List.mem_cons_of_mem _ z)
theorem wipe_rep {K : PySem.W.Frag} (vs : List Nat) : ∀ (ι : List Addr) (H : Hp) (σ : St) (ρ : Ev), RepE K ι H σ ρ → RepE K ι H (wipe σ vs) (wipeD ρ vs) := fun ι H σ ρ h => by
  refine ⟨by rw [wipe_length]; simp [wipeD, h.1], fun i d e => ?_⟩
  obtain ⟨hi, e⟩ := getElem?_wipe e
  obtain ⟨v, e', r⟩ := h.2 i d e
  exact ⟨v, by rw [wipe_get σ vs i hi]; exact e', r⟩
theorem ct_name {K : PySem.W.Frag} (i : Nat) : CT K [i] (gName i) (tN i) where
  wipeE := wipe_rep [i]
  run := fun ι H S S' σ ρ ρ' d v Q hE s r e => by
    cases e
    refine ⟨rfl, fun h => ?_⟩
    refine h ((wipe σ [i]).set i (some v)) ?_ (hE.set r i)
    simp [wipe]
theorem de_lc {fin : Sto → Sto → R D} {elt tg iter : Expr} {ifs : List Expr} {scope : Scope} {own : List (Str × Nat)} {src : Ev → Sto → R Src} {g : TG} {T : Tg} {c : Ev → Sto → R Bool} {f : Ev → Sto → R D} (hfin : FinOk fin) (ct : CT X.K (own.map (·.2)) g T) (hc : X.calm = true) (hN : X.N.Nodup) (hi : DI X W tg iter src) (ok : BlkOk X.N X.env.scope scope own)
    (hg : ∀ (s : Shared) (H : Hp) (C : Addr) (cl : List (Str × Addr)) (fp : List Addr), PG (X.blk s H scope (compEnvC scope cl C X.env) fp) tg g) (ht : ∀ (s : Shared) (H : Hp) (C : Addr) (cl : List (Str × Addr)) (fp : List Addr), PTs (X.blk s H scope (compEnvC scope cl C X.env) fp) ifs (rdT X.K W0 c))
    (he : ∀ (s : Shared) (H : Hp) (C : Addr) (cl : List (Str × Addr)) (fp : List Addr), DE (X.blk s H scope (compEnvC scope cl C X.env) fp) W0 elt f) (hs : ∀ x, foldedSetIterable iter X.env x = pure x := by intro _; rfl) :
    DE X W (.ListComp elt [⟨tg, iter, ifs, 0⟩] scope pos) (eLc fin src T (own.map (·.2)) c f) := PE.imp (pe_lc hc hN hi ok hg ht he hs) (lc_read hfin ct)
/-- name = [..] -/
theorem ds_setLc (i : Nat) {y : Str} {py spos : Pos} {fin : Sto → Sto → R D} {elt tg iter : Expr} {ifs : List Expr} {scope : Scope} {own : List (Str × Nat)} {src : Ev → Sto → R Src} {g : TG} {T : Tg} {c : Ev → Sto → R Bool} {f : Ev → Sto → R D} (hfin : FinOk fin) (ct : CT X.K (own.map (·.2)) g T) (hc : X.calm = true) (hN : X.N.Nodup) (hi : DI X W tg iter src) (ok : BlkOk X.N X.env.scope scope own)
    (hg : ∀ (s : Shared) (H : Hp) (C : Addr) (cl : List (Str × Addr)) (fp : List Addr), PG (X.blk s H scope (compEnvC scope cl C X.env) fp) tg g) (ht : ∀ (s : Shared) (H : Hp) (C : Addr) (cl : List (Str × Addr)) (fp : List Addr), PTs (X.blk s H scope (compEnvC scope cl C X.env) fp) ifs (rdT X.K W0 c))
    (he : ∀ (s : Shared) (H : Hp) (C : Addr) (cl : List (Str × Addr)) (fp : List Addr), DE (X.blk s H scope (compEnvC scope cl C X.env) fp) W0 elt f) (hy : X.N[i]? = some y := by rfl) (hyl : X.env.scope.names.lookup y = some .local := by rfl)
    (hsw : swapsWith (.ListComp elt [⟨tg, iter, ifs, 0⟩] scope pos) (some (.Name y py)) spos.line X.env = pure true := by exact sw_true rfl rfl rfl (by decide +kernel)) (hs : ∀ x, foldedSetIterable iter X.env x = pure x := by intro _; rfl) :
    DS X W (.Assign [.Name y py] (.ListComp elt [⟨tg, iter, ifs, 0⟩] scope pos) spos) (sSet i (eLc fin src T (own.map (·.2)) c f)) :=
  PS.imp (ps_setLc hc hN hy hyl hsw hi ok hg ht he hs) fun E σ H q => by
    obtain ⟨ι, ρ, S, hE, hS, h⟩ := q
    refine lc_read (W := W) hfin ct σ H _ ⟨ι, ρ, S, hE, hS, (PostS.bind h hE).mono fun d S1 ι1 H1 G1 s1 h1 v rv => ?_⟩
    exact h1 ι1 H1 _ (Grow.refl _ _) s1 ((hE.grow G1).set rv i)
theorem dts_nil : PTs X [] (rdT X.K W0 cYes) := ⟨fun pins s σ H Q I ⟨ι, ρ, S, hE, hS, h⟩ => pts_nil.run pins s σ H Q I (h.here hS)⟩
theorem dts_one {c : Expr} {t : Ev → Sto → R Bool} (h : DT X W0 c t) : PTs X [c] (rdT X.K W0 t) := pts_one h
end
end DL
namespace DL
open PySem PySem.Spec L2
open PyProof.Rows hiding St
abbrev Fn := List D → Sto → R D
def PostX (K : PySem.W.Frag) (E : XK) (ι : List Addr) (H : Hp) (r : R D) (Q : VK) : Prop := match r with
  | .ok d S' => ∀ ι' H' v, Grow ι H ι' H' → Sim K ι' H' S' → RepV K ι' H' d v → Q v H'
  | .er e S' => ∀ ι' H' cls dd, Grow ι H ι' H' → Sim K ι' H' S' → RepX K ι' H' e cls dd → E cls dd H'
  | .stuck => False
def spD (K : PySem.W.Frag) (F : Fn) : Sp := fun vs H Q E => ∃ ι S ds, RepL K ι H ds vs ∧ Sim K ι H S ∧ PostX K E ι H (F ds S) Q
/-- the def at f does what F says, called by position -/
def FnD (gd : Bool) (P : Program) (w : World) (K : PySem.W.Frag) (mg : Str → Option Value) (base : Heap) (k : Nat) (f : Addr) (F : Fn) : Prop :=
  ∀ (A : Around) (outer : List Env) (s : Shared) (H : Hp) (us : List Value) (vs : List V) (Q : VK) (E : XK), Room k A → (gd = true → A.guards = some []) → Env0 P w K mg base A outer s H → Vals vs us → spD K F vs H Q E →
    codeAny (model P w) A (.call (.ref f) ⟨us, []⟩) (CR (L2.CX P w) outer P w H s Q E) s
theorem FnD.mono {gd : Bool} {P : Program} {w : World} {K : PySem.W.Frag} {mg : Str → Option Value} {base : Heap} {j k : Nat} {f : Addr} {F : Fn} (h : FnD gd P w K mg base j f F) (hj : j ≤ k) : FnD gd P w K mg base k f F :=
  fun A outer s H us vs Q E hr => h A outer s H us vs Q E (hr.mono hj)
theorem FnD.up {P : Program} {w : World} {K : PySem.W.Frag} {mg : Str → Option Value} {base : Heap} {k : Nat} {f : Addr} {F : Fn} (h : FnD false P w K mg base k f F) (gd : Bool) : FnD gd P w K mg base k f F :=
  fun A outer s H us vs Q E hr _ => h A outer s H us vs Q E hr fun z => nomatch z
open Classical in
noncomputable def close (S : Sto) (d : D) (S' : Sto) : R D :=
  if S'.length = S.length then .ok d S' else if Trunc S S' ∧ low S.length d = true then .ok d (S'.take S.length) else match d with
    | .loc m => (match getL S' m with
      | some ds => if Trunc S S' ∧ lowL S.length ds = true then .ok (.fl ds) (S'.take S.length) else .stuck
      | none => .stuck)
    | _ => .stuck
open Classical in
noncomputable def closeE (S : Sto) (e : Ex) (S' : Sto) : R D := if S'.length = S.length then .er e S' else if Trunc S S' ∧ lowF S.length e.fs = true then .er e (S'.take S.length) else .stuck
/-- nothing is dropped -/
def closeK (_ : Sto) (d : D) (S' : Sto) : R D := .ok d S'
def ClOk (cl : Sto → D → Sto → R D) : Prop := ∀ (K : PySem.W.Frag) (E : XK) (ι ι' : List Addr) (H H' : Hp) (S S' : Sto) (d : D) (v : V) (Q : VK), Sim K ι H S → Sim K ι' H' S' → Grow ι H ι' H' → RepV K ι' H' d v → PostX K E ι H (cl S d S') Q → Q v H'
theorem cl_keep : ClOk closeK := fun K E ι ι' H H' S S' d v Q s s' G r h => h ι' H' v G s' r
theorem cl_drop : ClOk close := fun K E ι ι' H H' S S' d v Q s s' G r h => by
  unfold close at h
  split at h
  · exact h ι' H' v G s' r
  · rename_i hl
    split at h
    · rename_i hh
      obtain ⟨s2, G2⟩ := s.trunc s' G hh.1
      exact h ι H' v G2 s2 (RepV.trunc s G r hh.2)
    · rename_i hlow
      split at h
      · rename_i m
        split at h
        · rename_i ds hd
          split at h
          · rename_i hh
            obtain ⟨s2, G2⟩ := s.trunc s' G hh.1
            refine h ι H' v G2 s2 ?_
            rw [RepV] at r
            obtain ⟨a, ea, rfl⟩ := r
            obtain ⟨vs, h1, h2⟩ := s'.ob _ _ _ ea (getL_some hd)
            have hm : ¬ m < S.length := fun z => hlow ⟨hh.1, by simpa [low] using z⟩
            rw [RepV]
            refine ⟨a, vs, rfl, ⟨fun z => ?_, h1⟩, RepL.trunc s G h2 hh.2⟩
            obtain ⟨n, hn, en⟩ := List.mem_iff_getElem.mp z
            have e1 : ι'[n]? = some a := getElem?_pre G.pre (List.getElem?_eq_some_iff.mpr ⟨hn, en⟩)
            obtain ⟨q1, q2⟩ := List.getElem?_eq_some_iff.mp e1
            obtain ⟨q3, q4⟩ := List.getElem?_eq_some_iff.mp ea
            have : n = m := (List.getElem_inj s'.nd).mp (q2.trans q4.symm)
            rw [← s.len] at hm
            omega
          · exact h.elim
        · exact h.elim
      · exact h.elim
theorem cl_err {K : PySem.W.Frag} {E : XK} {ι ι' : List Addr} {H H' : Hp} {S S' : Sto} {e : Ex} {cls : Value} {dd : Option Addr} {Q : VK} (s : Sim K ι H S) (s' : Sim K ι' H' S') (G : Grow ι H ι' H') (r : RepX K ι' H' e cls dd) (h : PostX K E ι H (closeE S e S') Q) : E cls dd H' := by
  unfold closeE at h
  split at h
  · exact h ι' H' cls dd G s' r
  · split at h
    · rename_i hh
      obtain ⟨s2, G2⟩ := s.trunc s' G hh.1
      refine h ι H' cls dd G2 s2 ⟨r.1, ?_⟩
      rcases r.2 with r2 | ⟨a, vs, e1, e2, e3, e4⟩
      · exact .inl r2
      · refine .inr ⟨a, vs, e1, fun z => e2 ?_, e3, RepF.trunc s G e4 hh.2⟩
        obtain ⟨t, rfl⟩ := G.pre
        exact List.mem_append_left _ z
    · exact h.elim
def startD (n : Nat) (ds : List D) : Ev := ds.map some ++ List.replicate (n - ds.length) none
noncomputable def fnC (cl : Sto → D → Sto → R D) (n : Nat) (m : Nat) (B : Ev → Sto → SR) : Fn := fun ds S => if ds.length = m then (match B (startD n ds) S with
  | .nx _ S' => cl S .non S'
  | .rt d S' => cl S d S'
  | .er e _ S' => closeE S e S'
  | _ => .stuck) else .stuck
theorem start_rep {K : PySem.W.Frag} {ι : List Addr} {H : Hp} {ds : List D} {vs : List V} (N : List Str) (r : RepL K ι H ds vs) : RepE K ι H (start N vs) (startD N.length ds) := by
  have hl := RepL.length _ _ r
  refine ⟨by simp [L2.start, startD, hl], fun i d e => ?_⟩
  unfold startD at e
  by_cases hi : i < ds.length
  · rw [List.getElem?_append_left (by simpa using hi), List.getElem?_map] at e
    cases q : ds[i]? with
    | none => rw [q] at e; cases e
    | some x =>
      rw [q] at e; cases e
      obtain ⟨v, hv, rv⟩ := RepL.get _ _ r i d q
      refine ⟨v, ?_, rv⟩
      unfold L2.start
      rw [List.getElem?_append_left (by simp [← hl]; exact hi), List.getElem?_map, hv]
      rfl
  · rw [List.getElem?_append_right (by simpa using hi), List.getElem?_replicate] at e
    split at e <;> cases e
/-- how the body's reading gives the def's -/
theorem body_read {K : PySem.W.Frag} {cl : Sto → D → Sto → R D} (hcl : ClOk cl) {N : List Str} {m : Nat} {B : Ev → Sto → SR} {vs : List V} {H : Hp} {Q : VK} {E : XK} (h : spD K (fnC cl N.length m B) vs H Q E) :
    vs.length = m ∧ rdS K (fun cls d _ H' => E cls d H') B { nx := fun _ H' => Q .non H', rt := Q } (start N vs) H := by
  obtain ⟨ι, S, ds, rl, s, h⟩ := h
  unfold fnC at h
  split at h
  · rename_i hm
    refine ⟨by rw [← RepL.length _ _ rl]; exact hm, ι, startD N.length ds, S, start_rep N rl, s, ?_⟩
    cases hB : B (startD N.length ds) S with
    | nx ρ S' => simp only [hB] at h; exact fun ι' H' σ' G s' e => hcl K E ι ι' H H' S S' .non .non Q s s' G non_rep h
    | rt d S' => simp only [hB] at h; exact fun ι' H' v G s' r => hcl K E ι ι' H H' S S' d v Q s s' G r h
    | er e ρ S' => simp only [hB] at h; exact fun ι' H' σ' cls dd G s' _ r => cl_err s s' G r h
    | bk ρ S' => simp only [hB] at h; exact h.elim
    | ct ρ S' => simp only [hB] at h; exact h.elim
    | stuck => simp only [hB] at h; exact h.elim
  · exact h.elim
section
variable {gd : Bool} {P : Program} {w : World} {K : PySem.W.Frag} {mg : Str → Option Value} {base : Heap} {k : Nat} {f : Addr} {fd : FuncData} {N ps : List Str}
/-- a def by its body -/
theorem fnD_of {x qual : Str} {st : Stmt} {cl : Sto → D → Sto → R D} {B : Ev → Sto → SR} (F : Fun K x qual st f fd) (sc : FnScope N ps (defScope st)) (hb : Binds K fd ps []) (hcl : ClOk cl)
    (hbody : ∀ (cdv : Value) (A : Around) (outer : List Env) (s : Shared) (H : Hp) (E : XK), Room k (A.deeper (envOfC qual (defScope st) s.heap.objs.size f cdv)) → (gd = true → A.guards = some []) →
      Takes (cxOf (L2.CX P w) P w K mg base N qual (defScope st) f cdv A outer s H E) (fun cls d _ H' => E cls d H') →
      PassesOwn (model P w) (A.deeper (envOfC qual (defScope st) s.heap.objs.size f cdv)) (envOfC qual (defScope st) s.heap.objs.size f cdv) (cxOf (L2.CX P w) P w K mg base N qual (defScope st) f cdv A outer s H E).xe →
      DSs (cxOf (L2.CX P w) P w K mg base N qual (defScope st) f cdv A outer s H E) (fun cls d _ H' => E cls d H') (defBody st) B) : FnD gd P w K mg base (k + 1) f (fnC cl N.length ps.length B) := by
  intro A outer s H us vs Q E hr hgd e0 rv hsp
  obtain ⟨oc, od, kV, doc, pm, an, cdv, ct, osl, efd, lk, hcd⟩ := F.ex
  obtain ⟨hl, rd⟩ := body_read (N := N) hcl hsp
  have hlu : us.length = ps.length := by rw [← rv.length]; exact hl
  have kept : ∀ b o, base.get? b = some o → s.heap.get? b = some o := fun b o e => (e0.bs b o e).1
  have KX : K.In s.heap := e0.mod.kin.keeps kept
  have bd := hb s us KX (by rw [List.append_nil]; exact hlu)
  rw [List.append_nil, efd] at bd
  rw [efd] at lk
  have hkind : ∀ y ∈ ps.zip us, (defScope st).names.lookup y.1 = some .local ∨ ((defScope st).names.lookup y.1 = some .cell ∧
      ((cellsFrom (s.heap.objs.size + 1) (defScope st).names []).lookup y.1).isSome = true) := by
    rintro ⟨n, v⟩ hy
    exact (sc.par n (List.of_mem_zip hy).1).imp id fun q => ⟨q, PySem.W.cellsFrom_some _ _ _ (.inl q)⟩
  refine codeAny_call_function hr.depth (KX _ _ lk) rfl sc.co sc.gen rfl
    (PySem.W.codeRec_of KX hcd) (bd _ _ _ _ (wpAny_newFunctionEnv_cells sc.kind hkind fun env he s1 ic => ?_))
  subst he
  refine ⟨(e0.mod.nolimit.keeps kept).keeps ic.toInCall.keep, codeAny_func ?_⟩
  have I := inv_start (CX := L2.CX P w) (P := P) (w := w) (E := E) sc hr.hd e0 hl rv ic
  have body := hbody cdv A outer s H E (hr.deeper _) hgd (takes_of rfl rfl rfl rfl) (passes_of rfl)
  refine wpAny_mono (body.run [] s1 (start N vs) H _ I rd) (fun fl s' hs => ?_) fun e s' hs => hs
  cases fl with
  | ret u =>
    obtain ⟨v, σ', H', J, r', q⟩ := hs
    exact ⟨v, H', J.os, J.bare, J.base, J.hok, r', q⟩
  | next =>
    obtain ⟨σ', H', J, q⟩ := hs
    exact ⟨V.non, H', J.os, J.bare, J.base, J.hok, rfl, q⟩
  | brk => obtain ⟨_, _, _, q⟩ := hs; exact False.elim q
  | cont => obtain ⟨_, _, _, q⟩ := hs; exact False.elim q
end
def eCall (F : Fn) (g : Ev → Sto → R (List D)) : Ev → Sto → R D := fun ρ S => (g ρ S).bind fun ds S1 => F ds S1
theorem PostX.of {K : PySem.W.Frag} {W : WX} {σ : St} {ι : List Addr} {H : Hp} {r : R D} {Q : VK} (h : Post K W σ ι H r fun d _ ι' H' => ∀ v, RepV K ι' H' d v → Q v H') : PostX K (WE W σ) ι H r Q := by
  cases r with
  | ok d S => exact fun ι' H' v G s r => h ι' H' G s v r
  | er e S => exact h
  | stuck => exact h
section
variable {X : Cx} {W : WX} {gd : Bool} {k : Nat} {f : Addr} {F : Fn} {x : Str} {p pos : Pos} {e : Expr} {es : List Expr} {g : Ev → Sto → R (List D)}
theorem run_fnD {pins : List (Addr × Obj)} {σ : St} {H : Hp} {s : Shared} {Q : VK} {us : List Value} {vs : List V} (hF : FnD gd X.prog X.w X.K X.mg X.base k f F) (hr : Room k X.A) (hG : gd = true → X.A.guards = some []) (tk : Takes X W)
    (I : Inv X pins σ H s) (r : Vals vs us) (h : spD X.K F vs H Q (WE W σ)) : wpAny (model X.prog X.w) X.A (call (.ref f) us) (EP X pins σ Q) X.xe s := by
  refine wpAny_call (codeAny_mono (hF X.A X.stack s H us vs Q (WE W σ) hr hG I.env0 r h) fun res s' hq => ?_)
  cases res with
  | error er => exact passAt tk σ pins H s er s' I hq
  | ok fl =>
    cases fl with
    | ret u => exact I.after hq
    | next => exact False.elim hq
    | brk => exact False.elim hq
    | cont => exact False.elim hq
theorem de_callD (hF : FnD gd X.prog X.w X.K X.mg X.base k f F) (hr : Room k X.A) (hG : gd = true → X.A.guards = some []) (tk : Takes X W) (hm : X.mg x = some (.ref f)) (hk : PySem.W.keepIn X.K (.ref f) = true) (ha : DA X W (e :: es) g) (hg : Gl X x := by rfl) (hdb : (x == ("__debug__" : Str)) = false := by decide)
    (he : starEach (e :: es) X.env = (false, eval e X.env) :: starEach es X.env := by rfl) (hpl : (backTo pos (starEach es X.env)).any (·.1) = false := by rfl) : DE X W (.Call (.Name x p) (e :: es) [] pos) (eCall F g) := by
  refine ⟨fun pins s σ H Q I ⟨ι, ρ, S, hE, hS, h⟩ => ?_⟩
  refine wpAny_Call_Name_kw (ld_glob I hg hm ?_ hdb)
  have rd : rdA X.K W g σ H fun vs H1 => spD X.K F vs H1 Q (WE W σ) := ⟨ι, ρ, S, hE, hS, (Post.bind h).mono fun ds S1 ι1 H1 G1 s1 h1 vs rs => ⟨ι1, S1, ds, rs, s1, PostX.of h1⟩⟩
  exact PySem.W.callWith_K (h₀ := X.base) I.ok.mod.kin hk (thn (ha.run pos pins s σ H _ I rd) fun us s1 ⟨vs, H1, I1, r1, q1⟩ => ⟨I1.kIn, run_fnD hF hr hG tk I1 r1 q1⟩) he hpl
end
end DL
namespace DL
open PySem PySem.Spec L2
open PyProof.Rows hiding St
def CallK (K : PySem.W.Frag) (r : List V → Hp → VK → Prop) (b : Fn) : Prop := ∀ (W : WX) (σ : St) (ι : List Addr) (H : Hp) (S : Sto) (vs : List V) (ds : List D) (Q : VK), Sim K ι H S → RepL K ι H ds vs →
  Post K W σ ι H (b ds S) (fun d _ ι' H' => ∀ v, RepV K ι' H' d v → Q v H') → r vs H Q
theorem CallR.or {X : Cx} {f : Value} {r r' : List V → Hp → VK → Prop} (h : CallR X f r) (h' : CallR X f r') : CallR X f (fun vs H Q => r vs H Q ∨ r' vs H Q) := by
  intro pins s σ H vs us Q I rv q
  rcases q with q | q
  · exact h pins s σ H vs us Q I rv q
  · exact h' pins s σ H vs us Q I rv q
section
variable {X : Cx} {W : WX} {x : Str} {p pos : Pos} {e : Expr} {es : List Expr} {g : Ev → Sto → R (List D)} {id T : String} {r : List V → Hp → VK → Prop} {b : Fn}
theorem cb_read {K : PySem.W.Frag} (k : CallK K r b) : ∀ σ H Q, rdE K W (eCall b g) σ H Q → tCB r (rdA K W g) σ H Q := fun σ H Q ⟨ι, ρ, S, hE, hS, h⟩ =>
  ⟨ι, ρ, S, hE, hS, (Post.bind h).mono fun ds S1 ι1 H1 G1 s1 h1 vs rs => k W σ ι1 H1 S1 vs ds Q s1 rs h1⟩
theorem de_callB (hc : CallR X (.builtin id) r) (k : CallK X.K r b) (hm : X.mg x = none) (hv : bootBuiltins x = some (.builtin id)) (ha : DA X W (e :: es) g) (hg : Gl X x := by rfl) (hn : x ≠ "__name__" := by decide) (hdb : (x == ("__debug__" : Str)) = false := by decide)
    (he : starEach (e :: es) X.env = (false, eval e X.env) :: starEach es X.env := by rfl) (hpl : (backTo pos (starEach es X.env)).any (·.1) = false := by rfl) : DE X W (.Call (.Name x p) (e :: es) [] pos) (eCall b g) :=
  PE.imp (pe_callB hc hg hm hv ha hn hdb he hpl) (cb_read k)
theorem de_callTy (hc : CallR X (.type T) r) (k : CallK X.K r b) (hm : X.mg x = none) (hv : bootBuiltins x = some (.type T)) (ha : DA X W (e :: es) g) (hg : Gl X x := by rfl) (hn : x ≠ "__name__" := by decide) (hdb : (x == ("__debug__" : Str)) = false := by decide)
    (he : starEach (e :: es) X.env = (false, eval e X.env) :: starEach es X.env := by rfl) (hpl : (backTo pos (starEach es X.env)).any (·.1) = false := by rfl) : DE X W (.Call (.Name x p) (e :: es) [] pos) (eCall b g) :=
  PE.imp (pe_callTy hc hg hm hv ha hn hdb he hpl) (cb_read k)
end
section
variable {X : Cx} {K : PySem.W.Frag}
noncomputable def bLen : Fn := fun ds S => match ds with
  | [.str z] => ifp (z.length ≤ sizeLine) (.ok (.int z.length) S) .stuck
  | [d] => (match seqOf S d with
    | some xs => .ok (.int xs.length) S
    | none => .stuck)
  | _ => .stuck
theorem c_len : CallR X (.builtin "len") (fun xs H Q => (∃ z, xs = [.str z] ∧ z.length ≤ sizeLine ∧ Q (.int z.length) H) ∨ ∃ p ys, xs = [.ref p] ∧ (SqL X.K H p ys ∨ SqT X.K H p ys) ∧ Q (.int ys.length) H) := CallR.or call_len_str call_len_seq
theorem k_len : CallK K (fun xs H Q => (∃ z, xs = [.str z] ∧ z.length ≤ sizeLine ∧ Q (.int z.length) H) ∨ ∃ p ys, xs = [.ref p] ∧ (SqL K H p ys ∨ SqT K H p ys) ∧ Q (.int ys.length) H) bLen := by
  intro W σ ι H S vs ds Q s rl h
  unfold bLen at h
  (try unfold ifp at h); split at h
  · obtain ⟨v, rfl, rv⟩ := RepL.one_inv rl
    (try unfold ifp at h); split at h
    · rename_i hz
      exact .inl ⟨_, by rw [str_at rv], hz, h.here s _ int_rep⟩
    · exact h.elim
  · obtain ⟨v, rfl, rv⟩ := RepL.one_inv rl
    (try unfold ifp at h); split at h
    · rename_i xs hx
      obtain ⟨p, vs, rfl, q, rq⟩ := seq_at s rv hx
      refine .inr ⟨p, vs, rfl, q, ?_⟩
      rw [← RepL.length _ _ rq]
      exact h.here s _ int_rep
    · exact h.elim
  · exact h.elim
def bAbs : Fn := fun ds S => match ds with
  | [.int i] => .ok (.int (if i < 0 then -i else i)) S
  | _ => .stuck
theorem k_abs : CallK K (fun xs H Q => ∃ i, xs = [.int i] ∧ Q (.int (if i < 0 then -i else i)) H) bAbs := by
  intro W σ ι H S vs ds Q s rl h
  unfold bAbs at h
  (try unfold ifp at h); split at h
  · obtain ⟨v, rfl, rv⟩ := RepL.one_inv rl
    exact ⟨_, by rw [int_at rv], h.here s _ int_rep⟩
  · exact h.elim
def intsOf : List D → Option (List Int)
  | [] => some []
  | .int i :: ds => (intsOf ds).map fun is => i :: is
  | _ => none
theorem intsOf_rep {ι : List Addr} {H : Hp} : ∀ (ds : List D) (vs : List V) (is : List Int), RepL K ι H ds vs → intsOf ds = some is → vs = is.map V.int
  | [], vs, is, r, e => by rw [RepL] at r; cases e; subst r; rfl
  | d :: ds, vs, is, r, e => by
    rw [RepL] at r
    obtain ⟨v, us, rfl, a, b⟩ := r
    cases d with
    | int i =>
      have e : (intsOf ds).map (fun is => i :: is) = some is := e
      cases h : intsOf ds with
      | none => rw [h] at e; cases e
      | some js =>
        rw [h] at e; cases e
        rw [int_at a, intsOf_rep ds us js b h]; rfl
    | _ => cases e
theorem intsOf_map (is : List Int) : intsOf (is.map D.int) = some is := by
  induction is with
  | nil => rfl
  | cons i is ih => simp [intsOf, ih]
def maxL : List Int → Int
  | [] => 0
  | i :: is => is.foldl max i
def minL : List Int → Int
  | [] => 0
  | i :: is => is.foldl min i
def bMax : Fn := fun ds S => match ds with
  | [.int i, .int j] => .ok (.int (max i j)) S
  | [d] => (match (lstOf S d).bind intsOf with
    | some is => if is = [] then .stuck else .ok (.int (maxL is)) S
    | none => .stuck)
  | _ => .stuck
def bMin : Fn := fun ds S => match ds with
  | [.int i, .int j] => .ok (.int (min i j)) S
  | [d] => (match (lstOf S d).bind intsOf with
    | some is => if is = [] then .stuck else .ok (.int (minL is)) S
    | none => .stuck)
  | _ => .stuck
theorem foldl_max_ge (l : List Int) : ∀ i : Int, i ≤ l.foldl max i ∧ ∀ x ∈ l, x ≤ l.foldl max i := by
  induction l with
  | nil => intro i; simp
  | cons a l ih =>
    intro i
    obtain ⟨h1, h2⟩ := ih (max i a)
    refine ⟨by simp only [List.foldl_cons]; omega, fun x hx => ?_⟩
    simp only [List.foldl_cons]
    rcases List.mem_cons.mp hx with rfl | hx
    · omega
    · exact h2 x hx
theorem foldl_max_mem (l : List Int) : ∀ i : Int, l.foldl max i = i ∨ l.foldl max i ∈ l := by
  induction l with
  | nil => intro i; simp
  | cons a l ih =>
    intro i
    simp only [List.foldl_cons]
    rcases ih (max i a) with h | h
    · rw [h]
      by_cases hia : i ≤ a
      · exact .inr (by rw [Int.max_eq_right hia]; exact List.mem_cons_self)
      · exact .inl (by omega)
    · exact .inr (List.mem_cons_of_mem _ h)
theorem foldl_min_le (l : List Int) : ∀ i : Int, l.foldl min i ≤ i ∧ ∀ x ∈ l, l.foldl min i ≤ x := by
  induction l with
  | nil => intro i; simp
  | cons a l ih =>
    intro i
    obtain ⟨h1, h2⟩ := ih (min i a)
    refine ⟨by simp only [List.foldl_cons]; omega, fun x hx => ?_⟩
    simp only [List.foldl_cons]
    rcases List.mem_cons.mp hx with rfl | hx
    · omega
    · exact h2 x hx
theorem foldl_min_mem (l : List Int) : ∀ i : Int, l.foldl min i = i ∨ l.foldl min i ∈ l := by
  induction l with
  | nil => intro i; simp
  | cons a l ih =>
    intro i
    simp only [List.foldl_cons]
    rcases ih (min i a) with h | h
    · rw [h]
      by_cases hia : a ≤ i
      · exact .inr (by rw [Int.min_eq_right hia]; exact List.mem_cons_self)
      · exact .inl (by omega)
    · exact .inr (List.mem_cons_of_mem _ h)
theorem maxL_spec {is : List Int} (h : is ≠ []) : maxL is ∈ is ∧ ∀ x ∈ is, x ≤ maxL is := by
  cases is with
  | nil => exact absurd rfl h
  | cons i l =>
    obtain ⟨h1, h2⟩ := foldl_max_ge l i
    refine ⟨?_, fun x hx => ?_⟩
    · rcases foldl_max_mem l i with e | e
      · show l.foldl max i ∈ i :: l
        rw [e]; exact List.mem_cons_self
      · exact List.mem_cons_of_mem _ e
    · rcases List.mem_cons.mp hx with rfl | hx
      · exact h1
      · exact h2 x hx
theorem minL_spec {is : List Int} (h : is ≠ []) : minL is ∈ is ∧ ∀ x ∈ is, minL is ≤ x := by
  cases is with
  | nil => exact absurd rfl h
  | cons i l =>
    obtain ⟨h1, h2⟩ := foldl_min_le l i
    refine ⟨?_, fun x hx => ?_⟩
    · rcases foldl_min_mem l i with e | e
      · show l.foldl min i ∈ i :: l
        rw [e]; exact List.mem_cons_self
      · exact List.mem_cons_of_mem _ e
    · rcases List.mem_cons.mp hx with rfl | hx
      · exact h1
      · exact h2 x hx
theorem lst_ints {ι : List Addr} {H : Hp} {S : Sto} {d : D} {v : V} {is : List Int} (s : Sim K ι H S) (r : RepV K ι H d v) (e : (lstOf S d).bind intsOf = some is) : ∃ p, v = .ref p ∧ SqL K H p (is.map V.int) := by
  cases h : lstOf S d with
  | none => rw [h] at e; cases e
  | some ds =>
    rw [h] at e
    obtain ⟨p, vs, rfl, q, rl⟩ := lst_at s r h
    rw [intsOf_rep _ _ _ rl e] at q
    exact ⟨p, rfl, SqL.of q⟩
theorem c_max (hc : X.calm = true) : CallR X (.builtin "max") (fun xs H Q => (∃ i j, xs = [.int i, .int j] ∧ Q (.int (if j > i then j else i)) H) ∨ rMax X.K xs H Q) := CallR.or (call_max2 hc) (cr_max hc)
theorem c_min (hc : X.calm = true) : CallR X (.builtin "min") (fun xs H Q => (∃ i j, xs = [.int i, .int j] ∧ Q (.int (if j < i then j else i)) H) ∨ rMin X.K xs H Q) := CallR.or (call_min2 hc) (cr_min hc)
theorem k_max : CallK K (fun xs H Q => (∃ i j, xs = [.int i, .int j] ∧ Q (.int (if j > i then j else i)) H) ∨ rMax K xs H Q) bMax := by
  intro W σ ι H S vs ds Q s rl h
  unfold bMax at h
  (try unfold ifp at h); split at h
  · rename_i i j
    obtain ⟨v, u, rfl, rv, ru⟩ := RepL.two_inv rl
    refine .inl ⟨i, j, by rw [int_at rv, int_at ru], ?_⟩
    have : (if j > i then j else i) = max i j := by split <;> omega
    rw [this]
    exact h.here s _ int_rep
  · obtain ⟨v, rfl, rv⟩ := RepL.one_inv rl
    (try unfold ifp at h); split at h
    · rename_i is hi
      (try unfold ifp at h); split at h
      · exact h.elim
      · rename_i hne
        obtain ⟨p, rfl, q⟩ := lst_ints s rv hi
        obtain ⟨m1, m2⟩ := maxL_spec hne
        refine .inr ⟨p, is, rfl, q, List.length_pos_iff.mpr hne, fun m hm hle => ?_⟩
        have : m = maxL is := by have := hle _ m1; have := m2 _ hm; omega
        rw [this]
        exact h.here s _ int_rep
    · exact h.elim
  · exact h.elim
theorem k_min : CallK K (fun xs H Q => (∃ i j, xs = [.int i, .int j] ∧ Q (.int (if j < i then j else i)) H) ∨ rMin K xs H Q) bMin := by
  intro W σ ι H S vs ds Q s rl h
  unfold bMin at h
  (try unfold ifp at h); split at h
  · rename_i i j
    obtain ⟨v, u, rfl, rv, ru⟩ := RepL.two_inv rl
    refine .inl ⟨i, j, by rw [int_at rv, int_at ru], ?_⟩
    have : (if j < i then j else i) = min i j := by split <;> omega
    rw [this]
    exact h.here s _ int_rep
  · obtain ⟨v, rfl, rv⟩ := RepL.one_inv rl
    (try unfold ifp at h); split at h
    · rename_i is hi
      (try unfold ifp at h); split at h
      · exact h.elim
      · rename_i hne
        obtain ⟨p, rfl, q⟩ := lst_ints s rv hi
        obtain ⟨m1, m2⟩ := minL_spec hne
        refine .inr ⟨p, is, rfl, q, List.length_pos_iff.mpr hne, fun m hm hle => ?_⟩
        have : m = minL is := by have := hle _ m1; have := m2 _ hm; omega
        rw [this]
        exact h.here s _ int_rep
    · exact h.elim
  · exact h.elim
def bList (mk : List D → Sto → R D) : Fn := fun ds S => match ds with
  | [d] => (match seqOf S d with
    | some xs => mk xs S
    | none => .stuck)
  | _ => .stuck
theorem k_list {mk : List D → Sto → R D} (m : MkOk mk) : CallK K (fun xs H Q => ∃ p ys, xs = [.ref p] ∧ (SqL K H p ys ∨ SqT K H p ys) ∧ ∀ l, H l = none → Q (.ref l) (upd H l (.lst ys))) (bList mk) := by
  intro W σ ι H S vs ds Q s rl h
  unfold bList at h
  (try unfold ifp at h); split at h
  · obtain ⟨v, rfl, rv⟩ := RepL.one_inv rl
    (try unfold ifp at h); split at h
    · rename_i xs hx
      obtain ⟨p, vs, rfl, q, rq⟩ := seq_at s rv hx
      exact ⟨p, vs, rfl, q, m _ _ _ _ _ _ _ _ _ h s rq⟩
    · exact h.elim
  · exact h.elim
def bTuple : Fn := fun ds S => match ds with
  | [d] => (match seqOf S d with
    | some xs => .ok (.tup xs) S
    | none => .stuck)
  | _ => .stuck
theorem k_tuple : CallK K (fun xs H Q => ∃ p ys, xs = [.ref p] ∧ ((SqL K H p ys ∧ ∀ l, H l = none → Q (.ref l) (upd H l (.tup ys))) ∨ (SqT K H p ys ∧ Q (.ref p) H))) bTuple := by
  intro W σ ι H S vs ds Q s rl h
  match ds, rl, h with
  | [], rl, h => exact (show False from h).elim
  | _ :: _ :: _, rl, h => exact (show False from h).elim
  | [d], rl, h =>
    obtain ⟨v, rfl, rv⟩ := RepL.one_inv rl
    replace h : Post K W σ ι H (match seqOf S d with
      | some xs => .ok (.tup xs) S
      | none => .stuck) (fun d _ ι' H' => ∀ v, RepV K ι' H' d v → Q v H') := h
    cases d with
    | tup ys =>
      have rv' := rv
      obtain ⟨p, vs, rfl, q, rq⟩ := tup_at rv
      exact ⟨p, vs, rfl, .inr ⟨q, Post.here (a := D.tup ys) h s _ rv'⟩⟩
    | fl ys =>
      rw [RepV] at rv
      obtain ⟨a, us, rfl, t, rl'⟩ := rv
      exact ⟨a, us, rfl, .inl ⟨t.sq, new_tup h s rl'⟩⟩
    | kl ys =>
      rw [RepV] at rv
      obtain ⟨a, us, rfl, t, rl'⟩ := rv
      exact ⟨a, us, rfl, .inl ⟨t.sq, new_tup h s rl'⟩⟩
    | loc n =>
      rw [RepV] at rv
      obtain ⟨a, ea, rfl⟩ := rv
      cases hq : getQ S n with
      | none =>
        have e : seqOf S (.loc n) = none := hq
        rw [e] at h; exact h.elim
      | some ys =>
        have e : seqOf S (.loc n) = some ys := hq
        rw [e] at h
        obtain ⟨us, z, rl'⟩ := loc_at s ea hq
        exact ⟨a, us, rfl, .inl ⟨z, new_tup h s rl'⟩⟩
    | _ => exact (show False from h).elim
def tyOf (S : Sto) : D → Option String
  | .non => some "NoneType"
  | .bl _ => some "bool"
  | .int _ => some "int"
  | .str _ => some "str"
  | .tup _ => some "tuple"
  | .fl _ => some "list"
  | .fd _ => some "dict"
  | .kl _ => none
  | .loc n => (match S[n]? with
    | some (.lst _) => some "list"
    | some (.dct _) => some "dict"
    | _ => none)
  | .ty _ => none
  | .fn _ => none
  | .exc _ _ => none
theorem ty_at {ι : List Addr} {H : Hp} {S : Sto} {d : D} {v : V} {t : String} (s : Sim K ι H S) (r : RepV K ι H d v) (e : tyOf S d = some t) : TyX K H v (.type t) := by
  cases d with
  | non => rw [RepV] at r; cases e; subst r; exact .base .non
  | bl b => rw [RepV] at r; cases e; subst r; exact .base (.bl b)
  | int b => rw [RepV] at r; cases e; subst r; exact .base (.int b)
  | str b => rw [RepV] at r; cases e; subst r; exact .base (.str b)
  | tup ds =>
    cases e
    rw [RepV] at r
    obtain ⟨a, vs, rfl, tt, rl⟩ := r
    rcases tt with tt | tt | ⟨o, its, n, h1, h2, _⟩
    · exact .base (.tup tt.2)
    · exact (no_rd tt).elim
    · exact .kTuple h1 h2
  | fl ds =>
    cases e
    rw [RepV] at r
    obtain ⟨a, vs, rfl, tt, rl⟩ := r
    exact .base (.lst tt.2)
  | fd ds =>
    cases e
    rw [RepV] at r
    obtain ⟨a, vs, rfl, tt, h1, rl⟩ := r
    exact .base (.dK h1)
  | loc n =>
    rw [RepV] at r
    obtain ⟨a, ea, rfl⟩ := r
    have e : (match S[n]? with
      | some (.lst _) => some "list"
      | some (.dct _) => some "dict"
      | _ => none) = some t := e
    (try unfold ifp at e); split at e
    · rename_i q
      cases e
      obtain ⟨vs, h1, _⟩ := s.ob _ _ _ ea q
      exact .base (.lst h1)
    · rename_i q
      cases e
      obtain ⟨vs, h1, _⟩ := s.ob _ _ _ ea q
      exact .base (.dK h1)
    · cases e
  | ty b => cases e
  | kl b => cases e
  | fn b => cases e
  | exc c b => cases e
def bIsi : Fn := fun ds S => match ds with
  | [d, .ty c] => (match tyOf S d with
    | some t => (match kitB t c with
      | some b => .ok (.bl b) S
      | none => .stuck)
    | none => .stuck)
  | _ => .stuck
theorem k_isi : CallK K (rIsi K) bIsi := by
  intro W σ ι H S vs ds Q s rl h
  unfold bIsi at h
  (try unfold ifp at h); split at h
  · obtain ⟨v, u, rfl, rv, ru⟩ := RepL.two_inv rl
    rw [RepV] at ru
    (try unfold ifp at h); split at h
    · rename_i t ht
      (try unfold ifp at h); split at h
      · rename_i b hb
        refine ⟨v, u, .type t, .type _, b, rfl, ?_, ty_at s rv ht, kit_ty hb, h.here s _ bl_rep⟩
        subst ru
        exact .ty _
      · exact h.elim
    · exact h.elim
  · exact h.elim
end
section
variable {X : Cx} {W : WX} {pos : Pos} {a b c : Expr}
def eNeg (f : Ev → Sto → R D) : Ev → Sto → R D := fun ρ S => (f ρ S).bind fun d S1 => (iOf d S1).bind fun i S2 => .ok (.int (-i)) S2
theorem de_neg {f : Ev → Sto → R D} (ha : DE X W a f) : DE X W (.UnaryOp .USub a pos) (eNeg f) := by
  refine PE.imp (pe_un un_neg ha) fun σ H Q ⟨ι, ρ, S, hE, hS, h⟩ => ⟨ι, ρ, S, hE, hS, (Post.bind h).mono fun d S1 ι1 H1 G1 s1 h1 v rv => ?_⟩
  cases d with
  | int i => exact ⟨i, int_at rv, Post.here (a := D.int (-i)) h1 s1 _ int_rep⟩
  | _ => exact (show False from h1).elim
def eChain (o o' : D → D → Sto → R D) (f g h : Ev → Sto → R D) : Ev → Sto → R D := fun ρ S => (f ρ S).bind fun x S1 => (g ρ S1).bind fun y S2 => (o x y S2).bind fun z S3 => (bOf z S3).bind fun k S4 => if k = true then (h ρ S4).bind fun w S5 => o' y w S5 else .ok (.bl false) S4
end
end DL
namespace DL
open PySem PySem.Spec L2
open PyProof.Rows hiding St
abbrev Mt := D → List D → Sto → R D
def MtK (K : PySem.W.Frag) (r : V → List V → Hp → VK → Prop) (m : Mt) : Prop := ∀ (W : WX) (σ : St) (ι : List Addr) (H : Hp) (S : Sto) (x : V) (vs : List V) (a : D) (ds : List D) (Q : VK), Sim K ι H S → RepV K ι H a x → RepL K ι H ds vs →
  Post K W σ ι H (m a ds S) (fun d _ ι' H' => ∀ v, RepV K ι' H' d v → Q v H') → r x vs H Q
def isLst (S : Sto) (d : D) : Bool := (lstOf S d).isSome
def eMt (c : Sto → D → Bool) (m : Mt) (f : Ev → Sto → R D) (g : Ev → Sto → R (List D)) : Ev → Sto → R D := fun ρ S => (f ρ S).bind fun a S1 => if c S1 a = true then (g ρ S1).bind fun ds S2 => m a ds S2 else .stuck
def ChkOk (T : String) (c : Sto → D → Bool) : Prop := ∀ (K : PySem.W.Frag) (ι : List Addr) (H : Hp) (S : Sto) (d : D) (x : V), Sim K ι H S → RepV K ι H d x → c S d = true → tyV K T x H
theorem chk_lst : ChkOk "list" isLst := fun K ι H S d x s r h => by
  unfold isLst at h
  cases e : lstOf S d with
  | none => rw [e] at h; cases h
  | some ds =>
    obtain ⟨p, vs, rfl, q, _⟩ := lst_at s r e
    exact .inl ⟨rfl, vs, SqL.of q⟩
section
variable {X : Cx} {W : WX} {o e : Expr} {es : List Expr} {apos cpos : Pos} {T id : String} {name : Str} {r : V → List V → Hp → VK → Prop} {c : Sto → D → Bool} {m : Mt} {f : Ev → Sto → R D} {g : Ev → Sto → R (List D)}
theorem de_bm (pa : PlainAttrs T) (slot : Slot T name id) (hty : typeOf (.builtin id) = pure (.type "method_descriptor")) (hm : MtR X id r) (k : MtK X.K r m) (hc : ChkOk T c) (ho : DE X W o f) (ha : DA X W (e :: es) g)
    (hbase : attributeBase o name X.env (eval o X.env) = eval o X.env := by rfl)
    (hfew : ((backTo cpos (starEach (e :: es) X.env)).all (fun x => !x.1) && (backToKw cpos (keywordEach [] X.env)).all (fun x => x.1.isSome)
      && decide ((e :: es).length + ([] : List Keyword).length + (if ([] : List Keyword).isEmpty then 0 else 1) < 30)) = true := by rfl)
    (hline : (apos.endLine == cpos.line) = true := by rfl) (hs : starEach (e :: es) X.env = (false, eval e X.env) :: starEach es X.env := by rfl)
    (hplain : (backTo cpos (starEach es X.env)).any (·.1) = false := by rfl) : DE X W (.Call (.Attribute o name apos) (e :: es) [] cpos) (eMt c m f g) := by
  refine PE.imp (pe_bm pa slot hty hm ho ha hbase hfew hline hs hplain) fun σ H Q ⟨ι, ρ, S, hE, hS, h⟩ => ⟨ι, ρ, S, hE, hS, (Post.bind h).mono fun a S1 ι1 H1 G1 s1 h1 x rx => ?_⟩
  (try unfold ifp at h1); split at h1
  · rename_i hh
    refine ⟨hc _ _ _ _ _ _ s1 rx hh, ι1, ρ, S1, hE.grow G1, s1, (Post.bind h1).mono fun ds S2 ι2 H2 G2 s2 h2 vs rs => ?_⟩
    exact k W σ ι2 H2 S2 x vs a ds Q s2 (RepV.grow G2 _ _ rx) rs h2
  · exact h1.elim
theorem de_bm0 (pa : PlainAttrs T) (slot : Slot T name id) (hty : typeOf (.builtin id) = pure (.type "method_descriptor")) (hm : MtR X id r) (k : MtK X.K r m) (hc : ChkOk T c) (ho : DE X W o f)
    (hbase : attributeBase o name X.env (eval o X.env) = eval o X.env := by rfl) (hline : (apos.endLine == cpos.line) = true := by rfl) : DE X W (.Call (.Attribute o name apos) [] [] cpos) (eMt c m f aNil) := by
  refine PE.imp (pe_bm0 pa slot hty hm ho hbase hline) fun σ H Q ⟨ι, ρ, S, hE, hS, h⟩ => ⟨ι, ρ, S, hE, hS, (Post.bind h).mono fun a S1 ι1 H1 G1 s1 h1 x rx => ?_⟩
  (try unfold ifp at h1); split at h1
  · rename_i hh
    refine ⟨hc _ _ _ _ _ _ s1 rx hh, ?_⟩
    exact k W σ ι1 H1 S1 x [] a [] Q s1 rx RepL.nil h1
  · exact h1.elim
end
section
variable {X : Cx} {K : PySem.W.Frag}
noncomputable def mAppend : Mt := fun o ds S => match o, ds with
  | .loc n, [y] => (match getL S n with
    | some xs => ifp (xs.length < sizeLine) (.ok .non (S.set n (.lst (xs ++ [y])))) .stuck
    | none => .stuck)
  | _, _ => .stuck
/-- a list of the store is changed -/
theorem loc_put {W : WX} {σ : St} {ι : List Addr} {H : Hp} {S : Sto} {n : Nat} {a : Addr} {xs : List D} {ys : List D} {us : List V} {d : D} {Q : VK} {v : V} (h : Post K W σ ι H (.ok d (S.set n (.lst ys))) fun d _ ι' H' => ∀ v, RepV K ι' H' d v → Q v H') (s : Sim K ι H S) (ea : ι[n]? = some a)
    (rl : RepL K ι H ys us) (rv : RepV K ι H d v) : Q v (upd H a (.lst us)) :=
  have G := Grow.put (H := H) (o := .lst us) (List.mem_of_getElem? ea)
  h ι _ G (s.put (b := .lst ys) ea ⟨us, upd_same, RepL.grow G _ _ rl⟩) v (RepV.grow G _ _ rv)
theorem k_append : MtK K rAppend mAppend := by
  intro W σ ι H S x vs a ds Q s rx rl h
  unfold mAppend at h
  (try unfold ifp at h); split at h
  · (try unfold ifp at h); split at h
    · rename_i xs hL
      (try unfold ifp at h); split at h
      · rename_i hz
        obtain ⟨y, rfl, ry⟩ := RepL.one_inv rl
        rw [RepV] at rx
        obtain ⟨p, ea, rfl⟩ := rx
        obtain ⟨us, h1, h2⟩ := s.ob _ _ _ ea (getL_some hL)
        exact ⟨p, us, y, rfl, rfl, h1, by rw [← RepL.length _ _ h2]; exact hz, loc_put (xs := xs) h s ea (RepL.app _ _ h2 _ _ (RepL.one ry)) non_rep⟩
      · exact h.elim
    · exact h.elim
  · exact h.elim
noncomputable def mExtend : Mt := fun o ds S => match o, ds with
  | .loc n, [y] => (match getL S n, lstOf S y with
    | some xs, some ys => ifp (xs.length + ys.length ≤ sizeLine) (.ok .non (S.set n (.lst (xs ++ ys)))) .stuck
    | _, _ => .stuck)
  | _, _ => .stuck
theorem k_extend : MtK K rExtend mExtend := by
  intro W σ ι H S x vs a ds Q s rx rl h
  unfold mExtend at h
  (try unfold ifp at h); split at h
  · (try unfold ifp at h); split at h
    · rename_i xs ys hL hy
      (try unfold ifp at h); split at h
      · rename_i hz
        obtain ⟨y, rfl, ry⟩ := RepL.one_inv rl
        rw [RepV] at rx
        obtain ⟨p, ea, rfl⟩ := rx
        obtain ⟨us, h1, h2⟩ := s.ob _ _ _ ea (getL_some hL)
        obtain ⟨q, ws, rfl, h3, h4⟩ := lst_at s ry hy
        exact ⟨p, q, us, ws, rfl, rfl, h1, h3, by rw [← RepL.length _ _ h2, ← RepL.length _ _ h4]; exact hz, loc_put (xs := xs) h s ea (RepL.app _ _ h2 _ _ h4) non_rep⟩
      · exact h.elim
    · exact h.elim
  · exact h.elim
def mPop : Mt := fun o ds S => match o, ds with
  | .loc n, [] => (match getL S n with
    | some xs => (match xs[xs.length - 1]? with
      | some y => .ok y (S.set n (.lst xs.dropLast))
      | none => .stuck)
    | none => .stuck)
  | _, _ => .stuck
theorem RepL.dropLast {ι : List Addr} {H : Hp} {ds : List D} {vs : List V} (h : RepL K ι H ds vs) : RepL K ι H ds.dropLast vs.dropLast := by
  rw [List.dropLast_eq_take, List.dropLast_eq_take, ← RepL.length _ _ h]
  exact RepL.take _ _ _ h
theorem k_pop : MtK K rPop mPop := by
  intro W σ ι H S x vs a ds Q s rx rl h
  unfold mPop at h
  (try unfold ifp at h); split at h
  · (try unfold ifp at h); split at h
    · rename_i xs hL
      (try unfold ifp at h); split at h
      · rename_i y hy
        have := rl
        rw [RepL] at this
        subst this
        rw [RepV] at rx
        obtain ⟨p, ea, rfl⟩ := rx
        obtain ⟨us, h1, h2⟩ := s.ob _ _ _ ea (getL_some hL)
        obtain ⟨v, hv, rv⟩ := RepL.get _ _ h2 _ _ hy
        rw [RepL.length _ _ h2] at hv
        exact ⟨p, us, v, rfl, rfl, h1, hv, loc_put (xs := xs) h s ea h2.dropLast rv⟩
      · exact h.elim
    · exact h.elim
  · exact h.elim
noncomputable def mPopAt : Mt := fun o ds S => match o, ds with
  | .loc n, [.int i] => (match getL S n with
    | some xs => ifp (-(2 ^ 63) ≤ i ∧ i < 2 ^ 63) (match seqIndex? i xs.length with
        | some k => (match xs[k]? with
          | some y => .ok y (S.set n (.lst (xs.eraseIdx k)))
          | none => .stuck)
        | none => .stuck) .stuck
    | none => .stuck)
  | _, _ => .stuck
theorem RepL.erase {ι : List Addr} {H : Hp} : ∀ (ds : List D) (vs : List V) (k : Nat), RepL K ι H ds vs → RepL K ι H (ds.eraseIdx k) (vs.eraseIdx k)
  | [], _, k, h => by rw [RepL] at h; subst h; simp [RepL]
  | d :: ds, _, 0, h => by
    rw [RepL] at h
    obtain ⟨v, r, rfl, a, b⟩ := h
    exact b
  | d :: ds, _, k + 1, h => by
    rw [RepL] at h
    obtain ⟨v, r, rfl, a, b⟩ := h
    exact RepL.cons a (RepL.erase ds r k b)
theorem k_popAt : MtK K rPopAt mPopAt := by
  intro W σ ι H S x vs a ds Q s rx rl h
  unfold mPopAt at h
  (try unfold ifp at h); split at h
  · rename_i n i
    (try unfold ifp at h); split at h
    · rename_i xs hL
      (try unfold ifp at h); split at h
      · rename_i hi
        (try unfold ifp at h); split at h
        · rename_i k hk
          (try unfold ifp at h); split at h
          · rename_i y hy
            obtain ⟨u, rfl, ru⟩ := RepL.one_inv rl
            rw [RepV] at rx
            obtain ⟨p, ea, rfl⟩ := rx
            obtain ⟨us, h1, h2⟩ := s.ob _ _ _ ea (getL_some hL)
            obtain ⟨v, hv, rv⟩ := RepL.get _ _ h2 _ _ hy
            refine ⟨p, us, i, k, v, rfl, by rw [int_at ru], h1, hi.1, hi.2, by rw [← RepL.length _ _ h2]; exact hk, hv, loc_put (xs := xs) h s ea (RepL.erase _ _ _ h2) rv⟩
          · exact h.elim
        · exact h.elim
      · exact h.elim
    · exact h.elim
  · exact h.elim
end
section
variable {X : Cx} {pins : List (Addr × Obj)} {σ : St} {ι : List Addr} {H : Hp} {s : Shared}
theorem no_sys (I : Inv X pins σ H s) (hb : ∃ o, X.base.get? sysModules = some o) {a : Addr} {u : HO} (e : H a = some u) : sysModules ≠ a := by
  rintro rfl
  obtain ⟨o, h⟩ := hb
  have := (I.bs _ _ h).2
  rw [this] at e; cases e
theorem pairs_reads {P : Program} {w : World} {h : Heap} : ∀ (kvs : List (Key × V)) (vs : List (Key × Value)) (es : List DictEntry), KV kvs vs → Pairs (mixKind P w) es vs → ∃ ks, ks = es.map (·.key) ∧ ReadsAll h ks (kvs.map fun q => keyPy q.1) [] ∧ Vals (kvs.map (·.2)) (es.map (·.val))
  | [], _, _, .nil, .nil => ⟨_, rfl, .nil, .nil⟩
  | (k, x) :: kvs, _, _, .cons r rs, .cons (e := e) h1 h2 h3 => by
    obtain ⟨ks, rfl, h4, h5⟩ := pairs_reads (h := h) kvs _ _ rs h3
    obtain ⟨r1, r2⟩ := r
    refine ⟨_, rfl, ?_, .cons (show L2.RelV x e.val by rw [h2]; exact r2) h5⟩
    rw [← r1] at h1
    rcases keyIs_shape h1 with ⟨i, t, e1, e2⟩ | ⟨z, t, e1, e2⟩
    · cases e1
      show ReadsAll h (e.key :: _) (PyData.int i :: _) ([] ++ [])
      rw [e2]
      exact .cons (Reads.int i t) h4
    · cases e1
      show ReadsAll h (e.key :: _) (PyData.str z :: _) ([] ++ [])
      rw [e2]
      exact .cons (Reads.str z t) h4
theorem repK_fst {K : PySem.W.Frag} : ∀ (kvs : List (Key × D)) (ks : List (Key × V)), RepK K ι H kvs ks → ks.map (fun q => keyPy q.1) = kvs.map (fun q => keyPy q.1) ∧ RepL K ι H (kvs.map (·.2)) (ks.map (·.2))
  | [], _, h => by rw [RepK] at h; subst h; exact ⟨rfl, RepL.nil⟩
  | (k, d) :: kvs, _, h => by
    rw [RepK] at h
    obtain ⟨v, r, rfl, a, b⟩ := h
    obtain ⟨h1, h2⟩ := repK_fst kvs r b
    exact ⟨by simp [h1], RepL.cons a h2⟩
theorem pyK_split : ∀ (kvs : List (Key × D)) (ps : List (PyData × PyData)), pyK kvs = some ps → ps.map (·.1) = kvs.map (fun q => keyPy q.1) ∧ pyL (kvs.map (·.2)) = some (ps.map (·.2))
  | [], ps, h => by rw [pyK] at h; cases h; exact ⟨rfl, rfl⟩
  | (k, d) :: kvs, ps, h => by
    rw [pyK] at h
    cases h1 : py d with
    | none => rw [h1] at h; cases h
    | some p =>
      rw [h1] at h
      cases h2 : pyK kvs with
      | none => rw [h2] at h; cases h
      | some qs =>
        rw [h2] at h; cases h
        obtain ⟨a, b⟩ := pyK_split kvs qs h2
        refine ⟨by simp [a], ?_⟩
        show pyL (d :: kvs.map (·.2)) = _
        rw [pyL, h1, b]; rfl
mutual
theorem py_reads (I : Inv X pins σ H s) (hb : ∃ o, X.base.get? sysModules = some o) : ∀ (d : D) (v : V) (u : Value) (p : PyData), RepV X.K ι H d v → RelV v u → py d = some p → ∃ as, Reads s.heap u p as ∧ sysModules ∉ as
  | .non, v, u, p, r, q, e => by rw [RepV] at r; rw [py] at e; cases e; subst r; cases q; exact ⟨_, .none, by simp⟩
  | .bl b, v, u, p, r, q, e => by rw [RepV] at r; rw [py] at e; cases e; subst r; cases q; exact ⟨_, .bool b, by simp⟩
  | .int i, v, u, p, r, q, e => by rw [RepV] at r; rw [py] at e; cases e; subst r; obtain ⟨t, rfl⟩ := q; exact ⟨_, .int i t, by simp⟩
  | .str x, v, u, p, r, q, e => by rw [RepV] at r; rw [py] at e; cases e; subst r; obtain ⟨t, rfl⟩ := q; exact ⟨_, .str x t, by simp⟩
  | .tup ds, v, u, p, r, q, e => by
    rw [RepV] at r
    obtain ⟨a, vs, rfl, t, rl⟩ := r
    cases q
    rw [py] at e
    cases h : pyL ds with
    | none => rw [h] at e; cases e
    | some ps =>
      rw [h] at e; cases e
      obtain ⟨its, rv, ⟨o, ho, hc, n, hd⟩, _⟩ := I.tuple t.sq
      obtain ⟨as, h1, h2⟩ := pyL_reads I hb ds vs its ps rl rv h
      exact ⟨as, .tuple ho hc hd h1, h2⟩
  | .fl ds, v, u, p, r, q, e => by
    rw [RepV] at r
    obtain ⟨a, vs, rfl, t, rl⟩ := r
    cases q
    rw [py] at e
    cases h : pyL ds with
    | none => rw [h] at e; cases e
    | some ps =>
      rw [h] at e; cases e
      obtain ⟨its, rv, ⟨o, n, ho, hc, _, hd⟩, _⟩ := I.list t.sq
      obtain ⟨as, h1, h2⟩ := pyL_reads I hb ds vs its ps rl rv h
      exact ⟨a :: as, .list ho hc hd h1, by simp [h2, no_sys I hb t.2]⟩
  | .fd kvs, v, u, p, r, q, e => by
    rw [RepV] at r
    obtain ⟨a, ks, rfl, na, ha, rk⟩ := r
    cases q
    rw [py] at e
    cases h : pyK kvs with
    | none => rw [h] at e; cases e
    | some ps =>
      rw [h] at e; cases e
      obtain ⟨_, _, vs, kv, o, es, ep, ho, hx, hd, _, hp, _⟩ := I.hok a _ ha
      obtain ⟨e1, rl⟩ := repK_fst kvs ks rk
      obtain ⟨e2, e3⟩ := pyK_split kvs ps h
      obtain ⟨_, rfl, h4, h5⟩ := pairs_reads (h := s.heap) ks vs es.toList kv hp
      obtain ⟨as, h6, h7⟩ := pyLK_reads I hb kvs _ _ (ps.map (·.2)) rl h5 e3
      refine ⟨a :: [] ++ as, .dict ho hx.1 hd (by rw [e2, ← e1]; exact h4) h6, ?_⟩
      simp [h7, no_sys I hb ha]
  | .ty _, v, u, p, r, q, e => by rw [py] at e; cases e
  | .kl _, v, u, p, r, q, e => by rw [py] at e; cases e
  | .fn _, v, u, p, r, q, e => by rw [py] at e; cases e
  | .exc _ _, v, u, p, r, q, e => by rw [py] at e; cases e
  | .loc _, v, u, p, r, q, e => by rw [py] at e; cases e
theorem pyL_reads (I : Inv X pins σ H s) (hb : ∃ o, X.base.get? sysModules = some o) : ∀ (ds : List D) (vs : List V) (us : List Value) (ps : List PyData), RepL X.K ι H ds vs → Vals vs us → pyL ds = some ps → ∃ as, ReadsAll s.heap us ps as ∧ sysModules ∉ as
  | [], vs, us, ps, r, q, e => by rw [RepL] at r; rw [pyL] at e; cases e; subst r; cases q; exact ⟨_, .nil, by simp⟩
  | d :: ds, vs, us, ps, r, q, e => by
    rw [RepL] at r
    obtain ⟨v, ws, rfl, a, b⟩ := r
    rw [pyL] at e
    cases h : py d with
    | none => rw [h] at e; cases e
    | some p =>
      rw [h] at e
      cases h2 : pyL ds with
      | none => rw [h2] at e; cases e
      | some qs =>
        rw [h2] at e; cases e
        cases q with
        | cons q1 q2 =>
          obtain ⟨as, r1, n1⟩ := py_reads I hb d v _ p a q1 h
          obtain ⟨bs, r2, n2⟩ := pyL_reads I hb ds ws _ qs b q2 h2
          exact ⟨as ++ bs, .cons r1 r2, by simp [n1, n2]⟩
theorem pyLK_reads (I : Inv X pins σ H s) (hb : ∃ o, X.base.get? sysModules = some o) : ∀ (ds : List (Key × D)) (vs : List V) (us : List Value) (ps : List PyData), RepL X.K ι H (ds.map (·.2)) vs → Vals vs us → pyL (ds.map (·.2)) = some ps → ∃ as, ReadsAll s.heap us ps as ∧ sysModules ∉ as
  | [], vs, us, ps, r, q, e => by
    have r : RepL X.K ι H [] vs := r
    have e : pyL [] = some ps := e
    rw [RepL] at r; rw [pyL] at e; cases e; subst r; cases q; exact ⟨_, .nil, by simp⟩
  | (k, d) :: ds, vs, us, ps, r, q, e => by
    have r : RepL X.K ι H (d :: ds.map (·.2)) vs := r
    have e : pyL (d :: ds.map (·.2)) = some ps := e
    rw [RepL] at r
    obtain ⟨v, ws, rfl, a, b⟩ := r
    rw [pyL] at e
    cases h : py d with
    | none => rw [h] at e; cases e
    | some p =>
      rw [h] at e
      cases h2 : pyL (ds.map (·.2)) with
      | none => rw [h2] at e; cases e
      | some qs =>
        rw [h2] at e; cases e
        cases q with
        | cons q1 q2 =>
          obtain ⟨as, r1, n1⟩ := py_reads I hb d v _ p a q1 h
          obtain ⟨bs, r2, n2⟩ := pyLK_reads I hb ds ws _ qs b q2 h2
          exact ⟨as ++ bs, .cons r1 r2, by simp [n1, n2]⟩
end
theorem pyS_reads {S : Sto} (I : Inv X pins σ H s) (hb : ∃ o, X.base.get? sysModules = some o) (sm : Sim X.K ι H S) {d : D} {v : V} {u : Value} {p : PyData} (r : RepV X.K ι H d v) (q : RelV v u) (e : pyS S d = some p) : ∃ as, Reads s.heap u p as ∧ sysModules ∉ as := by
  cases d with
  | loc m =>
    have e : (getQ S m).bind (fun ds => (pyL ds).map .list) = some p := e
    cases h : getQ S m with
    | none => rw [h] at e; cases e
    | some ds =>
      rw [h] at e
      have e : (pyL ds).map PyData.list = some p := e
      cases h2 : pyL ds with
      | none => rw [h2] at e; cases e
      | some ps =>
        rw [h2] at e; cases e
        rw [RepV] at r
        obtain ⟨a, ea, rfl⟩ := r
        cases q
        obtain ⟨vs, h3, h4⟩ := loc_at sm ea h
        obtain ⟨w, hw⟩ := sm.there (List.mem_of_getElem? ea)
        obtain ⟨its, rv, ⟨o, n, ho, hc, _, hd⟩, _⟩ := I.list h3
        obtain ⟨as, h5, h6⟩ := pyL_reads I hb ds vs its ps h4 rv h2
        exact ⟨a :: as, .list ho hc hd h5, by simp [h6, no_sys I hb hw]⟩
  | _ => exact py_reads I hb _ v u p r q e
end
def showOk (p : PyData) : Prop := p.showable = true ∧ p.shown.length ≤ sizeLine ∧ p.depth ≤ 60
open Classical in
noncomputable def bRepr : Fn := fun ds S => match ds with
  | [d] => (match pyS S d with
    | some p => if showOk p then .ok (.str p.shown) S else .stuck
    | none => .stuck)
  | _ => .stuck
def rRepr (K : PySem.W.Frag) : List V → Hp → VK → Prop := fun xs H Q => ∃ ι S d x p, xs = [x] ∧ Sim K ι H S ∧ RepV K ι H d x ∧ pyS S d = some p ∧ showOk p ∧ Q (.str p.shown) H
theorem c_repr {X : Cx} {k : Nat} (hr : Room k X.A) (hg : X.A.guards = some []) (hb : ∃ o, X.base.get? sysModules = some o) : CallR X (.builtin "repr") (rRepr X.K) := by
  intro pins s σ H xs us Q I rv h
  obtain ⟨ι, S, d, x, p, rfl, sm, r, e, ⟨h1, h2, h3⟩, q⟩ := h
  cases rv with
  | cons r1 r2 =>
    cases r2
    rename_i u
    obtain ⟨as, rd, na⟩ := pyS_reads I hb sm r r1 e
    show wpAny _ _ (call (.builtin "repr") [u]) _ _ _
    have hu := hr.units
    have fin : ∀ (h' : Heap) (t : Tok) (tk : Nat), (∀ b o, s.heap.get? b = some o → h'.get? b = some o) → EP X pins σ Q (.str p.shown t) { s with heap := h', toks := tk } := fun h' t tk hk => ⟨.str p.shown, H, I.kept hk, ⟨_, rfl⟩, q⟩
    cases rd with
    | none => exact P.repr_of_none (fin _ _ _ fun _ _ e => e)
    | bool b => exact P.repr_of_bool (fin _ _ _ fun _ _ e => e)
    | int i t => exact P.repr_of_int (by simpa [PyData.showable] using h1) (fin _ _ _ fun _ _ e => e)
    | str z t => exact P.repr_of_str (fin _ _ _ fun _ _ e => e) h2
    | list a1 a2 a3 a4 => exact repr_of_reads' (.list a1 a2 a3 a4) h1 (fun _ => na) hg (by omega) (fun _ _ e => e) (fun h' t tk hk => fin h' t tk hk) h2
    | tuple a1 a2 a3 a4 => exact repr_of_reads' (.tuple a1 a2 a3 a4) h1 (fun _ => na) hg (by omega) (fun _ _ e => e) (fun h' t tk hk => fin h' t tk hk) h2
    | dict a1 a2 a3 a4 a5 => exact repr_of_reads' (.dict a1 a2 a3 a4 a5) h1 (fun _ => na) hg (by omega) (fun _ _ e => e) (fun h' t tk hk => fin h' t tk hk) h2
theorem k_repr {K : PySem.W.Frag} : CallK K (rRepr K) bRepr := by
  intro W σ ι H S vs ds Q s rl h
  unfold bRepr at h
  (try unfold ifp at h); split at h
  · obtain ⟨v, rfl, rv⟩ := RepL.one_inv rl
    (try unfold ifp at h); split at h
    · rename_i p hp
      (try unfold ifp at h); split at h
      · rename_i hs
        exact ⟨ι, S, _, v, p, rfl, s, rv, hp, hs, h.here s _ str_rep⟩
      · exact h.elim
    · exact h.elim
  · exact h.elim
/-- the name of a built-in class as a value -/
theorem de_bty {X : Cx} {W : WX} {x : Str} {T : String} {pos : Pos} (hm : X.mg x = none) (hv : bootBuiltins x = some (.type T)) (hg : Gl X x := by rfl) (hn : x ≠ "__name__" := by decide) (hd : (x == ("__debug__" : Str)) = false := by decide) : DE X W (.Name x pos) (eC (.ty T)) :=
  de_c (pe_bltn (v := .ty T) hg hm hv rfl hn hd) fun _ _ => by rw [RepV]
end DL
namespace DL
open PySem PySem.Spec L2
open PyProof.Rows hiding St
/-- what a law's function must give -/
def LawOk (F : Fn) : Prop := ∀ ns : List Int, ns.length ≤ 63 → (∀ z ∈ ns, Builtin.Int.intBits z ≤ 1048576) → ∃ S', F [.kl (ns.map D.int)] [] = .ok (.bl true) S'
theorem repL_ints {K : PySem.W.Frag} {ι : List Addr} {H : Hp} (ns : List Int) : RepL K ι H (ns.map D.int) (ns.map V.int) := by
  induction ns with
  | nil => exact RepL.nil
  | cons n ns ih => exact RepL.cons int_rep ih
theorem law_run {P : Program} {w : World} {K : PySem.W.Frag} {mg mb : Str → Option Value} {k : Nat} {fa a : Addr} {F : Fn} {s₁ : Shared} {vs : List Value} {ns : List Int}
    (KX : K.In s₁.heap) (hns : s₁.heap.Ns mainGlobals mg) (hb : s₁.heap.Ns builtinsNs mb) (hbb : ∀ x : Str, x ≠ "__name__" → mb x = bootBuiltins x) (hlim : s₁.heap.NoLimit) (hsy : s₁.heap.NoSeer) (hg : s₁.gens = #[])
    (ha : s₁.heap.get? a = some { cls := .type "list", data := .seq vs.toArray }) (hi : IntsAre vs ns) (hl : ns.length ≤ 63) (hbit : ∀ z ∈ ns, Builtin.Int.intBits z ≤ 1048576) (hr : Room k callerA)
    (hF : ∀ base : Heap, K.In base → base.Ns mainGlobals mg → (∃ o, base.get? sysModules = some o) → FnD true P w K mg base k fa F) (hlaw : LawOk F) :
    codeAny (model P w) callerA (.call (.ref fa) ⟨[.ref a], []⟩) (fun r s' => r = .ok (.ret (.bool true)) ∧ OldK s₁.heap s'.heap ∧ s'.os = s₁.os ∧ AllBare s'.gens) s₁ := by
  have rvs := vals_ints hi
  have hz : ns.length ≤ sizeLine := Nat.le_trans hl (by decide)
  have hlv := hi.length
  have go : ∀ H : Hp, (∀ b u, H b = some u → b = a ∧ K.lookup a = none ∧ ∃ o, u = .frz o (.lst (ns.map V.int))) → KlAt K [] H a (ns.map V.int) → HOk P w H s₁.heap →
      codeAny (model P w) callerA (.call (.ref fa) ⟨[.ref a], []⟩) (fun r s' => r = .ok (.ret (.bool true)) ∧ OldK s₁.heap s'.heap ∧ s'.os = s₁.os ∧ AllBare s'.gens) s₁ := by
    intro H only kl hok
    have free : ∀ {b : Addr} {o : Obj}, s₁.heap.get? b = some o → (b = a → K.lookup a ≠ none ∨ ∃ es ep, o.data = .dict es ep) → H b = none := by
      intro b o e1 e2
      cases q : H b with
      | none => rfl
      | some u =>
        obtain ⟨rfl, n1, _⟩ := only b u q
        rcases e2 rfl with z | ⟨es, ep, z⟩
        · exact absurd n1 z
        · rw [ha] at e1; cases e1; cases z
    have nsb : ∀ {b : Addr} {m : Str → Option Value}, s₁.heap.Ns b m → (hidT s₁.heap H).Ns b m := by
      rintro b m ⟨o, es, ep, e1, e2, r⟩
      exact ⟨o, es, ep, hidT_get e1 (free e1 fun _ => .inr ⟨es, ep, e2⟩), e2, r⟩
    have kin : K.In (hidT s₁.heap H) := fun b o e => hidT_get (KX b o e) (free (KX b o e) fun z => .inl (by rw [← z, e]; simp))
    have hsys : ∃ o, (hidT s₁.heap H).get? sysModules = some o := by
      obtain ⟨mm, ⟨o, es, ep, e1, e2, r⟩, _⟩ := hsy.mods
      exact ⟨o, hidT_get e1 (free e1 fun _ => .inr ⟨es, ep, e2⟩)⟩
    have md : Mod K mg (hidT s₁.heap H) := ⟨kin, nsb hns, ⟨mb, nsb hb, hbb⟩, let ⟨mc, h1, h2⟩ := hlim; ⟨mc, nsb h1, h2⟩⟩
    have e0 : Env0 P w K mg (hidT s₁.heap H) callerA [] s₁ H :=
      { frames := rfl, mod := md, bs := fun b o e => of_hidT e, bsz := Nat.le_of_eq (hidT_size _ _), funs := trivial
        frf := fun b z => absurd (show b ∈ ([] : List Addr) from z) (by simp), hok := hok, bare := .of_eq hg }
    obtain ⟨S', hS⟩ := hlaw ns hl hbit
    have sp : spD K F [V.ref a] H (fun v _ => v = .bl true) fun _ _ _ => False := by
      refine ⟨[], [], [.kl (ns.map D.int)], RepL.one (by rw [RepV]; exact ⟨a, _, rfl, kl, repL_ints ns⟩), ⟨List.nodup_nil, rfl, fun n a o e => by simp at e⟩, ?_⟩
      rw [hS]
      intro ι' H' v _ _ r
      rw [RepV] at r; exact r
    refine codeAny_mono (hF _ kin (nsb hns) hsys callerA [] s₁ H [.ref a] [.ref a] _ _ hr (fun _ => rfl) e0 (.cons rfl .nil) sp) fun r s' h => ?_
    cases r with
    | error e =>
      obtain ⟨_, _, _, _, _, _, _, _, _, _, _, _, z⟩ := h
      exact z.elim
    | ok fl =>
      cases fl with
      | next => exact False.elim h
      | brk => exact False.elim h
      | cont => exact False.elim h
      | ret u =>
        obtain ⟨v, H', os, bare, un, hok', r', q⟩ := h
        have q : v = .bl true := q
        subst q
        cases (show u = Value.bool true from r')
        refine ⟨rfl, OldK.of_keep fun b o e => ?_, os, bare⟩
        cases hb' : H b with
        | none => exact un.keep b o e hb' (fun z => absurd (show b ∈ ([] : List Addr) from z) (by simp)) (by simp)
        | some u =>
          obtain ⟨rfl, _, ob, rfl⟩ := only b u hb'
          have z1 := (hok b _ hb').1
          have z2 := (hok' b _ (un.frzs b ob _ hb')).1
          rw [e] at z1; cases z1
          exact z2
  cases hk : K.lookup a with
  | some o =>
    have e := KX a o hk
    rw [ha] at e; cases e
    refine go (fun _ => none) (fun b u z => by cases z) (.inr (.inr ⟨_, vs.toArray, _, hk, rfl, rfl, rfl, by rw [List.size_toArray, hlv]; exact hz, by simpa using rvs⟩)) fun b u z => by cases z
  | none =>
    refine go (upd (fun _ => none) a (.frz { cls := .type "list", data := .seq vs.toArray } (.lst (ns.map V.int)))) (fun b u z => ?_) (.inl ⟨by simp, _, upd_same⟩) fun b u z => ?_
    · by_cases hb' : b = a
      · subst hb'
        rw [upd_same] at z; cases z
        exact ⟨rfl, hk, _, rfl⟩
      · rw [upd_ne hb'] at z; cases z
    · by_cases hb' : b = a
      · subst hb'
        rw [upd_same] at z; cases z
        exact ⟨ha, by rw [List.length_map]; exact hz, vs, _, rvs, ha⟩
      · rw [upd_ne hb'] at z; cases z
theorem law_walk {l : PySem.W.OpenLaw} {k : Nat} {q : Program} {loose : List Str} {XP : (Str → Option Value) → Heap → Prop} {YP : World → Heap → Prop} {d : DefRec} {K : Params → PySem.W.Frag}
    (hn : l.most = some 63) (hdf : d.params.defaults = []) (hr : Room k callerA) (hi : importsNone q = true)
    (hY : ∀ (w : World) (h : Heap), YP w h → (K w.params).In h)
    (hF : ∀ (w : World) (mg : Str → Option Value) (fa : Addr) (h : Heap), (K w.params).In h → h.Ns mainGlobals mg → mg d.name = some (.ref fa) →
      ∃ F : Fn, LawOk F ∧ ∀ base : Heap, (K w.params).In base → base.Ns mainGlobals mg → (∃ o, base.get? sysModules = some o) → FnD true l.prog w (K w.params) mg base k fa F) :
    PySem.W.WalkO q loose XP YP l.row.toRowW d [] (fun f vs => PySem.call f vs) := by
  refine Att.attach_callB hn hdf fun w s₀ s₁ mg mb fa o pm cd doc a vs ns G Y ho hd hcd hmg hobj hints hlen hbits hg => ?_
  obtain ⟨F, hl, hF'⟩ := hF w mg fa _ (hY w _ Y) G.T.g hmg
  exact law_run (hY w _ Y) G.T.g G.T.b G.T.builtins G.T.nolimit (G.T.seer hi) hg hobj hints hlen hbits hr hF' hl
end DL
namespace DL
open PySem PySem.Spec L2
open PyProof.Rows hiding St
section
variable {K : PySem.W.Frag}
theorem k_lt : OpK K (rI0 fun i j => .bl (decide (i < j))) dLt := k_cmp
theorem k_gt : OpK K (rI0 fun i j => .bl (decide (j < i))) dGt := k_cmp
theorem k_ge : OpK K (rI0 fun i j => .bl (decide (j ≤ i))) dGe := k_cmp
end
def sPar3 (i j l : Nat) (g : Ev → Sto → R (List D)) : Ev → Sto → SR := fun ρ S => (g ρ S).toS ρ fun ds S1 => match ds with
  | [a, b, c] => .nx (((ρ.set i (some a)).set j (some b)).set l (some c)) S1
  | _ => .stuck
end DL
namespace DL
open PySem PySem.Spec L2
open PyProof.Rows hiding St
theorem dAdd_int (i j : Int) (S : Sto) : dAdd (.int i) (.int j) S = .ok (.int (i + j)) S := rfl
theorem dLt_int (i j : Int) (S : Sto) : dLt (.int i) (.int j) S = .ok (.bl (decide (i < j))) S := rfl
theorem dLe_int (i j : Int) (S : Sto) : dLe (.int i) (.int j) S = .ok (.bl (decide (i ≤ j))) S := rfl
theorem dGt_int (i j : Int) (S : Sto) : dGt (.int i) (.int j) S = .ok (.bl (decide (j < i))) S := rfl
theorem dGe_int (i j : Int) (S : Sto) : dGe (.int i) (.int j) S = .ok (.bl (decide (j ≤ i))) S := rfl
theorem dAddI_int (i j : Int) (S : Sto) : dAddI (.int i) (.int j) S = .ok (.int (i + j)) S := rfl
theorem dSubI_int (i j : Int) (S : Sto) : dSubI (.int i) (.int j) S = .ok (.int (i - j)) S := rfl
theorem dSub_int (i j : Int) (S : Sto) : dSub (.int i) (.int j) S = .ok (.int (i - j)) S := rfl
theorem dMod_int (i j : Int) (S : Sto) : dMod (.int i) (.int j) S = if 0 < j then .ok (.int (i % j)) S else .stuck := rfl
theorem dFdiv_int (i j : Int) (S : Sto) : dFdiv (.int i) (.int j) S = ifp (0 < j ∧ j.natAbs.log2 < 9000) (.ok (.int (i / j)) S) .stuck := rfl
theorem dPow_ok {i j : Int} (h : 0 ≤ j ∧ j ≤ 1000000 ∧ i.natAbs < 2 ^ 64) (S : Sto) : dPow (.int i) (.int j) S = .ok (.int (i ^ j.toNat)) S := ifp_pos h
theorem dIsN_non (n : Bool) (a : D) (S : Sto) : dIsN n a .non S = .ok (.bl (if n then !isN a else isN a)) S := rfl
theorem ll0 : (0 ≤ sizeLine) = True := eq_true (by decide)
theorem ll1 : (1 ≤ sizeLine) = True := eq_true (by decide)
theorem ll2 : (2 ≤ sizeLine) = True := eq_true (by decide)
theorem ll3 : (3 ≤ sizeLine) = True := eq_true (by decide)
theorem ll4 : (4 ≤ sizeLine) = True := eq_true (by decide)
theorem ll5 : (5 ≤ sizeLine) = True := eq_true (by decide)
theorem ll6 : (6 ≤ sizeLine) = True := eq_true (by decide)
theorem ll7 : (7 ≤ sizeLine) = True := eq_true (by decide)
theorem ll8 : (8 ≤ sizeLine) = True := eq_true (by decide)
theorem ll9 : (9 ≤ sizeLine) = True := eq_true (by decide)
theorem ll10 : (10 ≤ sizeLine) = True := eq_true (by decide)
theorem ll11 : (11 ≤ sizeLine) = True := eq_true (by decide)
theorem ll12 : (12 ≤ sizeLine) = True := eq_true (by decide)
theorem ll13 : (13 ≤ sizeLine) = True := eq_true (by decide)
theorem ll14 : (14 ≤ sizeLine) = True := eq_true (by decide)
theorem ll15 : (15 ≤ sizeLine) = True := eq_true (by decide)
theorem ll16 : (16 ≤ sizeLine) = True := eq_true (by decide)
theorem ll17 : (17 ≤ sizeLine) = True := eq_true (by decide)
theorem ll18 : (18 ≤ sizeLine) = True := eq_true (by decide)
theorem ll19 : (19 ≤ sizeLine) = True := eq_true (by decide)
theorem ll20 : (20 ≤ sizeLine) = True := eq_true (by decide)
theorem ll21 : (21 ≤ sizeLine) = True := eq_true (by decide)
theorem ll22 : (22 ≤ sizeLine) = True := eq_true (by decide)
theorem ll23 : (23 ≤ sizeLine) = True := eq_true (by decide)
theorem ll24 : (24 ≤ sizeLine) = True := eq_true (by decide)
theorem ll25 : (25 ≤ sizeLine) = True := eq_true (by decide)
theorem ll26 : (26 ≤ sizeLine) = True := eq_true (by decide)
theorem ll27 : (27 ≤ sizeLine) = True := eq_true (by decide)
theorem ll28 : (28 ≤ sizeLine) = True := eq_true (by decide)
theorem ll29 : (29 ≤ sizeLine) = True := eq_true (by decide)
theorem ll30 : (30 ≤ sizeLine) = True := eq_true (by decide)
theorem ll31 : (31 ≤ sizeLine) = True := eq_true (by decide)
theorem ll32 : (32 ≤ sizeLine) = True := eq_true (by decide)
theorem ll33 : (33 ≤ sizeLine) = True := eq_true (by decide)
theorem ll34 : (34 ≤ sizeLine) = True := eq_true (by decide)
theorem ll35 : (35 ≤ sizeLine) = True := eq_true (by decide)
theorem ll36 : (36 ≤ sizeLine) = True := eq_true (by decide)
theorem ll37 : (37 ≤ sizeLine) = True := eq_true (by decide)
theorem ll38 : (38 ≤ sizeLine) = True := eq_true (by decide)
theorem ll39 : (39 ≤ sizeLine) = True := eq_true (by decide)
theorem ll40 : (40 ≤ sizeLine) = True := eq_true (by decide)
theorem pyL_ints (l : List Int) : pyL (l.map D.int) = some (l.map PyData.int) := by
  induction l with
  | nil => rfl
  | cons i l ih => simp [pyL, py, ih]
theorem canLayAll_ints (l : List Int) : PyData.canLayAll0 (l.map PyData.int) = true := by
  induction l with
  | nil => rfl
  | cons i l ih => simp [PyData.canLayAll0, PyData.canLay0, ih]
theorem depthAll_ints (l : List Int) : PyData.depthAll (l.map PyData.int) = 0 := by
  induction l with
  | nil => rfl
  | cons i l ih => simp [PyData.depthAll, PyData.depth, ih]
theorem shaped_ints (l : List Int) : SeqAt.shaped (.list (l.map PyData.int)) = true := by
  simp [SeqAt.shaped, PyData.canLay0, canLayAll_ints, PyData.depth, depthAll_ints]
theorem shaped_int (i : Int) : SeqAt.shaped (.int i) = true := by
  simp [SeqAt.shaped, PyData.canLay0, PyData.depth]
theorem shaped_nilL : SeqAt.shaped (.list []) = true := by decide
theorem dEq_int (n : Bool) (i j : Int) (S : Sto) : dEq n (.int i) (.int j) S = .ok (.bl (if n then !(i == j) else i == j)) S := by
  simp [dEq, dEqP, pyS, py, shaped_int, PyData.eqv]
theorem dEqP_py {n : Bool} {a b : D} {S : Sto} {p q : PyData} (h1 : pyS S a = some p) (h2 : pyS S b = some q) (s1 : SeqAt.shaped p = true) (s2 : SeqAt.shaped q = true) : dEqP n a b S = .ok (.bl (if n then !PyData.eqv p q else PyData.eqv p q)) S := by
  unfold dEqP
  rw [h1, h2]
  show (if SeqAt.shaped p = true ∧ SeqAt.shaped q = true then _ else _) = _
  rw [if_pos ⟨s1, s2⟩]
theorem dEq_str (n : Bool) (x y : Str) (S : Sto) : dEq n (.str x) (.str y) S = .ok (.bl (if n then !decide (x = y) else decide (x = y))) S := rfl
theorem pyS_loc {S : Sto} {n : Nat} {l : List Int} (h : getQ S n = some (l.map D.int)) : pyS S (.loc n) = some (.list (l.map PyData.int)) := by
  show (getQ S n).bind (fun ds => (pyL ds).map PyData.list) = _
  rw [h]
  show (pyL (l.map D.int)).map PyData.list = _
  rw [pyL_ints]; rfl
/-- a list of ints of the store against [] -/
theorem dNe_loc_nil {S : Sto} {n : Nat} {l : List Int} (h : getQ S n = some (l.map D.int)) : dEq true (.loc n) (.fl []) S = .ok (.bl (!l.isEmpty)) S := by
  show dEqP true (.loc n) (.fl []) S = _
  rw [dEqP_py (pyS_loc h) (q := .list []) rfl (shaped_ints l) shaped_nilL]
  cases l <;> simp [PyData.eqv, PyData.eqvAll]
theorem rangeD_nat (n : Nat) : rangeD 0 n = (List.range n).map fun k => D.int (k : Nat) := by
  unfold rangeD
  congr 1
  funext k
  simp
theorem forD_nil {g : Sto → Prop} {T : Tg} {B Z : Ev → Sto → SR} {ρ : Ev} {S : Sto} (h : g S) : forD g T B Z [] ρ S = Z ρ S := by
  unfold forD; rw [if_pos h]
theorem forD_cons {g : Sto → Prop} {T : Tg} {B Z : Ev → Sto → SR} {d : D} {ds : List D} {ρ ρ1 ρ2 : Ev} {S S1 S2 : Sto} (h : g S) (hT : T d ρ S = some (ρ1, S1)) (hB : B ρ1 S1 = .nx ρ2 S2) : forD g T B Z (d :: ds) ρ S = forD g T B Z ds ρ2 S2 := by
  rw [forD, if_pos h, hT]; simp only [hB]
theorem whileD_end {c : Ev → Sto → R Bool} {B : Ev → Sto → SR} {n : Nat} {ρ : Ev} {S S1 : Sto} (hc : c ρ S = .ok false S1) : whileD c B (n + 1) ρ S = .nx ρ S1 := by
  rw [whileD, hc]; rfl
theorem whileD_next {c : Ev → Sto → R Bool} {B : Ev → Sto → SR} {n : Nat} {ρ ρ2 : Ev} {S S1 S2 : Sto} (hc : c ρ S = .ok true S1) (hB : B ρ S1 = .nx ρ2 S2) : whileD c B (n + 1) ρ S = whileD c B n ρ2 S2 := by
  rw [whileD, hc]; simp only [R.toS_ok, if_true, hB]
theorem whileD_ret {c : Ev → Sto → R Bool} {B : Ev → Sto → SR} {n : Nat} {ρ : Ev} {S S1 S2 : Sto} {d : D} (hc : c ρ S = .ok true S1) (hB : B ρ S1 = .rt d S2) : whileD c B (n + 1) ρ S = .rt d S2 := by
  rw [whileD, hc]; simp only [R.toS_ok, if_true, hB]
/-- a loop that goes through: P before each turn -/
theorem forD_all {T : Tg} {B Z : Ev → Sto → SR} (P : Nat → Ev → Sto → Prop) : ∀ (ds : List D) (i : Nat) (ρ : Ev) (S : Sto), P i ρ S →
    (∀ (j : Nat) (d : D) (ρ : Ev) (S : Sto), ds[j]? = some d → P (i + j) ρ S → ∃ ρ1 S1 ρ2 S2, T d ρ S = some (ρ1, S1) ∧ (B ρ1 S1 = .nx ρ2 S2 ∨ B ρ1 S1 = .ct ρ2 S2) ∧ P (i + j + 1) ρ2 S2) →
    ∃ ρ' S', P (i + ds.length) ρ' S' ∧ forD yes T B Z ds ρ S = Z ρ' S'
  | [], i, ρ, S, h, _ => ⟨ρ, S, h, forD_nil trivial⟩
  | d :: ds, i, ρ, S, h, step => by
    obtain ⟨ρ1, S1, ρ2, S2, hT, hB, h2⟩ := step 0 d ρ S rfl h
    obtain ⟨ρ', S', h3, e⟩ := forD_all P ds (i + 1) ρ2 S2 h2 fun j d' ρ S hj hp => by
      have e1 : i + (j + 1) = i + 1 + j := by omega
      have := step (j + 1) d' ρ S (by simpa using hj) (by rw [e1]; exact hp)
      rw [e1] at this
      exact this
    refine ⟨ρ', S', ?_, ?_⟩
    · have : i + (d :: ds).length = i + 1 + ds.length := by simp; omega
      rw [this]; exact h3
    · rw [forD, if_pos (show yes S from trivial), hT]
      rcases hB with hB | hB <;> (simp only [hB]; exact e)
mutual
def rok : D → Bool
  | .non => true
  | .bl _ => true
  | .int i => decide (i.natAbs.log2 < 1920)
  | .str x => x.cps.toList.all fun c => decide (c < 16 ^ 8)
  | .tup ds => rokL ds
  | .fl ds => rokL ds
  | .fd kvs => rokK kvs
  | .kl _ => false
  | .ty _ => false
  | .fn _ => false
  | .exc _ _ => false
  | .loc _ => false
def rokL : List D → Bool
  | [] => true
  | d :: ds => rok d && rokL ds
def rokK : List (Key × D) → Bool
  | [] => true
  | (k, d) :: ds => (match k with
    | .inl i => decide (i.natAbs.log2 < 1920)
    | .inr x => x.cps.toList.all fun c => decide (c < 16 ^ 8)) && rok d && rokK ds
end
mutual
def bulkD : D → Nat
  | .str x => x.cps.size
  | .tup ds => bulkL ds
  | .fl ds => bulkL ds
  | .fd kvs => bulkK kvs
  | .non => 0
  | .bl _ => 0
  | .int _ => 0
  | .kl _ => 0
  | .ty _ => 0
  | .fn _ => 0
  | .exc _ _ => 0
  | .loc _ => 0
def bulkL : List D → Nat
  | [] => 0
  | d :: ds => bulkD d + 1 + bulkL ds
def bulkK : List (Key × D) → Nat
  | [] => 0
  | (k, d) :: ds => (match k with
    | .inl _ => 0
    | .inr x => x.cps.size) + bulkD d + 2 + bulkK ds
end
mutual
def depD : D → Nat
  | .tup ds => depL ds + 1
  | .fl ds => depL ds + 1
  | .fd kvs => depK kvs + 1
  | .str _ => 0
  | .non => 0
  | .bl _ => 0
  | .int _ => 0
  | .kl _ => 0
  | .ty _ => 0
  | .fn _ => 0
  | .exc _ _ => 0
  | .loc _ => 0
def depL : List D → Nat
  | [] => 0
  | d :: ds => max (depD d) (depL ds)
def depK : List (Key × D) → Nat
  | [] => 0
  | (_, d) :: ds => max (depD d) (depK ds)
end
theorem shown_int_small {i : Int} (h : i.natAbs.log2 < 1920) : (PyData.shown (.int i)).length ≤ 1921 := by
  have e := int_text_length_le (k := 1920) (by decide) h
  show (Str.ofString (toString i)).length ≤ 1921
  rw [PySem.ofString_length]; exact e
/-- data that repr can show -/
structure PyOk (d : D) (p : PyData) : Prop where
  eq : py d = some p
  sh : p.showable = true
  lv : p.leavesShort 1921 = true
  bk : p.bulk = bulkD d
  dp : p.depth = depD d
mutual
theorem rok_py : ∀ d : D, rok d = true → ∃ p, PyOk d p
  | .non, _ => ⟨.none, rfl, rfl, rfl, rfl, rfl⟩
  | .bl b, _ => ⟨.bool b, rfl, rfl, rfl, rfl, rfl⟩
  | .int i, h => by
    have h : i.natAbs.log2 < 1920 := by simpa [rok] using h
    exact ⟨.int i, rfl, by simpa [PyData.showable] using h, by simpa [PyData.leavesShort] using shown_int_small h, rfl, rfl⟩
  | .str x, h => ⟨.str x, rfl, rfl, by simpa [rok, PyData.leavesShort] using h, rfl, rfl⟩
  | .tup ds, h => by
    obtain ⟨ps, e, a, b, c, f⟩ := rokL_py ds (by simpa [rok] using h)
    exact ⟨.tuple ps, by rw [py, e]; rfl, by simpa [PyData.showable] using a, by simpa [PyData.leavesShort] using b, by simp [PyData.bulk, bulkD, c], by simp [PyData.depth, depD, f]⟩
  | .fl ds, h => by
    obtain ⟨ps, e, a, b, c, f⟩ := rokL_py ds (by simpa [rok] using h)
    exact ⟨.list ps, by rw [py, e]; rfl, by simpa [PyData.showable] using a, by simpa [PyData.leavesShort] using b, by simp [PyData.bulk, bulkD, c], by simp [PyData.depth, depD, f]⟩
  | .fd ds, h => by
    obtain ⟨ps, e, a, b, c, f⟩ := rokK_py ds (by simpa [rok] using h)
    exact ⟨.dict ps, by rw [py, e]; rfl, by simpa [PyData.showable] using a, by simpa [PyData.leavesShort] using b, by simp [PyData.bulk, bulkD, c], by simp [PyData.depth, depD, f]⟩
  | .kl _, h => by simp [rok] at h
  | .ty _, h => by simp [rok] at h
  | .fn _, h => by simp [rok] at h
  | .exc _ _, h => by simp [rok] at h
  | .loc _, h => by simp [rok] at h
theorem rokL_py : ∀ ds : List D, rokL ds = true → ∃ ps, pyL ds = some ps ∧ PyData.showableAll ps = true ∧ PyData.leavesShortAll 1921 ps = true ∧ PyData.bulkAll ps = bulkL ds ∧ PyData.depthAll ps = depL ds
  | [], _ => ⟨[], rfl, rfl, rfl, rfl, rfl⟩
  | d :: ds, h => by
    rw [rokL, Bool.and_eq_true] at h
    obtain ⟨p, e, a, b, c, f⟩ := rok_py d h.1
    obtain ⟨ps, e', a', b', c', f'⟩ := rokL_py ds h.2
    exact ⟨p :: ps, by rw [pyL, e, e']; rfl, by simp [PyData.showableAll, a, a'], by simp [PyData.leavesShortAll, b, b'], by simp [PyData.bulkAll, bulkL, c, c'], by simp [PyData.depthAll, depL, f, f']⟩
theorem rokK_py : ∀ ds : List (Key × D), rokK ds = true → ∃ ps, pyK ds = some ps ∧ PyData.showableKv ps = true ∧ PyData.leavesShortKv 1921 ps = true ∧ PyData.bulkKv ps = bulkK ds ∧ PyData.depthKv ps = depK ds
  | [], _ => ⟨[], rfl, rfl, rfl, rfl, rfl⟩
  | (.inl i, d) :: ds, h => by
    simp only [rokK, Bool.and_eq_true, decide_eq_true_eq] at h
    obtain ⟨p, e, a, b, c, f⟩ := rok_py d h.1.2
    obtain ⟨ps, e', a', b', c', f'⟩ := rokK_py ds h.2
    have hi := h.1.1
    have hs := shown_int_small hi
    exact ⟨(.int i, p) :: ps, by rw [pyK, e, e']; rfl, by simp [PyData.showableKv, PyData.showable, hi, a, a'], by simp [PyData.leavesShortKv, PyData.leavesShort, hs, b, b'], by simp [PyData.bulkKv, PyData.bulk, bulkK, c, c'], by simp [PyData.depthKv, PyData.depth, depK, f, f']⟩
  | (.inr x, d) :: ds, h => by
    simp only [rokK, Bool.and_eq_true] at h
    obtain ⟨p, e, a, b, c, f⟩ := rok_py d h.1.2
    obtain ⟨ps, e', a', b', c', f'⟩ := rokK_py ds h.2
    have hx := h.1.1
    exact ⟨(.str x, p) :: ps, by rw [pyK, e, e']; rfl, by simp [PyData.showableKv, PyData.showable, a, a'], by simp only [PyData.leavesShortKv, PyData.leavesShort, hx, b, b', Bool.and_self], by simp [PyData.bulkKv, PyData.bulk, bulkK, c, c'], by simp [PyData.depthKv, PyData.depth, depK, f, f']⟩
end
def shD (d : D) : Str := match py d with
  | some p => p.shown
  | none => Str.empty
/-- repr of plain data -/
theorem repr_d {d : D} (h : rok d = true) (hb : bulkD d ≤ 8000) (hd : depD d ≤ 60) (S : Sto) : bRepr [d] S = .ok (.str (shD d)) S := by
  obtain ⟨p, o⟩ := rok_py d h
  have e : pyS S d = some p := by
    cases d with
    | loc n => simp [rok] at h
    | _ => exact o.eq
  have hs : showOk p := by
    refine ⟨o.sh, ?_, by rw [o.dp]; exact hd⟩
    have h1 := PyData.shown_le_bulk 1921 (by decide) p o.lv
    rw [o.bk] at h1
    have h2 : (1921 + 2) * bulkD d ≤ 1923 * 8000 := Nat.mul_le_mul_left _ hb
    rw [sizeLine_eq]
    omega
  have e2 : shD d = p.shown := by unfold shD; rw [o.eq]
  unfold bRepr
  simp only [e]
  rw [if_pos hs, e2]
theorem rok_int {i : Int} (b : Nat) (h : i.natAbs < 2 ^ b) (h0 : 0 < b) (h9 : b ≤ 1920) : rok (.int i) = true := by
  simp only [rok, decide_eq_true_eq]
  exact Nat.lt_of_lt_of_le (PySem.Flt.log2_lt_of h0 h) h9
end DL
namespace DL
open PySem PySem.Spec L2
open PyProof.Rows hiding St
noncomputable def E1__law_stream (ρ : Ev) (S : Sto) : R D :=
  (eCall bAbs (aCons (eVar 2) aNil)) ρ S
noncomputable def E2__law_stream (ρ : Ev) (S : Sto) : R D :=
  (eVar 2) ρ S
noncomputable def Q1__law_stream (ρ : Ev) (S : Sto) : R Bool :=
  (eT (eOp dGe (eVar 2) (eOp dPow (eC (.int 10)) (eC (.int 18))))) ρ S
noncomputable def B__law_stream : Ev → Sto → SR :=
  (sSeq (sSet 1 (eLc finFl (iSeq (eVar 0)) (tN 2) [2] cYes E1__law_stream))
    (sRet (eLoc (aCons (eLc finLoc (iSeq (eVar 1)) (tN 2) [2] Q1__law_stream E2__law_stream) (aCons (eOp dAdd (eVar 1) (eFl (aCons (eOp dAdd (eCall bLen (aCons (eVar 1) aNil)) (eC (.int 17))) aNil))) (aCons (eC (.int 0)) aNil))))))
noncomputable def F__law_stream : Fn := fnC closeK 3 1 B__law_stream
noncomputable def C1__law_draw (ρ : Ev) (S : Sto) : R Bool :=
  (eT (eOp (dEq true) (eOp dIx (eVar 0) (eC (.int 0))) (eFl aNil))) ρ S
noncomputable def L1__law_draw (ρ : Ev) (S : Sto) : SR :=
  (sSeq (sSet 2 (eOp dIx (eOp dIx (eVar 0) (eC (.int 0))) (eC (.int 0))))
    (sSeq (sIf (eT (eOp dGt (eVar 2) (eC (.int 0)))) (sSeq (sAsg (eOp dFdiv (eVar 2) (eVar 1)) (tSub (eOp dIx (eVar 0) (eC (.int 0))) (eC (.int 0))))
    (sRet (eOp dMod (eVar 2) (eVar 1)))) sNil)
    (sExp (eMt isLst mPopAt (eOp dIx (eVar 0) (eC (.int 0))) (aCons (eC (.int 0)) aNil))))) ρ S
noncomputable def B__law_draw : Ev → Sto → SR :=
  (sSeq (whileD C1__law_draw L1__law_draw 4000)
    (sSeq (sSet 3 (eOp dAdd (eOp dIx (eVar 0) (eC (.int 2))) (eC (.int 1))))
    (sSeq (sAsg (eVar 3) (tSub (eVar 0) (eC (.int 2))))
    (sSeq (sSet 4 (eOp dMod (eOp dIx (eOp dIx (eVar 0) (eC (.int 1))) (eOp dMod (eVar 3) (eCall bLen (aCons (eOp dIx (eVar 0) (eC (.int 1))) aNil)))) (eC (.int 2147483587))))
    (sSeq (sSet 5 (eOp dMod (eOp dAdd (eOp dAdd (eOp dMul (eVar 4) (eOp dAdd (eC (.int 16807)) (eOp dMul (eC (.int 48271)) (eVar 3)))) (eOp dMul (eOp dMul (eC (.int 69621)) (eVar 3)) (eVar 3))) (eC (.int 5))) (eC (.int 2147483647))))
    (sRet (eOp dMod (eOp dFdiv (eOp dMod (eOp dMul (eVar 5) (eVar 5)) (eC (.int 2147483629))) (eC (.int 16))) (eVar 1))))))))
noncomputable def F__law_draw : Fn := fnC close 6 2 B__law_draw
noncomputable def B__law_pick : Ev → Sto → SR :=
  (sRet (eOp dIx (eVar 1) (eCall F__law_draw (aCons (eVar 0) (aCons (eCall bLen (aCons (eVar 1) aNil)) aNil)))))
noncomputable def F__law_pick : Fn := fnC close 2 2 B__law_pick
def strO (big cells : List Int) (t : Int) (rest : Sto) : Sto := .lst (big.map .int) :: .lst [.loc 0, .fl (cells.map .int), .int t] :: rest
structure StrOk (big cells : List Int) (t : Int) (n : Nat) : Prop where
  bigs : ∀ c ∈ big, 0 ≤ c
  cls : ∀ c ∈ cells, 0 ≤ c
  ne : cells ≠ []
  few : big.length ≤ 63
  t0 : 0 ≤ t
  tn : t ≤ n
/-- the stream stands in S, at most n mixed draws were made -/
def Strm (S : Sto) (n : Nat) (rest : Sto) : Prop := ∃ big cells t, S = strO big cells t rest ∧ StrOk big cells t n
theorem Strm.mono {S : Sto} {n m : Nat} {rest : Sto} (h : Strm S n rest) (hm : n ≤ m) : Strm S m rest := by
  obtain ⟨b, c, t, e, o⟩ := h
  exact ⟨b, c, t, e, o.bigs, o.cls, o.ne, o.few, o.t0, by have := o.tn; omega⟩
theorem getQ_lst0 (ds : List D) (S : Sto) : getQ (.lst ds :: S) 0 = some ds := rfl
theorem getQ_lst1 (o : Ob) (ds : List D) (S : Sto) : getQ (o :: .lst ds :: S) 1 = some ds := rfl
theorem getL_lst0 (ds : List D) (S : Sto) : getL (.lst ds :: S) 0 = some ds := rfl
theorem getL_lst1 (o : Ob) (ds : List D) (S : Sto) : getL (o :: .lst ds :: S) 1 = some ds := rfl
theorem dIx_loc {S : Sto} {n : Nat} {xs : List D} {i : Int} {d : D} (h : getQ S n = some xs) (e : atI xs i = some d) : dIx (.loc n) (.int i) S = .ok d S := by
  show (match seqOf S (.loc n) with
    | some xs => (match atI xs i with
      | some d => R.ok d S
      | none => .stuck)
    | none => .stuck) = _
  rw [show seqOf S (.loc n) = some xs from h]
  show (match atI xs i with
      | some d => R.ok d S
      | none => .stuck) = _
  rw [e]
theorem dIx_fl {S : Sto} {xs : List D} {i : Int} {d : D} (e : atI xs i = some d) : dIx (.fl xs) (.int i) S = .ok d S := by
  show (match atI xs i with
      | some d => R.ok d S
      | none => .stuck) = _
  rw [e]
theorem dIx_tup {S : Sto} {xs : List D} {i : Int} {d : D} (e : atI xs i = some d) : dIx (.tup xs) (.int i) S = .ok d S := by
  show (match atI xs i with
      | some d => R.ok d S
      | none => .stuck) = _
  rw [e]
theorem atI_nn {α : Type} {xs : List α} {i : Int} (h0 : 0 ≤ i) (h1 : i < xs.length) : atI xs i = xs[i.toNat]? := by
  unfold atI ixN
  rw [if_pos h0, if_pos h1]; rfl
theorem atI_map {xs : List Int} {i : Int} (h0 : 0 ≤ i) (h1 : i < xs.length) : ∃ z, z ∈ xs ∧ atI (xs.map D.int) i = some (.int z) := by
  have hi : i.toNat < xs.length := by omega
  refine ⟨xs[i.toNat], List.getElem_mem hi, ?_⟩
  rw [atI_nn h0 (by simpa using h1), List.getElem?_map, List.getElem?_eq_getElem hi]; rfl
theorem str_ix0 (big cells : List Int) (t : Int) (rest : Sto) : dIx (.loc 1) (.int 0) (strO big cells t rest) = .ok (.loc 0) (strO big cells t rest) := dIx_loc (getQ_lst1 _ _ _) rfl
theorem str_ix1 (big cells : List Int) (t : Int) (rest : Sto) : dIx (.loc 1) (.int 1) (strO big cells t rest) = .ok (.fl (cells.map .int)) (strO big cells t rest) := dIx_loc (getQ_lst1 _ _ _) rfl
theorem str_ix2 (big cells : List Int) (t : Int) (rest : Sto) : dIx (.loc 1) (.int 2) (strO big cells t rest) = .ok (.int t) (strO big cells t rest) := dIx_loc (getQ_lst1 _ _ _) rfl
theorem str_ne (big cells : List Int) (t : Int) (rest : Sto) : dEq true (.loc 0) (.fl []) (strO big cells t rest) = .ok (.bl (!big.isEmpty)) (strO big cells t rest) := dNe_loc_nil (getQ_lst0 _ _)
theorem str_get (b : Int) (big cells : List Int) (t : Int) (rest : Sto) : dIx (.loc 0) (.int 0) (strO (b :: big) cells t rest) = .ok (.int b) (strO (b :: big) cells t rest) := dIx_loc (getQ_lst0 _ _) (by simp [atI, ixN])
theorem str_set (b c : Int) (big cells : List Int) (t : Int) (rest : Sto) : dSet (.loc 0) (.int 0) (.int c) (strO (b :: big) cells t rest) = some (strO (c :: big) cells t rest) := by
  simp [dSet, strO, getL_lst0, ixN]
theorem str_pop (b : Int) (big cells : List Int) (t : Int) (rest : Sto) : mPopAt (.loc 0) [.int 0] (strO (b :: big) cells t rest) = .ok (.int b) (strO big cells t rest) := by
  have : seqIndex? 0 (big.length + 1) = some 0 := by simp [seqIndex?]
  have h2 : (-(2 ^ 63) : Int) ≤ 0 ∧ (0 : Int) < 2 ^ 63 := by decide
  simp [mPopAt, strO, getL_lst0, this, ifp_t]
theorem str_lst (big cells : List Int) (t : Int) (rest : Sto) : isLst (strO big cells t rest) (.loc 0) = true := rfl
theorem str_turn (big cells : List Int) (t u : Int) (rest : Sto) : dSet (.loc 1) (.int 2) (.int u) (strO big cells t rest) = some (strO big cells u rest) := by
  simp [dSet, strO, getL_lst1, ixN]
theorem close_same {S S' : Sto} {d : D} (h : S'.length = S.length) : close S d S' = .ok d S' := by
  unfold close; rw [if_pos h]
theorem draw_loop {m : Int} (hm : 0 < m) (hm2 : m.natAbs.log2 < 9000) (cells : List Int) (t : Int) (rest : Sto) (x3 x4 x5 : Option D) : ∀ (big : List Int) (k : Nat) (x2 : Option D), (∀ c ∈ big, 0 ≤ c) → big.length < k →
    (∃ r big', whileD C1__law_draw L1__law_draw k [some (.loc 1), some (.int m), x2, x3, x4, x5] (strO big cells t rest) = .rt (.int r) (strO big' cells t rest) ∧ 0 ≤ r ∧ r < m ∧ (∀ c ∈ big', 0 ≤ c) ∧ big'.length ≤ big.length) ∨
    (∃ x2', whileD C1__law_draw L1__law_draw k [some (.loc 1), some (.int m), x2, x3, x4, x5] (strO big cells t rest) = .nx [some (.loc 1), some (.int m), x2', x3, x4, x5] (strO [] cells t rest)) := by
  intro big
  induction big with
  | nil =>
    intro k x2 _ hk
    obtain ⟨k, rfl⟩ : ∃ j, k = j + 1 := ⟨k - 1, by omega⟩
    refine .inr ⟨x2, ?_⟩
    rw [whileD]
    simp only [eVar, eC, eOp, eT, eAnd, eOr, eNot, eIf, eAndV, eOrV, eNotV, eCall, aNil, aCons, aStar, sOf, eTup, eFl, eLoc, eSl, oNone, oSome, iOf, eNeg, eChain, eMt, bOf, List.lookup, R.bind_ok, R.bind_er, R.bind_stuck, R.toS_ok, R.toS_er, R.toS_stuck, SR.next_nx, SR.next_rt, SR.next_er, SR.next_bk, SR.next_ct, SR.next_stuck, sNil, sSeq, sBrk, sCnt, sExp, sRet, sRetN, sIf, sSet, sAsg, sAug, sPar2, sPar3, tN, DL.tTup, DL.tNil, DL.tCons, DL.tSub, iSeq, srcOf, iRange1, iRange2, sFor, startD, List.map_cons, List.map_nil, List.length_cons, List.length_nil, List.replicate, List.cons_append, List.nil_append, List.getElem?_cons_zero, List.getElem?_cons_succ, List.set_cons_zero, List.set_cons_succ, dSub_int, dFdiv_int, dMod_int, dLt_int, dLe_int, dGt_int, dGe_int, dAddI_int, dSubI_int, dIsN_non, isN, dAdd_int, ll0, ll1, ll2, ll3, ll4, ll5, ll6, ll7, ll8, ll9, ll10, ll11, ll12, ll13, ll14, ll15, ll16, ll17, ll18, ll19, ll20, ll21, ll22, ll23, ll24, ll25, ll26, ll27, ll28, ll29, ll30, ll31, ll32, ll33, ll34, ll35, ll36, ll37, ll38, ll39, ll40, Nat.reduceSub, Nat.reduceAdd, Nat.reduceEqDiff, if_true, if_false, ifp_t, ifp_f, reduceIte, Bool.true_eq_false, Bool.false_eq_true, Option.map_some, Option.map_none, Option.bind_some, Option.bind_none, C1__law_draw, L1__law_draw, str_ix0, str_ne, List.isEmpty_nil, Bool.not_true, Nat.zero_le]
  | cons b big ih =>
    intro k x2 hb hk
    obtain ⟨k, rfl⟩ : ∃ j, k = j + 1 := ⟨k - 1, by omega⟩
    have hb0 : 0 ≤ b := hb b List.mem_cons_self
    have hk' : big.length < k := by simp at hk; omega
    by_cases hpos : 0 < b
    · refine .inl ⟨b % m, (b / m) :: big, ?_, Int.emod_nonneg _ (by omega), Int.emod_lt_of_pos _ hm, fun c hc => ?_, by simp⟩
      · rw [whileD]
        simp only [eVar, eC, eOp, eT, eAnd, eOr, eNot, eIf, eAndV, eOrV, eNotV, eCall, aNil, aCons, aStar, sOf, eTup, eFl, eLoc, eSl, oNone, oSome, iOf, eNeg, eChain, eMt, bOf, List.lookup, R.bind_ok, R.bind_er, R.bind_stuck, R.toS_ok, R.toS_er, R.toS_stuck, SR.next_nx, SR.next_rt, SR.next_er, SR.next_bk, SR.next_ct, SR.next_stuck, sNil, sSeq, sBrk, sCnt, sExp, sRet, sRetN, sIf, sSet, sAsg, sAug, sPar2, sPar3, tN, DL.tTup, DL.tNil, DL.tCons, DL.tSub, iSeq, srcOf, iRange1, iRange2, sFor, startD, List.map_cons, List.map_nil, List.length_cons, List.length_nil, List.replicate, List.cons_append, List.nil_append, List.getElem?_cons_zero, List.getElem?_cons_succ, List.set_cons_zero, List.set_cons_succ, dSub_int, dFdiv_int, dMod_int, dLt_int, dLe_int, dGt_int, dGe_int, dAddI_int, dSubI_int, dIsN_non, isN, dAdd_int, ll0, ll1, ll2, ll3, ll4, ll5, ll6, ll7, ll8, ll9, ll10, ll11, ll12, ll13, ll14, ll15, ll16, ll17, ll18, ll19, ll20, ll21, ll22, ll23, ll24, ll25, ll26, ll27, ll28, ll29, ll30, ll31, ll32, ll33, ll34, ll35, ll36, ll37, ll38, ll39, ll40, Nat.reduceSub, Nat.reduceAdd, Nat.reduceEqDiff, if_true, if_false, ifp_t, ifp_f, reduceIte, Bool.true_eq_false, Bool.false_eq_true, Option.map_some, Option.map_none, Option.bind_some, Option.bind_none, C1__law_draw, L1__law_draw, str_ix0, str_ne, str_get, str_set, List.isEmpty_cons, Bool.not_false, hpos, decide_true, hm, hm2, and_self, Nat.zero_le]
      · rcases List.mem_cons.mp hc with rfl | hc
        · exact Int.ediv_nonneg hb0 (by omega)
        · exact hb c (List.mem_cons_of_mem _ hc)
    · have e : b = 0 := by omega
      subst e
      rw [whileD]
      simp only [eVar, eC, eOp, eT, eAnd, eOr, eNot, eIf, eAndV, eOrV, eNotV, eCall, aNil, aCons, aStar, sOf, eTup, eFl, eLoc, eSl, oNone, oSome, iOf, eNeg, eChain, eMt, bOf, List.lookup, R.bind_ok, R.bind_er, R.bind_stuck, R.toS_ok, R.toS_er, R.toS_stuck, SR.next_nx, SR.next_rt, SR.next_er, SR.next_bk, SR.next_ct, SR.next_stuck, sNil, sSeq, sBrk, sCnt, sExp, sRet, sRetN, sIf, sSet, sAsg, sAug, sPar2, sPar3, tN, DL.tTup, DL.tNil, DL.tCons, DL.tSub, iSeq, srcOf, iRange1, iRange2, sFor, startD, List.map_cons, List.map_nil, List.length_cons, List.length_nil, List.replicate, List.cons_append, List.nil_append, List.getElem?_cons_zero, List.getElem?_cons_succ, List.set_cons_zero, List.set_cons_succ, dSub_int, dFdiv_int, dMod_int, dLt_int, dLe_int, dGt_int, dGe_int, dAddI_int, dSubI_int, dIsN_non, isN, dAdd_int, ll0, ll1, ll2, ll3, ll4, ll5, ll6, ll7, ll8, ll9, ll10, ll11, ll12, ll13, ll14, ll15, ll16, ll17, ll18, ll19, ll20, ll21, ll22, ll23, ll24, ll25, ll26, ll27, ll28, ll29, ll30, ll31, ll32, ll33, ll34, ll35, ll36, ll37, ll38, ll39, ll40, Nat.reduceSub, Nat.reduceAdd, Nat.reduceEqDiff, if_true, if_false, ifp_t, ifp_f, reduceIte, Bool.true_eq_false, Bool.false_eq_true, Option.map_some, Option.map_none, Option.bind_some, Option.bind_none, C1__law_draw, L1__law_draw, str_ix0, str_ne, str_get, str_pop, str_lst, List.isEmpty_cons, Bool.not_false, Int.lt_irrefl, decide_false, Nat.zero_le]
      have := ih k (some (.int 0)) (fun c hc => hb c (List.mem_cons_of_mem _ hc)) hk'
      rcases this with ⟨r, big', h1, h2, h3, h4, h5⟩ | h
      · exact .inl ⟨r, big', h1, h2, h3, h4, Nat.le_succ_of_le h5⟩
      · exact .inr h
theorem mul_small {i j : Int} (h : -(2 ^ 64) < i ∧ i < 2 ^ 64) (S : Sto) : dMul (.int i) (.int j) S = .ok (.int (i * j)) S := by
  exact ifp_pos (.inl (.inl h))
theorem mul_smallR {i j : Int} (h : -(2 ^ 64) < j ∧ j < 2 ^ 64) (S : Sto) : dMul (.int i) (.int j) S = .ok (.int (i * j)) S := by
  exact ifp_pos (.inl (.inr h))
theorem log2_small {x : Nat} (b : Nat) (h : x < 2 ^ b) (h0 : 0 < b) (h9 : b ≤ 9000) : x.log2 < 9000 := Nat.lt_of_lt_of_le (PySem.Flt.log2_lt_of h0 h) h9
theorem bLen_fl (xs : List D) (S : Sto) : bLen [.fl xs] S = .ok (.int xs.length) S := rfl
theorem fnC_rt {n m : Nat} {B : Ev → Sto → SR} {ds : List D} {S S' : Sto} {d : D} (hm : ds.length = m) (h : B (startD n ds) S = .rt d S') (hc : S'.length = S.length) : fnC close n m B ds S = .ok d S' := by
  unfold fnC
  rw [if_pos hm, h]
  exact close_same hc
/-- a draw: some number below m, and the stream goes on -/
theorem draw_ok {S : Sto} {n : Nat} {rest : Sto} (h : Strm S n rest) {m : Int} (hm : 0 < m) (hm2 : m.natAbs.log2 < 9000) (hn : n < 2 ^ 60) :
    ∃ r S', F__law_draw [.loc 1, .int m] S = .ok (.int r) S' ∧ 0 ≤ r ∧ r < m ∧ Strm S' (n + 1) rest := by
  obtain ⟨big, cells, t, rfl, o⟩ := h
  have hst : startD 6 [D.loc 1, D.int m] = [some (.loc 1), some (.int m), none, none, none, none] := rfl
  rcases draw_loop hm hm2 cells t rest none none none big 4000 none o.bigs (by have := o.few; omega) with ⟨r, big', h1, h2, h3, h4, h5⟩ | ⟨x2, h1⟩
  · refine ⟨r, strO big' cells t rest, ?_, h2, h3, big', cells, t, rfl, h4, o.cls, o.ne, Nat.le_trans h5 o.few, o.t0, by have := o.tn; omega⟩
    refine fnC_rt rfl ?_ rfl
    rw [hst]
    unfold B__law_draw
    rw [sSeq, h1]; rfl
  · have t0 := o.t0
    have tn := o.tn
    have hcl : 0 < (cells.length : Int) := by
      have := List.length_pos_iff.mpr o.ne
      omega
    have hix0 : 0 ≤ (t + 1) % (cells.length : Int) := Int.emod_nonneg _ (by omega)
    have hix1 : (t + 1) % (cells.length : Int) < cells.length := Int.emod_lt_of_pos _ hcl
    obtain ⟨z, hz, hat⟩ := atI_map hix0 hix1
    have hz0 := o.cls z hz
    have c0 : 0 ≤ z % 2147483587 := Int.emod_nonneg _ (by decide)
    have c1 : z % 2147483587 < 2147483587 := Int.emod_lt_of_pos _ (by decide)
    have hx : ∀ S, dIx (.fl (cells.map D.int)) (.int ((t + 1) % (cells.length : Int))) S = .ok (.int z) S := fun S => dIx_fl hat
    have m1 : ∀ S, dMul (.int 48271) (.int (t + 1)) S = .ok (.int (48271 * (t + 1))) S := fun S => mul_small (by decide) S
    have m2 : ∀ S, dMul (.int (z % 2147483587)) (.int (16807 + 48271 * (t + 1))) S = .ok (.int (z % 2147483587 * (16807 + 48271 * (t + 1)))) S := fun S => mul_small (by omega) S
    have m3 : ∀ S, dMul (.int 69621) (.int (t + 1)) S = .ok (.int (69621 * (t + 1))) S := fun S => mul_small (by decide) S
    have m4 : ∀ S, dMul (.int (69621 * (t + 1))) (.int (t + 1)) S = .ok (.int (69621 * (t + 1) * (t + 1))) S := fun S => mul_smallR (by omega) S
    have l16 : (16 : Int).natAbs.log2 < 9000 := by decide
    have m5 : ∀ (x : Int) S, dMul (.int (x % 2147483647)) (.int (x % 2147483647)) S = .ok (.int (x % 2147483647 * (x % 2147483647))) S := fun x S => by
      have a0 : 0 ≤ x % 2147483647 := Int.emod_nonneg _ (by decide)
      have a1 : x % 2147483647 < 2147483647 := Int.emod_lt_of_pos _ (by decide)
      exact mul_small (by omega) S
    have key : ∃ y : Int, B__law_draw [some (.loc 1), some (.int m), none, none, none, none] (strO big cells t rest) = .rt (.int (y % m)) (strO [] cells (t + 1) rest) := by
      unfold B__law_draw
      rw [sSeq, h1]
      simp only [eVar, eC, eOp, eT, eAnd, eOr, eNot, eIf, eAndV, eOrV, eNotV, eCall, aNil, aCons, aStar, sOf, eTup, eFl, eLoc, eSl, oNone, oSome, iOf, eNeg, eChain, eMt, bOf, List.lookup, R.bind_ok, R.bind_er, R.bind_stuck, R.toS_ok, R.toS_er, R.toS_stuck, SR.next_nx, SR.next_rt, SR.next_er, SR.next_bk, SR.next_ct, SR.next_stuck, sNil, sSeq, sBrk, sCnt, sExp, sRet, sRetN, sIf, sSet, sAsg, sAug, sPar2, sPar3, tN, DL.tTup, DL.tNil, DL.tCons, DL.tSub, iSeq, srcOf, iRange1, iRange2, sFor, startD, List.map_cons, List.map_nil, List.length_cons, List.length_nil, List.replicate, List.cons_append, List.nil_append, List.getElem?_cons_zero, List.getElem?_cons_succ, List.set_cons_zero, List.set_cons_succ, dSub_int, dFdiv_int, dMod_int, dLt_int, dLe_int, dGt_int, dGe_int, dAddI_int, dSubI_int, dIsN_non, isN, dAdd_int, ll0, ll1, ll2, ll3, ll4, ll5, ll6, ll7, ll8, ll9, ll10, ll11, ll12, ll13, ll14, ll15, ll16, ll17, ll18, ll19, ll20, ll21, ll22, ll23, ll24, ll25, ll26, ll27, ll28, ll29, ll30, ll31, ll32, ll33, ll34, ll35, ll36, ll37, ll38, ll39, ll40, Nat.reduceSub, Nat.reduceAdd, Nat.reduceEqDiff, if_true, if_false, ifp_t, ifp_f, reduceIte, Bool.true_eq_false, Bool.false_eq_true, Option.map_some, Option.map_none, Option.bind_some, Option.bind_none, str_ix0, str_ix1, str_ix2, str_turn, dAdd_int, bLen_fl, List.length_map, hcl, hx, m1, m2, m3, m4, m5, l16, hm, Int.reduceLT, and_self]
      exact ⟨_, rfl⟩
    obtain ⟨y, hy⟩ := key
    exact ⟨y % m, _, fnC_rt rfl hy rfl, Int.emod_nonneg _ (by omega), Int.emod_lt_of_pos _ hm, [], cells, t + 1, rfl, by simp, o.cls, o.ne, by simp, by omega, by omega⟩
end DL
namespace DL
open PySem PySem.Spec L2
open PyProof.Rows hiding St
theorem Strm.len {S : Sto} {n : Nat} {rest : Sto} (h : Strm S n rest) : S.length = rest.length + 2 := by
  obtain ⟨b, c, t, rfl, o⟩ := h; rfl
theorem lowL_ints (n : Nat) (l : List Int) : lowL n (l.map D.int) = true := by
  induction l with
  | nil => rfl
  | cons i l ih => simp [lowL, low, ih]
theorem lowL_of {n : Nat} : ∀ {l : List D}, (∀ d ∈ l, low n d = true) → lowL n l = true
  | [], _ => rfl
  | d :: l, h => by
    rw [lowL, h d List.mem_cons_self, lowL_of fun x hx => h x (List.mem_cons_of_mem _ hx)]; rfl
theorem getL_end (S : Sto) (ds : List D) : getL (S ++ [.lst ds]) S.length = some ds := getL_of (by simp)
theorem getQ_end (S : Sto) (ds : List D) : getQ (S ++ [.lst ds]) S.length = some ds := getQ_of (by simp)
theorem set_end (S : Sto) (a b : Ob) : (S ++ [a]).set S.length b = S ++ [b] := by
  rw [List.set_append_right _ _ (Nat.le_refl _)]; simp
theorem finFl_eq {S S' : Sto} {l : List D} (h : getL S' S.length = some l) (hc : Trunc S S' ∧ S'.length = S.length + 1 ∧ lowL S.length l = true) : finFl S S' = .ok (.fl l) (S'.take S.length) := by
  unfold finFl
  simp only [h]
  rw [if_pos hc]
theorem finFl_end {S : Sto} {l : List D} (h : lowL S.length l = true) : finFl S (S ++ [.lst l]) = .ok (.fl l) S := by
  rw [finFl_eq (getL_end S l) ⟨Trunc.same _ _, by simp, h⟩]
  simp
/-- a comprehension whose parts change nothing -/
theorem compD_pure {T : Tg} {c : Ev → Sto → R Bool} {f : Ev → Sto → R D} {ρ : Ev} (ρd : D → Ev) (p : D → Bool) (e : D → D) (S : Sto) : ∀ (ds acc : List D),
    (∀ d ∈ ds, ∀ S', T d ρ S' = some (ρd d, S') ∧ c (ρd d) S' = .ok (p d) S' ∧ (p d = true → f (ρd d) S' = .ok (e d) S')) → acc.length + ds.length ≤ sizeLine →
    compD yes T c f S.length ρ ds (S ++ [.lst acc]) = some (S ++ [.lst (acc ++ (ds.filter p).map e)])
  | [], acc, _, _ => by rw [compD, if_pos (show yes _ from trivial)]; simp
  | d :: ds, acc, h, hl => by
    obtain ⟨h1, h2, h3⟩ := h d List.mem_cons_self (S ++ [.lst acc])
    have hl' : acc.length + (ds.length + 1) ≤ sizeLine := hl
    rw [compD, if_pos (show yes _ from trivial), h1]
    simp only [h2]
    cases hp : p d with
    | false =>
      rw [if_neg (by decide)]
      rw [compD_pure ρd p e S ds acc (fun x hx => h x (List.mem_cons_of_mem _ hx)) (by omega)]
      simp [List.filter, hp]
    | true =>
      rw [if_pos rfl]
      simp only [h3 hp, getL_end, set_end]
      rw [ifp_pos (by omega)]
      rw [compD_pure ρd p e S ds (acc ++ [e d]) (fun x hx => h x (List.mem_cons_of_mem _ hx)) (by simp; omega)]
      simp [List.filter, hp]
theorem eLc_pure {src : Ev → Sto → R Src} {T : Tg} {vs : List Nat} {c : Ev → Sto → R Bool} {f : Ev → Sto → R D} {ρ : Ev} {S : Sto} (ds : List D) (ρd : D → Ev) (p : D → Bool) (e : D → D) (hs : src ρ S = .ok (ds, yes) S)
    (h : ∀ d ∈ ds, ∀ S', T d (wipeD ρ vs) S' = some (ρd d, S') ∧ c (ρd d) S' = .ok (p d) S' ∧ (p d = true → f (ρd d) S' = .ok (e d) S')) (hl : ds.length ≤ sizeLine) (hlow : ∀ d ∈ ds, p d = true → low S.length (e d) = true) :
    eLc finFl src T vs c f ρ S = .ok (.fl ((ds.filter p).map e)) S := by
  unfold eLc
  rw [hs]
  show (match compD yes T c f S.length (wipeD ρ vs) ds (S ++ [Ob.lst []]) with
    | some S2 => finFl S S2
    | none => .stuck) = _
  rw [compD_pure ρd p e S ds [] h (by simpa using hl)]
  simp only [List.nil_append]
  refine finFl_end (lowL_of fun d hd => ?_)
  obtain ⟨x, hx, rfl⟩ := List.mem_map.mp hd
  obtain ⟨h1, h2⟩ := List.mem_filter.mp hx
  exact hlow x h1 h2
theorem eLc_pureLoc {src : Ev → Sto → R Src} {T : Tg} {vs : List Nat} {c : Ev → Sto → R Bool} {f : Ev → Sto → R D} {ρ : Ev} {S : Sto} (ds : List D) (ρd : D → Ev) (p : D → Bool) (e : D → D) (hs : src ρ S = .ok (ds, yes) S)
    (h : ∀ d ∈ ds, ∀ S', T d (wipeD ρ vs) S' = some (ρd d, S') ∧ c (ρd d) S' = .ok (p d) S' ∧ (p d = true → f (ρd d) S' = .ok (e d) S')) (hl : ds.length ≤ sizeLine) :
    eLc finLoc src T vs c f ρ S = .ok (.loc S.length) (S ++ [.lst ((ds.filter p).map e)]) := by
  unfold eLc
  rw [hs]
  show (match compD yes T c f S.length (wipeD ρ vs) ds (S ++ [Ob.lst []]) with
    | some S2 => finLoc S S2
    | none => .stuck) = _
  rw [compD_pure ρd p e S ds [] h (by simpa using hl)]
  simp only [List.nil_append]; rfl
theorem Strm.app {S : Sto} {n : Nat} {rest : Sto} (h : Strm S n rest) (l : Sto) : Strm (S ++ l) n (rest ++ l) := by
  obtain ⟨b, c, t, rfl, o⟩ := h
  exact ⟨b, c, t, rfl, o⟩
/-- young places go: the stream stays -/
theorem Strm.trunc {S S' : Sto} {n m : Nat} {rest l : Sto} (h : Strm S n rest) (h' : Strm S' m (rest ++ l)) : Trunc S S' ∧ Strm (S'.take S.length) m rest := by
  obtain ⟨b, c, t, rfl, o⟩ := h
  obtain ⟨b', c', t', rfl, o'⟩ := h'
  refine ⟨⟨by simp [strO], fun k ob hk e => ?_⟩, b', c', t', ?_, o'⟩
  · match k, hk, e with
    | 0, hk, e =>
      cases e
      exact .inr (by simp [lowO, lowL_ints])
    | 1, hk, e =>
      cases e
      refine .inr ?_
      simp [lowO, lowL, low, lowL_ints, strO]
    | k + 2, hk, e =>
      left
      have hk' : k < rest.length := by simp [strO] at hk; exact hk
      show rest[k]? = some ob
      have e : (rest ++ l)[k]? = some ob := e
      rw [List.getElem?_append_left hk'] at e; exact e
  · show (Ob.lst _ :: Ob.lst _ :: (rest ++ l)).take (rest.length + 2) = _
    simp [strO]
theorem stream_ok {ns : List Int} (h : ns.length ≤ 63) : ∃ S, F__law_stream [.kl (ns.map D.int)] [] = .ok (.loc 1) S ∧ Strm S 0 [] := by
  have e1 : ∀ S, eLc finFl (iSeq (eVar 0)) (tN 2) [2] cYes E1__law_stream [some (.kl (ns.map D.int)), none, none] S = .ok (.fl ((ns.map D.int).map fun d => match d with | .int i => .int (if i < 0 then -i else i) | d => d)) S := fun S => by
    have := eLc_pure (src := iSeq (eVar 0)) (T := tN 2) (vs := [2]) (c := cYes) (f := E1__law_stream) (ρ := [some (.kl (ns.map D.int)), none, none]) (S := S) (ns.map D.int) (fun d => [some (.kl (ns.map D.int)), none, some d]) (fun _ => true)
      (fun d => match d with | .int i => .int (if i < 0 then -i else i) | d => d) rfl (fun d hd S' => ?_) (by simp; exact Nat.le_trans h (by decide)) (fun d hd _ => ?_)
    · rw [this, List.filter_eq_self.mpr (by simp)]
    · obtain ⟨i, _, rfl⟩ := List.mem_map.mp hd
      exact ⟨rfl, rfl, fun _ => rfl⟩
    · obtain ⟨i, _, rfl⟩ := List.mem_map.mp hd
      rfl
  have e2 : ((ns.map D.int).map fun d => match d with | .int i => D.int (if i < 0 then -i else i) | d => d) = (ns.map fun i => if i < 0 then -i else i).map D.int := by simp
  generalize hcs : (ns.map fun i => if i < 0 then -i else i) = cs at e2
  have hc0 : ∀ c ∈ cs, 0 ≤ c := fun c hc => by
    rw [← hcs] at hc
    obtain ⟨i, _, rfl⟩ := List.mem_map.mp hc
    split <;> omega
  have hlen : cs.length ≤ 63 := by rw [← hcs]; simpa using h
  have hpow : ∀ S, dPow (.int 10) (.int 18) S = .ok (.int (10 ^ 18)) S := fun S => dPow_ok (by decide) S
  have e3 : ∀ S, eLc finLoc (iSeq (eVar 1)) (tN 2) [2] Q1__law_stream E2__law_stream [some (.kl (ns.map D.int)), some (.fl (cs.map D.int)), none] S = .ok (.loc S.length) (S ++ [.lst ((cs.filter fun i => decide ((10 : Int) ^ 18 ≤ i)).map D.int)]) := fun S => by
    have := eLc_pureLoc (src := iSeq (eVar 1)) (T := tN 2) (vs := [2]) (c := Q1__law_stream) (f := E2__law_stream) (ρ := [some (.kl (ns.map D.int)), some (.fl (cs.map D.int)), none]) (S := S) (cs.map D.int)
      (fun d => [some (.kl (ns.map D.int)), some (.fl (cs.map D.int)), some d]) (fun d => match d with | .int i => decide ((10 : Int) ^ 18 ≤ i) | _ => false) (fun d => d) rfl (fun d hd S' => ?_) (by simp; exact Nat.le_trans hlen (by decide))
    · rw [this, List.filter_map]
      simp [Function.comp_def]
    · obtain ⟨i, _, rfl⟩ := List.mem_map.mp hd
      refine ⟨rfl, ?_, fun _ => rfl⟩
      have hw : wipeD [some (D.kl (ns.map D.int)), some (D.fl (cs.map D.int)), none] [2] = [some (D.kl (ns.map D.int)), some (D.fl (cs.map D.int)), none] := rfl
      simp only [eVar, eC, eOp, eT, eAnd, eOr, eNot, eIf, eAndV, eOrV, eNotV, eCall, aNil, aCons, aStar, sOf, eTup, eFl, eLoc, eSl, oNone, oSome, iOf, eNeg, eChain, eMt, bOf, R.bind_ok, R.bind_er, R.bind_stuck, R.toS_ok, R.toS_er, R.toS_stuck, SR.next_nx, SR.next_rt, SR.next_er, SR.next_bk, SR.next_ct, SR.next_stuck, sNil, sSeq, sBrk, sCnt, sExp, sRet, sRetN, sIf, sSet, sAsg, sAug, sPar2, sPar3, tN, DL.tTup, DL.tNil, DL.tCons, DL.tSub, iSeq, srcOf, iRange1, iRange2, sFor, startD, List.map_cons, List.map_nil, List.length_cons, List.length_nil, List.replicate, List.cons_append, List.nil_append, List.getElem?_cons_zero, List.getElem?_cons_succ, List.set_cons_zero, List.set_cons_succ, dSub_int, dFdiv_int, dMod_int, dLt_int, dLe_int, dGt_int, dGe_int, dAddI_int, dSubI_int, dIsN_non, isN, dAdd_int, ll0, ll1, ll2, ll3, ll4, ll5, ll6, ll7, ll8, ll9, ll10, ll11, ll12, ll13, ll14, ll15, ll16, ll17, ll18, ll19, ll20, ll21, ll22, ll23, ll24, ll25, ll26, ll27, ll28, ll29, ll30, ll31, ll32, ll33, ll34, ll35, ll36, ll37, ll38, ll39, ll40, Nat.reduceSub, Nat.reduceAdd, Nat.reduceEqDiff, if_true, if_false, ifp_t, ifp_f, reduceIte, Bool.true_eq_false, Bool.false_eq_true, Option.map_some, Option.map_none, Option.bind_some, Option.bind_none, Q1__law_stream, hpow]
  refine ⟨strO (cs.filter fun i => decide ((10 : Int) ^ 18 ≤ i)) (cs ++ [(cs.length : Int) + 17]) 0 [], ?_, ⟨_, _, _, rfl, ?_, ?_, by simp, ?_, by omega, by omega⟩⟩
  · unfold F__law_stream fnC
    rw [if_pos (show [D.kl (ns.map D.int)].length = 1 from rfl)]
    have hst : startD 3 [D.kl (ns.map D.int)] = [some (.kl (ns.map D.int)), none, none] := rfl
    rw [hst]
    unfold B__law_stream
    have hadd : ∀ S, dAdd (.fl (cs.map D.int)) (.fl [.int ((cs.length : Int) + 17)]) S = .ok (.fl ((cs ++ [(cs.length : Int) + 17]).map D.int)) S := fun S => by
      show ifp ((cs.map D.int).length + 1 ≤ sizeLine) (R.ok (D.fl (cs.map D.int ++ [D.int ((cs.length : Int) + 17)])) S) .stuck = _
      rw [ifp_pos (by rw [List.length_map]; exact Nat.le_trans (Nat.succ_le_succ hlen) (by decide))]
      simp
    simp only [eVar, eC, eOp, eT, eAnd, eOr, eNot, eIf, eAndV, eOrV, eNotV, eCall, aNil, aCons, aStar, sOf, eTup, eFl, eLoc, eSl, oNone, oSome, iOf, eNeg, eChain, eMt, bOf, R.bind_ok, R.bind_er, R.bind_stuck, R.toS_ok, R.toS_er, R.toS_stuck, SR.next_nx, SR.next_rt, SR.next_er, SR.next_bk, SR.next_ct, SR.next_stuck, sNil, sSeq, sBrk, sCnt, sExp, sRet, sRetN, sIf, sSet, sAsg, sAug, sPar2, sPar3, tN, DL.tTup, DL.tNil, DL.tCons, DL.tSub, iSeq, srcOf, iRange1, iRange2, sFor, startD, List.map_cons, List.map_nil, List.length_cons, List.length_nil, List.replicate, List.cons_append, List.nil_append, List.getElem?_cons_zero, List.getElem?_cons_succ, List.set_cons_zero, List.set_cons_succ, dSub_int, dFdiv_int, dMod_int, dLt_int, dLe_int, dGt_int, dGe_int, dAddI_int, dSubI_int, dIsN_non, isN, dAdd_int, ll0, ll1, ll2, ll3, ll4, ll5, ll6, ll7, ll8, ll9, ll10, ll11, ll12, ll13, ll14, ll15, ll16, ll17, ll18, ll19, ll20, ll21, ll22, ll23, ll24, ll25, ll26, ll27, ll28, ll29, ll30, ll31, ll32, ll33, ll34, ll35, ll36, ll37, ll38, ll39, ll40, Nat.reduceSub, Nat.reduceAdd, Nat.reduceEqDiff, if_true, if_false, ifp_t, ifp_f, reduceIte, Bool.true_eq_false, Bool.false_eq_true, Option.map_some, Option.map_none, Option.bind_some, Option.bind_none, e1, e2, e3, dAdd_int, bLen_fl, List.length_map, hadd]
    rfl
  · intro c hc
    exact hc0 c (List.mem_filter.mp hc).1
  · intro c hc
    rcases List.mem_append.mp hc with hc | hc
    · exact hc0 c hc
    · simp at hc; omega
  · exact Nat.le_trans (List.length_filter_le _ _) hlen
theorem pick_fl {S : Sto} {n : Nat} {rest : Sto} (h : Strm S n rest) {xs : List D} (hx : xs ≠ []) (hs : xs.length < 2 ^ 60) (hn : n < 2 ^ 60) :
    ∃ d S', F__law_pick [.loc 1, .fl xs] S = .ok d S' ∧ d ∈ xs ∧ Strm S' (n + 1) rest := by
  have hl := List.length_pos_iff.mpr hx
  obtain ⟨r, S', h1, h2, h3, h4⟩ := draw_ok h (m := (xs.length : Int)) (by omega) (log2_small 60 (by omega) (by decide) (by decide)) hn
  have hr : r.toNat < xs.length := by omega
  refine ⟨xs[r.toNat], S', ?_, List.getElem_mem hr, h4⟩
  refine fnC_rt rfl ?_ (by rw [h.len, h4.len])
  unfold B__law_pick
  have hix : ∀ S, dIx (.fl xs) (.int r) S = .ok xs[r.toNat] S := fun S => dIx_fl (by rw [atI_nn h2 h3, List.getElem?_eq_getElem hr])
  simp only [eVar, eC, eOp, eT, eAnd, eOr, eNot, eIf, eAndV, eOrV, eNotV, eCall, aNil, aCons, aStar, sOf, eTup, eFl, eLoc, eSl, oNone, oSome, iOf, eNeg, eChain, eMt, bOf, R.bind_ok, R.bind_er, R.bind_stuck, R.toS_ok, R.toS_er, R.toS_stuck, SR.next_nx, SR.next_rt, SR.next_er, SR.next_bk, SR.next_ct, SR.next_stuck, sNil, sSeq, sBrk, sCnt, sExp, sRet, sRetN, sIf, sSet, sAsg, sAug, sPar2, sPar3, tN, DL.tTup, DL.tNil, DL.tCons, DL.tSub, iSeq, srcOf, iRange1, iRange2, sFor, startD, List.map_cons, List.map_nil, List.length_cons, List.length_nil, List.replicate, List.cons_append, List.nil_append, List.getElem?_cons_zero, List.getElem?_cons_succ, List.set_cons_zero, List.set_cons_succ, dSub_int, dFdiv_int, dMod_int, dLt_int, dLe_int, dGt_int, dGe_int, dAddI_int, dSubI_int, dIsN_non, isN, dAdd_int, ll0, ll1, ll2, ll3, ll4, ll5, ll6, ll7, ll8, ll9, ll10, ll11, ll12, ll13, ll14, ll15, ll16, ll17, ll18, ll19, ll20, ll21, ll22, ll23, ll24, ll25, ll26, ll27, ll28, ll29, ll30, ll31, ll32, ll33, ll34, ll35, ll36, ll37, ll38, ll39, ll40, Nat.reduceSub, Nat.reduceAdd, Nat.reduceEqDiff, if_true, if_false, ifp_t, ifp_f, reduceIte, Bool.true_eq_false, Bool.false_eq_true, Option.map_some, Option.map_none, Option.bind_some, Option.bind_none, bLen_fl, h1, hix]
theorem close_law {d : D} (h : low 0 d = true) (S' : Sto) : ∃ S'', close [] d S' = .ok d S'' := by
  unfold close
  split
  · exact ⟨_, rfl⟩
  · rw [if_pos ⟨⟨Nat.zero_le _, fun k o hk _ => absurd hk (Nat.not_lt_zero _)⟩, h⟩]
    exact ⟨_, rfl⟩
/-- a law's function by its body -/
theorem law_by {n : Nat} {B : Ev → Sto → SR} (h : ∀ ns : List Int, ns.length ≤ 63 → (∀ z ∈ ns, Builtin.Int.intBits z ≤ 1048576) → ∃ S', B (startD n [.kl (ns.map D.int)]) [] = .rt (.bl true) S') : LawOk (fnC close n 1 B) := by
  intro ns hl hb
  obtain ⟨S', e⟩ := h ns hl hb
  unfold fnC
  rw [if_pos (show [D.kl (ns.map D.int)].length = 1 from rfl), e]
  exact close_law rfl S'
end DL
namespace DL
open PySem PySem.Spec L2
open PyProof.Rows hiding St
def rSum2 (K : PySem.W.Frag) : List V → Hp → VK → Prop := fun vs H Q => ∃ (a : Addr) (ns : List Int), vs = [V.ref a] ∧ (SqL K H a (ns.map V.int) ∨ SqT K H a (ns.map V.int)) ∧ Q (.int ns.sum) H
theorem cr_sum2 {X : Cx} (hc : X.calm = true) : CallR X (.builtin "sum") (rSum2 X.K) := by
  intro pins s σ H vs us Q I r h
  obtain ⟨a, ns, rfl, hs | hs, q⟩ := h
  · exact cr_sum hc pins s σ H _ us Q I r ⟨a, ns, rfl, hs, q⟩
  · obtain ⟨its, rv, hl, _⟩ := I.tuple hs
    rw [Vals.ref1 r]
    obtain ⟨xs, e⟩ := rv.ints.allInts.items
    have hn : numsOf (intItems xs).toList = ns := by rw [← e]; exact rv.ints.numsOf
    rw [nums_intItems] at hn
    rw [e] at hl
    refine PySem.W.ktm_sumG (I.ok.hd hc) hl fun h' tk t' hk => ?_
    rw [preSum_eq, List.take_of_length_le (by simp), hn]
    exact ⟨.int _, H, I.kept hk, ⟨_, rfl⟩, q⟩
def bSum2 : Fn := fun ds S => match ds with
  | [d] => (match (seqOf S d).bind intsOf with
    | some is => .ok (.int is.sum) S
    | none => .stuck)
  | _ => .stuck
theorem seq_ints {K : PySem.W.Frag} {ι : List Addr} {H : Hp} {S : Sto} {d : D} {v : V} {is : List Int} (s : Sim K ι H S) (r : RepV K ι H d v) (e : (seqOf S d).bind intsOf = some is) : ∃ p, v = .ref p ∧ (SqL K H p (is.map V.int) ∨ SqT K H p (is.map V.int)) := by
  cases h : seqOf S d with
  | none => rw [h] at e; cases e
  | some ds =>
    rw [h] at e
    obtain ⟨p, vs, rfl, q, rl⟩ := seq_at s r h
    rw [intsOf_rep _ _ _ rl e] at q
    exact ⟨p, rfl, q⟩
theorem k_sum2 {K : PySem.W.Frag} : CallK K (rSum2 K) bSum2 := by
  intro W σ ι H S vs ds Q s rl h
  unfold bSum2 at h
  (try unfold ifp at h); split at h
  · obtain ⟨v, rfl, rv⟩ := RepL.one_inv rl
    (try unfold ifp at h); split at h
    · rename_i is hi
      obtain ⟨p, rfl, q⟩ := seq_ints s rv hi
      exact ⟨p, is, rfl, q, h.here s _ int_rep⟩
    · exact h.elim
  · exact h.elim
end DL
namespace DL
open PySem PySem.Spec L2
open PyProof.Rows hiding St
theorem bTuple_fl (l : List D) (S : Sto) : bTuple [.fl l] S = .ok (.tup l) S := rfl
end DL
namespace DL
/-- one token read: the height, and what was missing so far -/
def stp (s : Int × Int) (t : Int) : Int × Int := (s.1 + (1 - t), max s.2 (1 - (s.1 + (1 - t))))
/-- the need of a row -/
def ne (l : List Int) : Int := (l.foldl stp (0, 0)).2
/-- the height behind a row -/
def ht (l : List Int) : Int := (l.foldl stp (0, 0)).1
/-- the tokens round and round -/
def tk (l : List Int) (j : Nat) : Int := (l[j % l.length]?).getD 0
/-- the height behind i tokens, round and round -/
def hh (l : List Int) : Nat → Int
  | 0 => 0
  | i + 1 => hh l i + (1 - tk l i)
/-- the least of f p .. f (p + k) -/
def mn (f : Nat → Int) : Nat → Nat → Int
  | p, 0 => f p
  | p, k + 1 => min (f p) (mn f (p + 1) k)
end DL
namespace DL
open PySem PySem.Spec L2
open PyProof.Rows hiding St
def ti (l : List Int) : D := .tup (l.map D.int)
theorem cut_from {α : Type} (xs : List α) (p : Nat) : cut xs (some (p : Int)) none = xs.drop p := by
  unfold cut
  rw [HT.sIx_nat, HT.sIx_none]
  by_cases h : p ≤ xs.length
  · rw [Nat.min_eq_left h, List.take_of_length_le (by simp)]
  · rw [Nat.min_eq_right (by omega), List.drop_of_length_le (Nat.le_refl _), List.drop_of_length_le (by omega)]; simp
theorem cut_to {α : Type} (xs : List α) (p : Nat) : cut xs none (some (p : Int)) = xs.take p := by
  unfold cut
  rw [HT.sIx_nat, HT.sIx_none]
  simp only [List.drop_zero, Nat.sub_zero]
  by_cases h : p ≤ xs.length
  · rw [Nat.min_eq_left h]
  · rw [Nat.min_eq_right (by omega), List.take_of_length_le (Nat.le_refl _), List.take_of_length_le (by omega)]
def ni (l : List Nat) : List D := l.map fun k : Nat => D.int (k : Int)
end DL
namespace DL
open PySem PySem.Spec L2
open PyProof.Rows hiding St
section
variable {prog : Program} {w : World} {A : Around} {E : Value → Shared → Prop} {s : Shared}
theorem min_tup {t : Addr} {its : List Value} {ns : List Int} {Q : Value → Shared → Prop} (hh : A.handled = none) (ht : s.heap.IsTuple t its.toArray) (hi : IntsAre its ns) (hne : 0 < ns.length)
    (h : ∀ h' tk M t', (∀ b o, s.heap.get? b = some o → h'.get? b = some o) → M ∈ ns → (∀ a, a ∈ ns → M ≤ a) → Q (.int M t') { s with heap := h', toks := tk }) : wpAny (model prog w) A (call (.builtin "min") [.ref t]) Q E s := by
  obtain ⟨xs, e⟩ := hi.allInts.items
  have hn : numsOf (intItems xs).toList = ns := by rw [← e]; exact hi.numsOf
  rw [nums_intItems] at hn
  subst hn
  rw [e] at ht
  have hsz : 0 < xs.size := by simpa using hne
  obtain ⟨o, ho, hc, n, hd⟩ := id ht
  have hne : t ≠ s.heap.objs.size := Nat.ne_of_lt (Heap.lt_size ho)
  refine call_min_walk (wpAny_pyIter_tuple ht ?_)
  refine ⟨_, _, _, _, _, _, _, rfl, Walks.tuple (A := A.in1) hh _ t hne (intItems xs), ⟨⟨_, Heap.get?_push_size _ rfl, rfl, rfl⟩, ht.at fun o e => Heap.get?_push_of_some _ e⟩, fun b hb => ?_, by simpa [intItems] using hsz, CmpOf.ints_lt (numAt xs) (fun _ _ => intItems_at), fun v h' tk hP hk => ?_⟩
  · rcases List.mem_cons.mp hb with rfl | hb
    · exact Heap.lt_size (Heap.get?_push_size _ rfl)
    · obtain rfl := List.mem_singleton.mp hb
      exact Heap.lt_size (Heap.get?_push_of_some _ ho)
  · have hsz2 : (intItems xs).size = xs.size := by simp [intItems]
    rw [hsz2] at hP
    obtain ⟨t', rfl⟩ := intItems_at hP
    obtain ⟨h1, h2⟩ := argBest_lt (numAt xs) (xs.size - 1)
    refine h h' tk _ t' (fun b o e => hk b o (fun hb => absurd (Heap.lt_size e) ((List.mem_singleton.mp hb) ▸ Nat.lt_irrefl _)) (Heap.get?_push_of_some _ e)) ?_ fun a ha => ?_
    · rw [numAt_eq]; exact PySem.getD_mem (by rw [List.length_map, Array.length_toList]; omega)
    · obtain ⟨j, hj, rfl⟩ := mem_getD ha
      rw [List.length_map, Array.length_toList] at hj
      rw [← numAt_eq]; exact h2 j (by omega)
end
def rMinT (K : PySem.W.Frag) : List V → Hp → VK → Prop := fun vs H Q => ∃ (a : Addr) (ns : List Int), vs = [V.ref a] ∧ SqT K H a (ns.map V.int) ∧ 0 < ns.length ∧ ∀ m, m ∈ ns → (∀ y, y ∈ ns → m ≤ y) → Q (.int m) H
theorem cr_minT {X : Cx} (hc : X.calm = true) : CallR X (.builtin "min") (rMinT X.K) := by
  intro pins s σ H vs us Q I r h
  obtain ⟨a, ns, rfl, hs, hne, q⟩ := h
  obtain ⟨its, rv, hl, _⟩ := I.tuple hs
  rw [Vals.ref1 r]
  exact min_tup (I.ok.hd hc) hl rv.ints hne fun h' tk m t' hk h1 h2 => ⟨.int _, H, I.kept hk, ⟨_, rfl⟩, q m h1 h2⟩
/-- min of two numbers, of a list or of a tuple -/
def bMinT : Fn := fun ds S => match ds with
  | [.tup xs] => (match intsOf xs with
    | some is => if is = [] then .stuck else .ok (.int (minL is)) S
    | none => .stuck)
  | ds => bMin ds S
theorem c_minT {X : Cx} (hc : X.calm = true) : CallR X (.builtin "min") (fun xs H Q => rMinT X.K xs H Q ∨ ((∃ i j, xs = [.int i, .int j] ∧ Q (.int (if j < i then j else i)) H) ∨ rMin X.K xs H Q)) := CallR.or (cr_minT hc) (c_min hc)
theorem k_minT {K : PySem.W.Frag} : CallK K (fun xs H Q => rMinT K xs H Q ∨ ((∃ i j, xs = [.int i, .int j] ∧ Q (.int (if j < i then j else i)) H) ∨ rMin K xs H Q)) bMinT := by
  intro W σ ι H S vs ds Q s rl h
  unfold bMinT at h
  split at h
  · rename_i xs
    obtain ⟨v, rfl, rv⟩ := RepL.one_inv rl
    split at h
    · rename_i is hi
      split at h
      · exact h.elim
      · rename_i hne
        rw [RepV] at rv
        obtain ⟨p, us, rfl, q, ru⟩ := rv
        rw [intsOf_rep _ _ _ ru hi] at q
        obtain ⟨m1, m2⟩ := minL_spec hne
        refine .inl ⟨p, is, rfl, q.sq, List.length_pos_iff.mpr hne, fun m hm hle => ?_⟩
        have : m = minL is := by have := hle _ m1; have := m2 _ hm; omega
        rw [this]
        exact h.here s _ int_rep
    · exact h.elim
  · exact .inr (k_min W σ ι H S vs _ Q s rl h)
end DL
namespace DL
end DL
namespace DL
end DL
namespace DL
open PySem PySem.Spec L2
open PyProof.Rows hiding St
section
variable {prog : Program} {w : World} {A : Around} {E : Value → Shared → Prop} {s : Shared}
theorem sliceApplied_rev {sl : Addr} {n : Nat} {t : Tok} {Q : Int × Int × Nat → Shared → Prop} (hs : s.heap.IsSliceOf sl .none .none (.int (-1) t))
    (h : Q ((n : Int) - 1, -1, n) s) : wpAny (model prog w) A (Builtin.Slice.sliceApplied (.ref sl) (pure (n : Int))) Q E s := by
  obtain ⟨os, hos, hcs, hds⟩ := id hs
  unfold Builtin.Slice.sliceApplied Builtin.Slice.sliceFields
  refine wpAny_bind (wpAny_bind (wpAny_field hos hds (x := .none) rfl (wpAny_bind (wpAny_field hos hds (x := .none) rfl (wpAny_bind (wpAny_field hos hds (x := .int (-1) t) rfl (wpAny_pure ?_)))))))
  refine wpAny_bind (PyProof.Rows.slicePart_int ?_)
  show wpAny _ _ (if ((-1 : Int) == 0) = true then _ else _) _ _ s
  rw [if_neg (by decide)]
  refine wpAny_bind (PyProof.Rows.slicePart_none (wpAny_bind (PyProof.Rows.slicePart_none (wpAny_bind (wpAny_pure ?_)))))
  show wpAny _ _ (match Builtin.Slice.sliceAdjust none none (-1) (n : Int) with | (lo, hi) => pure (lo, (-1 : Int), Builtin.Slice.slicePlaces lo hi (-1))) _ _ s
  have e1 : Builtin.Slice.sliceAdjust none none (-1) (n : Int) = ((n : Int) - 1, -1) := by
    simp [Builtin.Slice.sliceAdjust]
  rw [e1]
  have e2 : Builtin.Slice.slicePlaces ((n : Int) - 1) (-1) (-1) = n := by
    unfold Builtin.Slice.slicePlaces
    by_cases hn : n = 0
    · subst hn; simp
    · simp
      omega
  show wpAny _ _ (pure ((n : Int) - 1, (-1 : Int), Builtin.Slice.slicePlaces ((n : Int) - 1) (-1) (-1))) _ _ s
  rw [e2]
  exact wpAny_pure h
theorem pick_rev (xs : Array Value) : ((List.range xs.size).filterMap fun (k : Nat) => xs[(((xs.size : Int) - 1) + (k : Int) * (-1)).toNat]?).toArray = xs.toList.reverse.toArray := by
  congr 1
  apply List.ext_getElem?
  intro i
  have e : (List.range xs.size).filterMap (fun (k : Nat) => xs[(((xs.size : Int) - 1) + (k : Int) * (-1)).toNat]?) = (List.range xs.size).map fun k => xs.toList.reverse.getD k .none := by
    have key : ∀ l : List Nat, (∀ k ∈ l, k < xs.size) → l.filterMap (fun (k : Nat) => xs[(((xs.size : Int) - 1) + (k : Int) * (-1)).toNat]?) = l.map fun k => xs.toList.reverse.getD k .none := by
      intro l hl
      induction l with
      | nil => rfl
      | cons k l ih =>
        have hk := hl k List.mem_cons_self
        have e1 : (((xs.size : Int) - 1) + (k : Int) * (-1)).toNat = xs.size - 1 - k := by omega
        have e2 : xs[(((xs.size : Int) - 1) + (k : Int) * (-1)).toNat]? = some (xs.toList.reverse.getD k .none) := by
          rw [e1, Array.getElem?_eq_getElem (by omega)]
          simp only [List.getD]
          rw [List.getElem?_eq_getElem (by simp; omega)]
          simp
        rw [List.filterMap_cons_some (b := xs.toList.reverse.getD k .none) (by exact e2), List.map_cons, ih fun q hq => hl q (List.mem_cons_of_mem _ hq)]
    exact key _ fun k hk => List.mem_range.mp hk
  rw [e, List.getElem?_map]
  by_cases hi : i < xs.size
  · rw [List.getElem?_eq_getElem (by simpa using hi), List.getElem_range, Option.map_some, List.getElem?_eq_getElem (by simpa using hi)]
    simp only [List.getD]
    rw [List.getElem?_eq_getElem (by simpa using hi)]; rfl
  · rw [List.getElem?_eq_none (by simpa using hi), List.getElem?_eq_none (by simpa using hi)]; rfl
theorem getItem_tuple_rev {t sl : Addr} {items : Array Value} {tk : Tok} {Q : Value → Shared → Prop} (ht : IsTup s.heap t items) (hs : s.heap.IsSliceOf sl .none .none (.int (-1) tk))
    (h : Q (.ref s.heap.objs.size) { s with heap := s.heap.push { cls := .type "tuple", data := .seq items.toList.reverse.toArray } })
    (hsz : items.size ≤ sizeLine) : wpAny (model prog w) A (getItem (.ref t) (.ref sl)) Q E s := by
  have htake : sizeOk (.seq items.toList.reverse.toArray) := by
    show items.toList.reverse.toArray.size ≤ sizeLine
    rw [List.size_toArray, List.length_reverse, Array.length_toList]; exact hsz
  obtain ⟨os, hos, hcs, hds⟩ := id hs
  have hTs : s.TypeIs (.ref sl) "slice" := ⟨os, hos, hcs⟩
  unfold getItem
  try with_reducible refine wpAny_holding ?_
  first | refine wpAny_bind (wpAny_pure ?_) | skip
  refine wpAny_bind (wpAny_sequenceKey ht.typeIs (by decide) ?_)
  refine wpAny_bind (wpAny_callSpecial?_slot (name := Str.ofString "__getitem__") ht.typeIs PyProof.Rows.slot_tuple_getitem
    (wpAny_call_entry PyProof.Rows.slot_tuple_getitem ht.typeIs entry_tuple_getitem ?_ (args_tuple_getitem _ _)))
  show wpAny _ _ (Builtin.Tuple.tupleItemsOf (.ref t) >>= _) _ _ s
  refine wpAny_bind (tupleItemsOf_ ht ?_)
  refine wpAny_bind (wpAny_typeOf hTs ?_)
  rw [if_pos (by decide)]
  refine wpAny_bind (sliceApplied_rev hs ?_)
  show wpAny _ _ (if (((items.size : Int) - 1) == 0 && (-1 : Int) == 1 && items.size == items.size) = true then _ else _) _ _ s
  rw [if_neg (by intro q; rw [Bool.and_eq_true, Bool.and_eq_true] at q; exact absurd q.1.2 (by decide)), pick_rev]
  first
    | exact wpAny_bind (m := Builtin.Tuple.tupleExact _) (wpAny_newObj_type (wpAny_pure ⟨_, rfl, wpAny_pure h⟩) htake)
    | exact wpAny_bind (m := Builtin.Tuple.tupleExact _) (wpAny_newObj_type (wpAny_bind (wpAny_pure (wpAny_pure ⟨_, rfl, wpAny_pure h⟩))) htake)
    | exact wpAny_bind (wpAny_bind (m := Builtin.Tuple.tupleExact _) (wpAny_newObj_type (wpAny_pure (wpAny_pure ⟨_, rfl, wpAny_pure h⟩)) htake))
    | exact wpAny_bind (wpAny_bind (m := Builtin.Tuple.tupleExact _) (wpAny_newObj_type (wpAny_pure ⟨_, rfl, wpAny_pure h⟩) htake))
end
def tRevT (K : PySem.W.Frag) (te : TE) : TE := fun σ H Q => te σ H fun x H1 => ∃ a xs, x = .ref a ∧ SqT K H1 a xs ∧ ∀ p, H1 p = none → Q (.ref p) (upd H1 p (.tup xs.reverse))
theorem PE.or {X : Cx} {e : Expr} {t u : TE} (h : PE X e t) (h' : PE X e u) : PE X e (fun σ H Q => t σ H Q ∨ u σ H Q) := ⟨fun pins s σ H Q I q => by
  rcases q with q | q
  · exact h.run pins s σ H Q I q
  · exact h'.run pins s σ H Q I q⟩
theorem pe_revT {X : Cx} {e : Expr} {te : TE} {k : Nat} {p1 p2 p3 pos : Pos} (he : PE X e te) : PE X (.Subscript e (.Slice none none (some (.UnaryOp .USub (.Constant (.int 1) k p1) p2)) p3) pos) (tRevT X.K te) := by
  refine ⟨fun pins s σ H Q I h => ?_⟩
  refine Subscript_ (thn (he.run pins s σ H _ I h) fun v s1 ⟨x, H1, I1, r1, q1⟩ => ?_)
  obtain ⟨a, xs, ex, hx, q⟩ := q1
  subst ex
  cases r1
  have hst : PO X (some (.UnaryOp .USub (.Constant (.int 1) k p1) p2)) (tPart (tUn (rU fun i => .int (-i)) (tC (.int 1)))) := po_some (pe_un un_neg pe_int)
  refine wpAny_Slice (thn (po_none.run pins s1 σ H1 (fun o H2 => o = none ∧ H2 = H1) I1 ⟨rfl, rfl⟩) fun vl s2 ⟨l, H2, I2, pl, el, e2⟩ => ?_)
  subst el e2
  refine thn (po_none.run pins s2 σ H2 (fun o H3 => o = none ∧ H3 = H2) I2 ⟨rfl, rfl⟩) fun vu s3 ⟨u, H3, I3, pu, eu, e3⟩ => ?_
  subst eu e3
  refine thn (hst.run pins s3 σ H3 (fun o H4 => o = some (-1) ∧ H4 = H3) I3 ⟨1, rfl, -1, rfl, rfl, rfl⟩) fun vs s4 ⟨o, H4, I4, ps, eo, e4⟩ => ?_
  subst eo e4
  have I5 : Inv X pins σ H4 { s4 with heap := s4.heap.push { cls := .type "slice", data := .fields #[vl, vu, vs] } } := I4.kept (t' := s4.toks) fun b ob q => Heap.get?_push_of_some _ q
  obtain ⟨its, r, ht, hz⟩ := I5.tuple hx
  have hlen := r.length
  cases pl
  cases pu
  cases ps
  rename_i tk _
  show wpAny (model X.prog X.w) X.A (subscriptTail e (.Slice none none (some (.UnaryOp .USub (.Constant (.int 1) k p1) p2)) p3) (.ref a) (.ref s4.heap.objs.size)) (EP X pins σ Q) X.xe { s4 with heap := s4.heap.push { cls := .type "slice", data := .fields #[.none, .none, .int (-1) tk] } }
  refine tail_any (ops := [.ref a, .ref s4.heap.objs.size]) ht.typeIs (PyProof.Rows.slot_tuple_getitem.lookup) ?_ (by with_unfolding_all rfl)
  refine getItem_tuple_rev ht (Heap.IsSliceOf.new _ .none .none (.int (-1) tk)) ?_ (by rw [List.size_toArray]; omega)
  refine ⟨.ref _, _, I5.laid (t' := s4.toks) (o := .tup xs.reverse) (fun b ob q => Heap.get?_push_of_some _ q) (Nat.le_refl _) ?_, rfl, q _ (I5.hok.fresh (Nat.le_refl _))⟩
  exact ⟨by rw [List.length_reverse]; exact hz, _, r.reverse, IsTup.new _ _⟩
def dRev (mk : List D → Sto → R D) (a : D) (S : Sto) : R D := match a with
  | .tup xs => .ok (.tup xs.reverse) S
  | a => match lstOf S a with
    | some xs => mk xs.reverse S
    | none => .stuck
def eRev (mk : List D → Sto → R D) (f : Ev → Sto → R D) : Ev → Sto → R D := fun ρ S => (f ρ S).bind fun d S1 => dRev mk d S1
theorem RepL.reverse {K : PySem.W.Frag} {ι : List Addr} {H : Hp} : ∀ (ds : List D) (vs : List V), RepL K ι H ds vs → RepL K ι H ds.reverse vs.reverse
  | [], _, h => by rw [RepL] at h; subst h; exact RepL.nil
  | d :: ds, _, h => by
    rw [RepL] at h
    obtain ⟨v, r, rfl, a, b⟩ := h
    rw [List.reverse_cons, List.reverse_cons]
    exact RepL.app _ _ (RepL.reverse ds r b) _ _ (RepL.one a)
theorem de_rev {X : Cx} {W : WX} {e : Expr} {mk : List D → Sto → R D} {k : Nat} {p1 p2 p3 pos : Pos} {f : Ev → Sto → R D} (m : MkOk mk) (he : DE X W e f) : DE X W (.Subscript e (.Slice none none (some (.UnaryOp .USub (.Constant (.int 1) k p1) p2)) p3) pos) (eRev mk f) := by
  refine PE.imp (PE.or (pe_revT he) (pe_revL he)) fun σ H Q ⟨ι, ρ, S, hE, hS, h⟩ => ?_
  unfold eRev at h
  cases hf : f ρ S with
  | stuck => rw [hf] at h; exact h.elim
  | er x S1 => rw [hf] at h; exact .inl ⟨ι, ρ, S, hE, hS, by rw [hf]; exact h⟩
  | ok d S1 =>
    rw [hf] at h
    replace h : Post X.K W σ ι H (dRev mk d S1) fun d _ ι' H' => ∀ v, RepV X.K ι' H' d v → Q v H' := h
    by_cases ht : ∃ xs, d = .tup xs
    · obtain ⟨xs, rfl⟩ := ht
      refine .inl ⟨ι, ρ, S, hE, hS, ?_⟩
      rw [hf]
      intro ι1 H1 G1 s1 v rv
      obtain ⟨p, vs, rfl, q, rl⟩ := tup_at rv
      refine ⟨p, vs, rfl, q, fun p hp => ?_⟩
      exact h ι1 _ (G1.trans (Grow.upd hp)) (s1.upd hp) _ (rep_tup s1 hp (RepL.reverse _ _ rl))
    · refine .inr ⟨ι, ρ, S, hE, hS, ?_⟩
      rw [hf]
      intro ι1 H1 G1 s1 v rv
      have e : dRev mk d S1 = match lstOf S1 d with
        | some xs => mk xs.reverse S1
        | none => .stuck := by
        cases d <;> first | rfl | exact absurd ⟨_, rfl⟩ ht
      rw [e] at h
      cases hl : lstOf S1 d with
      | none => rw [hl] at h; exact h.elim
      | some xs =>
        rw [hl] at h
        replace h : Post X.K W σ ι H (mk xs.reverse S1) fun d _ ι' H' => ∀ v, RepV X.K ι' H' d v → Q v H' := h
        obtain ⟨p, vs, rfl, q, rl⟩ := lst_at s1 rv hl
        refine ⟨p, vs, rfl, SqL.of q, ?_⟩
        have h' : Post X.K W σ ι1 H1 (mk xs.reverse S1) fun d _ ι' H' => ∀ v, RepV X.K ι' H' d v → Q v H' := by
          revert h
          cases mk xs.reverse S1 with
          | ok d S2 => exact fun h ι2 H2 G2 s2 => h ι2 H2 (G1.trans G2) s2
          | er d S2 => exact fun h ι2 H2 cls dd G2 s2 => h ι2 H2 cls dd (G1.trans G2) s2
          | stuck => exact fun h => h
        exact m _ _ _ _ _ _ _ _ _ h' s1 (RepL.reverse _ _ rl)
def zipD (xs ys : List D) : List D := (xs.zip ys).map fun q => .tup [q.1, q.2]
def srcZip (a b : D) (S : Sto) : R Src := match a, b with
  | .tup xs, .tup ys => .ok (zipD xs ys, yes) S
  | .fl xs, .fl ys => .ok (zipD xs ys, yes) S
  | _, _ => .stuck
def iZipD (g : Ev → Sto → R (List D)) : Ev → Sto → R Src := fun ρ S => (g ρ S).bind fun ds S1 => match ds with
  | [a, b] => srcZip a b S1
  | _ => .stuck
end DL
namespace DL
open PySem PySem.Spec L2
open PyProof.Rows hiding St
open PySem.AutoSeq1 (wpAny_loadPart')
theorem tuple_mulSame (l : Addr) (items : Array Value) (n : Nat) (dd : Option Addr) (sl : Array (Option Value)) (x : Int) (u : Tok) (c0 : (decide (x < -(2 ^ 63)) || decide (x ≥ 2 ^ 63)) = false) (c1 : (items.isEmpty || x == 1) = true) :
    Meets (Builtin.«tuple.__mul__» ⟨[.ref l, .int x u], []⟩) (fun _ R s => s.heap.get? l = some { cls := .type "tuple", dict := dd, data := .seq items n, slots := sl } ∧ R (.ok (.ret (Value.ref l))) s) :=
  .of_wp fun prog w A R s h => by
    obtain ⟨hp, g, d, tk, os⟩ := s
    obtain ⟨hl, h⟩ := h
    have f1 := AutoSeq1.idx_int
    wp_walk using wpAny_loadPart' hl
    repeat (first
      | (refine wpAny_ite_false (decide_eq_false (by rw [c0]; exact Bool.false_ne_true)) ?_; wp_walk using wpAny_loadPart' hl)
      | (refine wpAny_ite_true (decide_eq_true (by rw [c1])) ?_; wp_walk using wpAny_loadPart' hl)
      | (with_reducible rw [if_pos (show (items.isEmpty || x == 1) = true from c1)]; wp_walk using wpAny_loadPart' hl))
    exact ⟨_, rfl, h⟩
theorem tuple_mulNil (l : Addr) (items : Array Value) (n : Nat) (dd : Option Addr) (sl : Array (Option Value)) (x : Int) (u : Tok) (c0 : (decide (x < -(2 ^ 63)) || decide (x ≥ 2 ^ 63)) = false) (c1 : (items.isEmpty || x == 1) = false) (c2 : (decide (x ≤ 0) || items.isEmpty) = true) :
    Meets (Builtin.«tuple.__mul__» ⟨[.ref l, .int x u], []⟩) (fun _ R s => s.heap.get? l = some { cls := .type "tuple", dict := dd, data := .seq items n, slots := sl } ∧
      R (.ok (.ret (Value.ref s.heap.objs.size))) { s with heap := s.heap.push { cls := Value.type "tuple", data := Data.seq #[] }, toks := s.toks }) :=
  .of_wp fun prog w A R s h => by
    obtain ⟨hp, g, d, tk, os⟩ := s
    obtain ⟨hl, h⟩ := h
    have f1 := AutoSeq1.idx_int
    wp_walk using wpAny_loadPart' hl
    repeat (first
      | (refine wpAny_ite_false (decide_eq_false (by rw [c0]; exact Bool.false_ne_true)) ?_; wp_walk using wpAny_loadPart' hl)
      | (refine wpAny_ite_false (decide_eq_false (by rw [c1]; exact Bool.false_ne_true)) ?_; wp_walk using wpAny_loadPart' hl)
      | (refine wpAny_ite_true (decide_eq_true (by rw [c2])) ?_; wp_walk using wpAny_loadPart' hl))
    exact ⟨_, rfl, h⟩
def rRepTS (K : PySem.W.Frag) : R2 := fun x y H Q => ∃ l k xs, x = .ref l ∧ y = .int k ∧ SqT K H l xs ∧ -(2 ^ 63) ≤ k ∧ k < 2 ^ 63 ∧ (xs = [] ∨ k = 1) ∧ Q (.ref l) H
def rRepTN (K : PySem.W.Frag) : R2 := fun x y H Q => ∃ l k xs, x = .ref l ∧ y = .int k ∧ SqT K H l xs ∧ xs ≠ [] ∧ -(2 ^ 63) ≤ k ∧ k ≤ 0 ∧ ∀ p, H p = none → Q (.ref p) (upd H p (.tup []))
section
variable {X : Cx}
theorem op_repTS : OpR X (binaryOp .Mult) (rRepTS X.K) := by
  intro pins s σ H x y v u Q I rx ry h
  obtain ⟨l, k, xs, rfl, rfl, hT, h1, h2, hne, q⟩ := h
  cases rx
  obtain ⟨t, rfl⟩ := ry
  obtain ⟨its, r, ⟨⟨cls, dd, data, sl⟩, ho, hc, n, hd⟩, hs⟩ := I.tuple hT
  simp only at hc hd
  subst hc hd
  have hle : its.length = xs.length := r.length.symm
  have c0 : (decide (k < -(2 ^ 63)) || decide (k ≥ 2 ^ 63)) = false := by
    rw [decide_eq_false (by omega), decide_eq_false (by omega)] <;> rfl
  have c1 : (its.toArray.isEmpty || k == 1) = true := by
    rcases hne with e | e
    · subst e
      have : its = [] := List.eq_nil_of_length_eq_zero hle
      subst this; rfl
    · subst e; simp
  exact wpAny_binaryOp_repeat_ref (T := "tuple") (U := "int") (by decide) ⟨_, ho, rfl⟩ (fun s' => typeIs_int s' k t) noFill_tuple_mul F.fills_int_mul F.slot_int_rmul repeat_tuple F.slot_int_index.lookup
    (call_meets F.slot_int_rmul (typeIs_int s k t) F.entry_int_rmul (F.args_int_rmul_2 _ _) (int_rmul_tuple k t l its.toArray n dd sl)
      ⟨ho, rfl, ⟨_, ho, rfl⟩, call_meets F.slot_tuple_mul ⟨_, ho, rfl⟩ F.entry_tuple_mul (F.args_tuple_mul_2 _ _) (tuple_mulSame l its.toArray n dd sl k t c0 c1) ⟨ho, ⟨.ref l, H, I, rfl, q⟩⟩⟩)
theorem op_repTN : OpR X (binaryOp .Mult) (rRepTN X.K) := by
  intro pins s σ H x y v u Q I rx ry h
  obtain ⟨l, k, xs, rfl, rfl, hT, hne, h1, h2, q⟩ := h
  cases rx
  obtain ⟨t, rfl⟩ := ry
  obtain ⟨its, r, ⟨⟨cls, dd, data, sl⟩, ho, hc, n, hd⟩, hs⟩ := I.tuple hT
  simp only at hc hd
  subst hc hd
  have hle : its.length = xs.length := r.length.symm
  have hn : its ≠ [] := fun e => hne (by
    rw [e] at hle
    exact List.eq_nil_of_length_eq_zero hle.symm)
  have hi : its.toArray.isEmpty = false := by
    cases its with
    | nil => exact absurd rfl hn
    | cons a b => rfl
  have c0 : (decide (k < -(2 ^ 63)) || decide (k ≥ 2 ^ 63)) = false := by
    rw [decide_eq_false (by omega), decide_eq_false (by omega)] <;> rfl
  have c1 : (its.toArray.isEmpty || k == 1) = false := by
    rw [hi, Bool.false_or]
    exact beq_eq_false_iff_ne.mpr (by omega)
  have c2 : (decide (k ≤ 0) || its.toArray.isEmpty) = true := by rw [decide_eq_true h2]; rfl
  refine wpAny_binaryOp_repeat_ref (T := "tuple") (U := "int") (by decide) ⟨_, ho, rfl⟩ (fun s' => typeIs_int s' k t) noFill_tuple_mul F.fills_int_mul F.slot_int_rmul repeat_tuple F.slot_int_index.lookup
    (call_meets F.slot_int_rmul (typeIs_int s k t) F.entry_int_rmul (F.args_int_rmul_2 _ _) (int_rmul_tuple k t l its.toArray n dd sl)
      ⟨ho, rfl, ⟨_, ho, rfl⟩, call_meets F.slot_tuple_mul ⟨_, ho, rfl⟩ F.entry_tuple_mul (F.args_tuple_mul_2 _ _) (tuple_mulNil l its.toArray n dd sl k t c0 c1 c2) ⟨ho, ?_⟩⟩)
  refine ⟨.ref s.heap.objs.size, _, I.laid (t' := s.toks) (o := .tup []) (fun b ob q => Heap.get?_push_of_some _ q) (Nat.le_refl _) ?_, rfl, q _ (I.hok.fresh (Nat.le_refl _))⟩
  exact ⟨Nat.zero_le _, [], .nil, IsTup.new _ _⟩
end
noncomputable def dMulT (a b : D) (S : Sto) : R D := match a, b with
  | .tup xs, .int k => ifp (-(2 ^ 63) ≤ k ∧ k ≤ 1000 ∧ xs.length ≤ 1000) (.ok (.tup (List.replicate k.toNat xs).flatten) S) .stuck
  | a, b => dMul a b S
def rMulT (K : PySem.W.Frag) : R2 := fun x y H Q => rRepTS K x y H Q ∨ rRepTN K x y H Q ∨ rRepT K x y H Q ∨ rMulD x y H Q
theorem or_mulT {X : Cx} : OpR X (binaryOp .Mult) (rMulT X.K) := OpR.or op_repTS (OpR.or op_repTN (OpR.or op_repT or_mul))
theorem k_mulT {K : PySem.W.Frag} : OpK K (rMulT K) dMulT := by
  intro W σ ι H S x y a b Q s rx ry h
  unfold dMulT at h
  split at h
  · rename_i xs k
    unfold ifp at h
    split at h
    · rename_i hl
      have rx' := rx
      obtain ⟨p, vs, rfl, hp, rp⟩ := tup_at rx
      have hlen := RepL.length _ _ rp
      by_cases h1 : vs = [] ∨ k = 1
      · refine .inl ⟨p, k, vs, rfl, int_at ry, hp, hl.1, by omega, h1, ?_⟩
        have e : (List.replicate k.toNat xs).flatten = xs := by
          rcases h1 with e | e
          · subst e
            have : xs = [] := List.eq_nil_of_length_eq_zero hlen
            subst this; simp
          · subst e; simp
        rw [e] at h
        exact h.here s _ rx'
      · have hne : vs ≠ [] := fun z => h1 (.inl z)
        have hk : k ≠ 1 := fun z => h1 (.inr z)
        by_cases h2 : k ≤ 0
        · refine .inr (.inl ⟨p, k, vs, rfl, int_at ry, hp, hne, hl.1, h2, ?_⟩)
          have e : (List.replicate k.toNat xs).flatten = [] := by
            have : k.toNat = 0 := by omega
            rw [this]; rfl
          rw [e] at h
          exact new_tup h s RepL.nil
        · refine .inr (.inr (.inl ⟨p, k, vs, rfl, int_at ry, hp, hne, by omega, hl.2.1, by omega, ?_⟩))
          exact new_tup h s (RepL.replicate rp _)
    · exact h.elim
  · exact .inr (.inr (.inr (k_mul W σ ι H S x y a b Q s rx ry h)))
end DL
namespace DL
open PySem PySem.Spec L2
open PyProof.Rows hiding St
def sRaise1 (n f : Str) (g : Ev → Sto → R (List D)) : Ev → Sto → SR := fun ρ S => (g ρ S).toS ρ fun ds S1 => match ds with
  | [d] => .er ⟨.own n, [(f, d)]⟩ ρ S1
  | _ => .stuck
theorem RepF.one {K : PySem.W.Frag} {ι : List Addr} {H : Hp} {f : Str} {d : D} {v : V} (h : RepV K ι H d v) : RepF K ι H [(f, d)] [(f, v)] := by
  rw [RepF]; exact ⟨v, [], rfl, h, by rw [RepF]⟩
def sRaise0 (n : Str) : Ev → Sto → SR := fun ρ S => .er ⟨.own n, []⟩ ρ S
end DL
namespace DL
open PySem PySem.Spec L2
open PyProof.Rows hiding St
end DL
namespace DL
open PySem PySem.Spec L2
open PyProof.Rows hiding St
end DL
namespace DL
open PySem PySem.Spec L2
open PyProof.Rows hiding St
end DL
namespace DL
open PySem PySem.Spec L2
open PyProof.Rows hiding St
section
variable {X : Cx} {W : WX} {gd : Bool} {k : Nat} {f : Addr} {F : Fn} {x : Str} {p pos : Pos} {e : Expr} {es : List Expr} {g : Ev → Sto → R (List D)}
def eCallV (tbl : List (Str × Fn)) (f : Ev → Sto → R D) (g : Ev → Sto → R (List D)) : Ev → Sto → R D := fun ρ S => (f ρ S).bind fun d S1 => match d with
  | .fn n => (match tbl.lookup n with
    | some F => (g ρ S1).bind fun ds S2 => F ds S2
    | none => .stuck)
  | _ => .stuck
end
end DL
namespace DL
open PySem PySem.Spec L2
open PyProof.Rows hiding St
def eDict0 : Ev → Sto → R D := fun _ S => .ok (.fd []) S
theorem rep_fd {K : PySem.W.Frag} {ι : List Addr} {H : Hp} {kvs : List (Key × D)} {ks : List (Key × V)} {p : Addr} (n : p ∉ ι) (h : H p = some (.dK ks)) (r : RepK K ι H kvs ks) : RepV K ι H (.fd kvs) (.ref p) := by
  rw [RepV]; exact ⟨p, ks, rfl, n, h, r⟩
theorem de_dict0 {X : Cx} {W : WX} {pos : Pos} : DE X W (.Dict [] [] pos) eDict0 := by
  refine PE.imp pe_dnewK fun σ H Q ⟨ι, ρ, S, hE, hS, h⟩ p hp => ?_
  exact h ι _ (Grow.upd hp) (hS.upd hp) _ (rep_fd (hS.free hp) upd_same (by rw [RepK]))
/-- written pairs, the values constants -/
def DPc (X : Cx) (pos : Pos) (keys : List (Option Expr)) (values : List Expr) (kvs : List (Key × D)) : Prop := ∃ vs : List (Key × V), PPs X pos keys values (vs.map fun q => (tC (kV q.1), tC q.2)) ∧ ∀ ι H, RepK X.K ι H kvs vs
theorem dpc_nil {X : Cx} {pos : Pos} : DPc X pos [] [] [] := ⟨[], pps_nil, fun _ _ => by rw [RepK]⟩
theorem dpc_cons {X : Cx} {pos : Pos} {k v : Expr} {ks : List (Option Expr)} {vs : List Expr} {key : Key} {d : D} {y : V} {kvs : List (Key × D)} (hk : PE X k (tC (kV key))) (hv : PE X v (tC y)) (r : ∀ ι H, RepV X.K ι H d y) (hr : DPc X pos ks vs kvs) :
    DPc X pos (some k :: ks) (v :: vs) ((key, d) :: kvs) := by
  obtain ⟨ws, h1, h2⟩ := hr
  exact ⟨(key, y) :: ws, pps_cons hk hv h1, fun ι H => by rw [RepK]; exact ⟨y, ws, rfl, r ι H, h2 ι H⟩⟩
theorem pairs_c {Q : List (V × V) → Hp → Prop} {σ : L2.St} {H : Hp} : ∀ (ws : List (Key × V)) (acc : List (V × V)), Q (acc ++ ws.map fun q => (kV q.1, q.2)) H → tPairs (ws.map fun q => (tC (kV q.1), tC q.2)) σ H fun ps H' => Q (acc ++ ps) H'
  | [], acc, h => by simpa [tPairs] using h
  | q :: ws, acc, h => by
    have := pairs_c (Q := Q) (σ := σ) (H := H) ws (acc ++ [(kV q.1, q.2)]) (by simpa using h)
    show tPairs _ σ H fun ps H3 => Q (acc ++ ((kV q.1, q.2) :: ps)) H3
    simpa using this
theorem merge_nodup : ∀ (l acc : List (Key × V)), ((acc ++ l).map (·.1)).Nodup → mergeK acc l = acc ++ l
  | [], acc, _ => by simp [mergeK]
  | (k, v) :: l, acc, h => by
    have hk : (acc.any fun kv => decide (kv.1 = k)) = false := by
      rw [Bool.eq_false_iff]
      intro z
      obtain ⟨q, hq, e⟩ := List.any_eq_true.mp z
      have e := of_decide_eq_true e
      rw [List.map_append, List.map_cons] at h
      have := (List.nodup_append.mp h).2.2 q.1 (List.mem_map.mpr ⟨q, hq, rfl⟩) k List.mem_cons_self
      exact this e
    have e1 : putK acc k v = acc ++ [(k, v)] := by unfold putK; rw [hk]; rfl
    have : mergeK acc ((k, v) :: l) = mergeK (putK acc k v) l := rfl
    rw [this, e1, merge_nodup l (acc ++ [(k, v)]) (by simpa using h)]
    simp
theorem RepK.keys {K : PySem.W.Frag} {ι : List Addr} {H : Hp} : ∀ {kvs : List (Key × D)} {vs : List (Key × V)}, RepK K ι H kvs vs → vs.map (·.1) = kvs.map (·.1)
  | [], _, h => by rw [RepK] at h; subst h; rfl
  | (k, d) :: kvs, _, h => by
    rw [RepK] at h
    obtain ⟨v, r, rfl, a, b⟩ := h
    rw [List.map_cons, List.map_cons, RepK.keys b]
theorem de_dispC {X : Cx} {W : WX} {pos : Pos} {keys : List (Option Expr)} {values : List Expr} {kvs : List (Key × D)} (h : DPc X pos keys values kvs) (hn : (kvs.map (·.1)).Nodup := by decide) (h15 : keys.length ≤ 15 := by decide) (he : kvs.length ≤ 15 := by decide) (hall : keys.all (·.isSome) = true := by rfl) (hl : keys.length = values.length := by rfl) (h0 : keys ≠ [] := by intro z; cases z) :
    DE X W (.Dict keys values pos) (eC (.fd kvs)) := by
  obtain ⟨ws, h1, h2⟩ := h
  refine PE.imp (pe_disp h1 hall hl h0 h15) fun σ H Q ⟨ι, ρ, S, hE, hS, h⟩ p hp => ?_
  have hk := RepK.keys (h2 ι H)
  have hlen : ws.length = kvs.length := by have := congrArg List.length hk; simpa using this
  have := pairs_c (Q := fun ps H2 => H2 p = some (.dK []) ∧ ∃ kvs : List (Key × V), ps = kvs.map (fun kv => (kV kv.1, kv.2)) ∧ kvs.length ≤ 15 ∧ Q (.ref p) (upd H2 p (.dK (mergeK [] kvs)))) (σ := σ) (H := upd H p (.dK [])) ws [] ⟨upd_same, ws, by simp, by rw [hlen]; exact he, ?_⟩
  · simpa using this
  · rw [merge_nodup ws [] (by rw [List.nil_append, hk]; exact hn), List.nil_append, upd_upd]
    exact h ι _ (Grow.upd hp) (hS.upd hp) _ (rep_fd (hS.free hp) upd_same (h2 ι _))
theorem rgV_rep {K : PySem.W.Frag} {ι : List Addr} {H : Hp} (a b : Int) : RepL K ι H (rangeD a (b - a).toNat) (rgV a b) := by
  unfold rangeD rgV
  generalize (b - a).toNat = n
  have key : ∀ l : List Nat, RepL K ι H (l.map fun k => D.int (a + (k : Nat))) (l.map fun i => V.int (a + (i : Nat))) := by
    intro l
    induction l with
    | nil => exact RepL.nil
    | cons x l ih => exact RepL.cons int_rep ih
  exact key _
noncomputable def eListRg (mk : List D → Sto → R D) (f : Ev → Sto → R D) : Ev → Sto → R D := fun ρ S => (f ρ S).bind fun d S1 => (iOf d S1).bind fun n S2 => ifp (RgOk 0 n) (mk (rangeD 0 n.toNat) S2) .stuck
theorem de_listRg {X : Cx} {W : WX} {mk : List D → Sto → R D} {a : Expr} {p p2 pos pos2 : Pos} {f : Ev → Sto → R D} (m : MkOk mk) (hc : X.calm = true) (hm : X.mg "list" = none) (hm2 : X.mg "range" = none) (ha : DE X W a f) (hg : Gl X "list" := by rfl) (hg2 : Gl X "range" := by rfl)
    (na : starEach [a] X.env = (false, eval a X.env) :: starEach [] X.env := by rfl) (nb : starEach [.Call (.Name "range" p2) [a] [] pos2] X.env = (false, eval (.Call (.Name "range" p2) [a] [] pos2) X.env) :: starEach [] X.env := by rfl) :
    DE X W (.Call (.Name "list" p) [.Call (.Name "range" p2) [a] [] pos2] [] pos) (eListRg mk f) := by
  refine PE.imp (pe_listRg hc hg hm (prg_1 hg2 hm2 ha na) nb) fun σ H Q ⟨ι, ρ, S, hE, hS, h⟩ => ⟨ι, ρ, S, hE, hS, (Post.bind h).mono fun d S1 ι1 H1 G1 s1 h1 v rv => ?_⟩
  cases d with
  | int n =>
    replace h1 : Post X.K W σ ι1 H1 (ifp (RgOk 0 n) (mk (rangeD 0 n.toNat) S1) .stuck) fun d _ ι' H' => ∀ v, RepV X.K ι' H' d v → Q v H' := h1
    unfold ifp at h1
    split at h1
    · rename_i hr
      refine ⟨n, int_at rv, hr, fun q hq => ?_⟩
      have e : n.toNat = (n - 0).toNat := by rw [Int.sub_zero]
      rw [e] at h1
      exact m _ _ _ _ _ _ _ _ _ h1 s1 (rgV_rep 0 n) q hq
    · exact h1.elim
  | _ => exact (show False from h1).elim
end DL
theorem L2H.RoomH.units {k : Nat} {A : PySem.Around} (r : L2H.RoomH k A) : A.units + 64 < PySem.cLine := by have := r.un; omega
namespace DL
open PySem PySem.Spec L2
open PyProof.Rows hiding St
end DL
namespace DL
open PySem PySem.Spec L2
open PyProof.Rows hiding St
end DL
namespace DL
open PySem PySem.Spec L2
open PyProof.Rows hiding St
end DL
namespace DL
open PySem PySem.Spec L2
open PyProof.Rows hiding St
def rEqZ (K : PySem.W.Frag) (neg : Bool) : R2 := fun x y H Q => ∃ a b xs, x = V.ref a ∧ y = V.ref b ∧ SqT K H a xs ∧ SqT K H b [] ∧ Q (.bl (if neg then !xs.isEmpty else xs.isEmpty)) H
theorem op_neZ {X : Cx} (hu : X.A.units + 64 < cLine) : OpR X (compareOp .NotEq) (rEqZ X.K true) := by
  intro pins s σ H x y v u Q I rx ry h
  obtain ⟨a, b, xs, rfl, rfl, ha, hb, q⟩ := h
  cases (show v = Value.ref a from rx)
  cases (show u = Value.ref b from ry)
  obtain ⟨us, r1, p1, _⟩ := I.tuple ha
  obtain ⟨ws, r2, p2, _⟩ := I.tuple hb
  cases r2
  refine SeqAt.RcNeAt.tuples (e := fun _ => true) p1 p2 (by omega) (fun j h1 h2 => absurd h2 (by simp)) X.prog X.w _ _ ?_
  have e : ((List.range (min us.toArray.size (#[] : Array Value).size)).all (fun _ => true) && us.toArray.size == (#[] : Array Value).size) = xs.isEmpty := by
    have hl := r1.length
    cases xs with
    | nil => cases us with
      | nil => rfl
      | cons u us => simp at hl
    | cons x xs => cases us with
      | nil => simp at hl
      | cons u us => simp
  exact ⟨.bl (!xs.isEmpty), H, I, by show Value.bool _ = Value.bool _; rw [← e], q⟩
def dEqZ (neg : Bool) (a b : D) (S : Sto) : R D := match a, b with
  | .tup xs, .tup [] => .ok (.bl (if neg then !xs.isEmpty else xs.isEmpty)) S
  | a, b => dEq neg a b S
theorem or_neZ {X : Cx} (hu : X.A.units + 64 < cLine) : OpR X (compareOp .NotEq) (fun x y H Q => rEqZ X.K true x y H Q ∨ (rNe x y H Q ∨ rNeD X.K x y H Q)) := OpR.or (op_neZ hu) (or_ne hu)
theorem empty_rep {K : PySem.W.Frag} {ι : List Addr} {H : Hp} {ds : List D} {vs : List V} (r : RepL K ι H ds vs) : vs.isEmpty = ds.isEmpty := by
  have := RepL.length _ _ r
  cases ds <;> cases vs <;> simp_all
theorem k_neZ {K : PySem.W.Frag} : OpK K (fun x y H Q => rEqZ K true x y H Q ∨ (rNe x y H Q ∨ rNeD K x y H Q)) (dEqZ true) := by
  intro W σ ι H S x y a b Q s rx ry h
  unfold dEqZ at h
  split at h
  · obtain ⟨p, vs, rfl, hp, rp⟩ := tup_at rx
    obtain ⟨q, us, rfl, hq, rq⟩ := tup_at ry
    have hu : us = [] := List.eq_nil_of_length_eq_zero (by rw [← RepL.length _ _ rq]; rfl)
    subst hu
    refine .inl ⟨p, q, vs, rfl, rfl, hp, hq, ?_⟩
    have := h.here s _ bl_rep
    simpa [empty_rep rp] using this
  · exact .inr (k_neD W σ ι H S x y _ _ Q s rx ry h)
end DL
namespace DL
open PySem PySem.Spec L2
open PyProof.Rows hiding St
end DL
namespace DL
open PySem PySem.Spec L2
open PyProof.Rows hiding St
end DL
namespace DL
open PySem PySem.Spec L2
open PyProof.Rows hiding St
end DL
namespace DL
open PySem PySem.Spec L2
open PyProof.Rows hiding St
end DL
namespace DL
open PySem PySem.Spec L2
open PyProof.Rows hiding St
section
variable {X : Cx} {W : WX} {pos : Pos} {e : Expr}
theorem PG.or {tg : Expr} {t u : TG} (h : PG X tg t) (h' : PG X tg u) : PG X tg (fun v σ H Q => t v σ H Q ∨ u v σ H Q) := ⟨fun pins s σ H v w Q I r q => by
  rcases q with q | q
  · exact h.run pins s σ H v w Q I r q
  · exact h'.run pins s σ H v w Q I r q⟩
theorem seqOf_fl (ds : List D) (S : Sto) : seqOf S (.fl ds) = some ds := rfl
theorem seqOf_tup (ds : List D) (S : Sto) : seqOf S (.tup ds) = some ds := rfl
theorem seqOf_ti (l : List Int) (S : Sto) : seqOf S (ti l) = some (l.map D.int) := rfl
def tSq (n : Nat) (U : Tgs) : Tg := fun d ρ S => match seqOf S d with
  | some ds => if ds.length = n then U ds ρ S else none
  | _ => none
/-- two names -/
def sSet2 (i j : Nat) (f : Ev → Sto → R D) : Ev → Sto → SR := fun ρ S => (f ρ S).toS ρ fun d S1 => .nx ((ρ.set i (some d)).set j (some d)) S1
end
end DL
namespace DL
open PySem PySem.Spec L2
open PyProof.Rows hiding St
mutual
def frzW (look : Nat → Option D) (k : Nat) : D → Option D
  | .loc n => if n < k then some (.loc n) else look n
  | .tup ds => (frzWL look k ds).map .tup
  | .fl ds => (frzWL look k ds).map .fl
  | .kl ds => if lowL k ds = true then some (.kl ds) else none
  | .fd kvs => if lowK k kvs = true then some (.fd kvs) else none
  | .exc c fs => if lowF k fs = true then some (.exc c fs) else none
  | .non => some .non
  | .bl b => some (.bl b)
  | .int i => some (.int i)
  | .str x => some (.str x)
  | .ty n => some (.ty n)
  | .fn n => some (.fn n)
def frzWL (look : Nat → Option D) (k : Nat) : List D → Option (List D)
  | [] => some []
  | d :: ds => (frzW look k d).bind fun e => (frzWL look k ds).map fun es => e :: es
end
def frzK (S : Sto) (k : Nat) : Nat → Nat → Option D
  | 0 => fun _ => none
  | f + 1 => fun n => match S[n]? with
    | some (.lst ds) => (frzWL (frzK S k f) k ds).map .fl
    | _ => none
def frz (S : Sto) (k f : Nat) (d : D) : Option D := frzW (frzK S k f) k d
theorem fnD_stuck {gd : Bool} {P : Program} {w : World} {K : PySem.W.Frag} {mg : Str → Option Value} {base : Heap} {k : Nat} {f : Addr} : FnD gd P w K mg base k f (fun _ _ => .stuck) := fun _ _ _ _ _ _ _ _ _ _ _ _ h => by
  obtain ⟨_, _, _, _, _, h⟩ := h
  exact h.elim
end DL
namespace DL
open PySem PySem.Spec L2
open PyProof.Rows hiding St
def rEqY (K : PySem.W.Frag) (neg : Bool) : R2 := fun x y H Q => ∃ a b xs, x = V.ref a ∧ y = V.ref b ∧ SqL K H a xs ∧ SqL K H b [] ∧ Q (.bl (if neg then !xs.isEmpty else xs.isEmpty)) H
theorem op_neY {X : Cx} (hu : X.A.units + 64 < cLine) : OpR X (compareOp .NotEq) (rEqY X.K true) := by
  intro pins s σ H x y v u Q I rx ry h
  obtain ⟨a, b, xs, rfl, rfl, ha, hb, q⟩ := h
  cases (show v = Value.ref a from rx)
  cases (show u = Value.ref b from ry)
  obtain ⟨us, r1, p1, _⟩ := I.list ha
  obtain ⟨ws, r2, p2, _⟩ := I.list hb
  cases r2
  have hl := r1.length
  cases xs with
  | nil =>
    cases us with
    | nil => exact SeqAt.RcNeAt.lists (e := fun _ => true) p1.isList p2.isList rfl (by omega) (fun j h1 h2 => absurd h2 (by simp)) X.prog X.w _ _ ⟨.bl false, H, I, rfl, q⟩
    | cons u us => simp at hl
  | cons x xs =>
    cases us with
    | nil => simp at hl
    | cons u us => exact SeqAt.RcNeAt.lists_lengths p1.isList p2.isList (by simp) (by omega) X.prog X.w _ _ ⟨.bl true, H, I, rfl, q⟩
/-- a list against [] -/
def dEqY (neg : Bool) (a b : D) (S : Sto) : R D := match b with
  | .fl [] => (match a with
    | .fl xs => .ok (.bl (if neg then !xs.isEmpty else xs.isEmpty)) S
    | .loc n => (match getQ S n with
      | some xs => .ok (.bl (if neg then !xs.isEmpty else xs.isEmpty)) S
      | none => .stuck)
    | a => dEq neg a (.fl []) S)
  | b => dEq neg a b S
theorem or_neY {X : Cx} (hu : X.A.units + 64 < cLine) : OpR X (compareOp .NotEq) (fun x y H Q => rEqY X.K true x y H Q ∨ (rNe x y H Q ∨ rNeD X.K x y H Q)) := OpR.or (op_neY hu) (or_ne hu)
theorem nil_fl {K : PySem.W.Frag} {ι : List Addr} {H : Hp} {y : V} (r : RepV K ι H (.fl []) y) : ∃ b, y = .ref b ∧ SqL K H b [] := by
  rw [RepV] at r
  obtain ⟨b, vs, rfl, h, rl⟩ := r
  rw [RepL] at rl
  subst rl
  exact ⟨b, rfl, h.sq⟩
theorem k_eqY_gen {K : PySem.W.Frag} (neg : Bool) {W : WX} {σ : St} {ι : List Addr} {H : Hp} {S : Sto} {x y : V} {a b : D} {Q : VK} {Z : Prop} (s : Sim K ι H S) (rx : RepV K ι H a x) (ry : RepV K ι H b y)
    (h : Post K W σ ι H (dEqY neg a b S) fun d _ ι' H' => ∀ v, RepV K ι' H' d v → Q v H') (other : ∀ {a b}, RepV K ι H a x → RepV K ι H b y → Post K W σ ι H (dEq neg a b S) (fun d _ ι' H' => ∀ v, RepV K ι' H' d v → Q v H') → Z) : rEqY K neg x y H Q ∨ Z := by
  unfold dEqY at h
  split at h
  · obtain ⟨p, rfl, hp⟩ := nil_fl ry
    split at h
    · rename_i xs
      rw [RepV] at rx
      obtain ⟨q, vs, rfl, hq, rl⟩ := rx
      refine .inl ⟨q, p, vs, rfl, rfl, hq.sq, hp, ?_⟩
      have := h.here s _ bl_rep
      simpa [empty_rep rl] using this
    · rename_i n
      split at h
      · rename_i xs hx
        rw [RepV] at rx
        obtain ⟨q, eq, rfl⟩ := rx
        obtain ⟨vs, hq, rl⟩ := loc_at s eq hx
        refine .inl ⟨q, p, vs, rfl, rfl, hq, hp, ?_⟩
        have := h.here s _ bl_rep
        simpa [empty_rep rl] using this
      · exact h.elim
    · exact .inr (other rx ry h)
  · exact .inr (other rx ry h)
theorem k_neY {K : PySem.W.Frag} : OpK K (fun x y H Q => rEqY K true x y H Q ∨ (rNe x y H Q ∨ rNeD K x y H Q)) (dEqY true) := fun W σ ι H S x y a b Q s rx ry h => k_eqY_gen true s rx ry h fun ra rb hh => k_neD W σ ι H S x y _ _ Q s ra rb hh
end DL
namespace DL
open PySem PySem.Spec L2
open PyProof.Rows hiding St
def bi : Bool → Int := fun b => if b = true then 1 else 0
def rAddN (K : PySem.W.Frag) : R2 := fun x y H Q => rAddD K x y H Q ∨ ∃ k i, x = .bl k ∧ y = .int i ∧ Q (.int (bi k + i)) H
theorem op_addN {X : Cx} : OpR X (binaryOp .Add) (rAddN X.K) := OpR.or or_add (by
  intro pins s σ H x y v u Q I rx ry h
  obtain ⟨k, i, rfl, rfl, q⟩ := h
  cases rx
  obtain ⟨t, rfl⟩ := ry
  exact IntBool.add_bool_int ⟨.int (bi k + i), H, I.tok _, ⟨_, rfl⟩, q⟩)
noncomputable def dAddN (a b : D) (S : Sto) : R D := match a, b with
  | .bl k, .int i => .ok (.int (bi k + i)) S
  | a, b => dAdd a b S
theorem k_addN {K : PySem.W.Frag} : OpK K (rAddN K) dAddN := by
  intro W σ ι H S x y a b Q s rx ry h
  unfold dAddN at h
  split at h
  · rename_i k i
    rw [RepV] at rx
    exact .inr ⟨k, i, rx, int_at ry, h.here s _ int_rep⟩
  · exact .inl (k_add W σ ι H S x y _ _ Q s rx ry h)
def rSubN : R2 := fun x y H Q => rI0 (fun i j => .int (i - j)) x y H Q ∨ (∃ k i, x = .bl k ∧ y = .int i ∧ Q (.int (bi k - i)) H) ∨ (∃ i k, x = .int i ∧ y = .bl k ∧ Q (.int (i - bi k)) H)
theorem op_subN {X : Cx} : OpR X (binaryOp .Sub) rSubN := OpR.or op_sub (OpR.or (by
  intro pins s σ H x y v u Q I rx ry h
  obtain ⟨k, i, rfl, rfl, q⟩ := h
  cases rx
  obtain ⟨t, rfl⟩ := ry
  exact IntBool.sub_bool_int ⟨.int (bi k - i), H, I.tok _, ⟨_, rfl⟩, q⟩) (by
  intro pins s σ H x y v u Q I rx ry h
  obtain ⟨i, k, rfl, rfl, q⟩ := h
  obtain ⟨t, rfl⟩ := rx
  cases ry
  exact IntBool.sub_int_bool ⟨.int (i - bi k), H, I.tok _, ⟨_, rfl⟩, q⟩))
noncomputable def dSubN (a b : D) (S : Sto) : R D := match a, b with
  | .bl k, .int i => .ok (.int (bi k - i)) S
  | .int i, .bl k => .ok (.int (i - bi k)) S
  | a, b => dSub a b S
theorem k_subN {K : PySem.W.Frag} : OpK K rSubN dSubN := by
  intro W σ ι H S x y a b Q s rx ry h
  unfold dSubN at h
  split at h
  · rename_i k i
    rw [RepV] at rx
    exact .inr (.inl ⟨k, i, rx, int_at ry, h.here s _ int_rep⟩)
  · rename_i i k
    rw [RepV] at ry
    exact .inr (.inr ⟨i, k, int_at rx, ry, h.here s _ int_rep⟩)
  · exact .inl (k_sub W σ ι H S x y _ _ Q s rx ry h)
end DL
namespace DL
open PySem PySem.Spec L2
open PyProof.Rows hiding St
end DL
namespace DL
open PySem PySem.Spec L2
open PyProof.Rows hiding St
end DL
namespace DL
open PySem PySem.Spec L2
open PyProof.Rows hiding St
end DL
namespace DL
open PySem PySem.Spec L2
open PyProof.Rows hiding St
end DL
namespace DL
open PySem PySem.Spec L2
open PyProof.Rows hiding St
end DL
namespace DL
open PySem PySem.Spec L2
open PyProof.Rows hiding St
theorem call_strO {X : Cx} : CallR X (.type "str") (fun xs H Q => (∃ i, xs = [.int i] ∧ i.natAbs.log2 < 1920 ∧ Q (.str (toString i)) H) ∨ (xs = [.non] ∧ Q (.str "None") H) ∨ (∃ b : Bool, xs = [.bl b] ∧ Q (.str (if b then "True" else "False")) H)) := by
  intro pins s σ H xs us Q I r h
  rcases h with h | ⟨rfl, q⟩ | ⟨b, rfl, q⟩
  · exact call_str_int pins s σ H xs us Q I r h
  · obtain ⟨u, rfl, r1⟩ := vals1 r
    cases r1
    exact PySem.P.str_of_none ⟨.str _, H, I.tok _, ⟨_, rfl⟩, q⟩
  · obtain ⟨u, rfl, r1⟩ := vals1 r
    cases r1
    refine PySem.P.str_of_bool ?_
    cases b
    · exact ⟨.str _, H, I.tok _, ⟨_, rfl⟩, q⟩
    · exact ⟨.str _, H, I.tok _, ⟨_, rfl⟩, q⟩
noncomputable def bStrO : Fn := fun ds S => match ds with
  | [.int i] => ifp (i.natAbs.log2 < 1920) (.ok (.str (toString i)) S) .stuck
  | [.non] => .ok (.str "None") S
  | [.bl b] => .ok (.str (if b then "True" else "False")) S
  | _ => .stuck
theorem k_strO {K : PySem.W.Frag} : CallK K (fun xs H Q => (∃ i, xs = [.int i] ∧ i.natAbs.log2 < 1920 ∧ Q (.str (toString i)) H) ∨ (xs = [.non] ∧ Q (.str "None") H) ∨ (∃ b : Bool, xs = [.bl b] ∧ Q (.str (if b then "True" else "False")) H)) bStrO := by
  intro W σ ι H S vs ds Q s rl h
  unfold bStrO at h
  split at h
  · obtain ⟨v, rfl, rv⟩ := RepL.one_inv rl
    unfold ifp at h
    split at h
    · rename_i hl
      exact .inl ⟨_, by rw [int_at rv], hl, h.here s _ str_rep⟩
    · exact h.elim
  · obtain ⟨v, rfl, rv⟩ := RepL.one_inv rl
    rw [RepV] at rv
    exact .inr (.inl ⟨by rw [rv], h.here s _ str_rep⟩)
  · rename_i b
    obtain ⟨v, rfl, rv⟩ := RepL.one_inv rl
    rw [RepV] at rv
    refine .inr (.inr ⟨b, by rw [rv], ?_⟩)
    cases b
    · exact h.here s _ str_rep
    · exact h.here s _ str_rep
  · exact h.elim
end DL
namespace DL
open PySem PySem.Spec L2
open PyProof.Rows hiding St
end DL
namespace DL
open PySem L2
open Sem (wp)
open PyProof.Rows (AllBare)
def deadK : Resume → Sem PySem.Fin := fun _ => .unsupported ""
def deadR : Result → Sem PySem.Fin := fun _ => .unsupported ""
/-- a frame that can't be gone on with; it looks the same from outside -/
def hush (F : Frame) : Frame := .ret deadR none false [] F.where_.1 F.where_.2 []
def deaf : GenState → GenState
  | .suspended _ l c p fs cl => .suspended deadK l c p (fs.map hush) cl
  | x => x
def asleep : GenState → Bool
  | .suspended .. => true
  | _ => false
theorem deaf_bare (x : GenState) : (deaf x).bare = x.bare := by cases x <;> rfl
/-- no generator's frame is among the frames that are kept -/
def clean : GenState → Prop
  | .suspended _ _ _ _ fs _ => splitAtGen fs = none
  | _ => True
/-- b: the state in which the run was shown; s: the state as it is; what slept in G is deaf in b -/
structure SLk (G : Array GenState) (b s : Shared) : Prop where
  heap : s.heap = b.heap
  drawn : s.drawn = b.drawn
  toks : s.toks = b.toks
  os : s.os = b.os
  size : s.gens.size = b.gens.size
  le : G.size ≤ b.gens.size
  old : ∀ (i : Nat) x, G[i]? = some x → asleep x = true → b.gens[i]? = some (deaf x) ∧ s.gens[i]? = some x
  new : ∀ (i : Nat), (∀ x, G[i]? = some x → asleep x = false) → s.gens[i]? = b.gens[i]? ∧ ∀ x, b.gens[i]? = some x → clean x
theorem SLk.eq {G : Array GenState} {b s : Shared} (h : SLk G b s) : s = { b with gens := s.gens } := by
  obtain ⟨h1, g1, d1, t1, o1⟩ := s
  obtain ⟨h2, g2, d2, t2, o2⟩ := b
  obtain ⟨e1, e2, e3, e4, _⟩ := h
  cases e1; cases e2; cases e3; cases e4; rfl
theorem SLk.or {G : Array GenState} {b s : Shared} (h : SLk G b s) (i : Nat) : (∃ x, G[i]? = some x ∧ asleep x = true) ∨ ∀ x, G[i]? = some x → asleep x = false := by
  cases e : G[i]? with
  | none => exact .inr fun x hx => by cases hx
  | some x =>
    cases ha : asleep x with
    | true => exact .inl ⟨x, rfl, ha⟩
    | false => exact .inr fun y hy => by cases hy; exact ha
theorem SLk.push {G : Array GenState} {b s : Shared} (h : SLk G b s) (c : Code) : SLk G { b with gens := b.gens.push (.fresh c) } { s with gens := s.gens.push (.fresh c) } := by
  refine ⟨h.heap, h.drawn, h.toks, h.os, ?_, ?_, fun i y hy ha => ?_, fun i hi => ?_⟩
  · simp [h.size]
  · have := h.le
    simp only [Array.size_push]; omega
  · obtain ⟨q1, q2⟩ := h.old i y hy ha
    have l1 := (Array.getElem?_eq_some_iff.mp q1).1
    have l2 := (Array.getElem?_eq_some_iff.mp q2).1
    simp only [Array.getElem?_push, Nat.ne_of_lt l1, Nat.ne_of_lt l2, if_false]
    exact ⟨q1, q2⟩
  · obtain ⟨q1, q2⟩ := h.new i hi
    simp only [Array.getElem?_push, h.size]
    refine ⟨?_, fun y hy => ?_⟩
    · split
      · rfl
      · exact q1
    · split at hy
      · cases hy; trivial
      · exact q2 y hy
/-- what was let go stays so -/
structure Gone (s s' : Shared) : Prop where
  size : s.heap.objs.size ≤ s'.heap.objs.size
  none : ∀ b, b < s.heap.objs.size → s.heap.get? b = none → s'.heap.get? b = none
theorem Gone.trans {a b c : Shared} (h : Gone a b) (k : Gone b c) : Gone a c := ⟨Nat.le_trans h.size k.size, fun d hd e => k.none d (Nat.lt_of_lt_of_le hd h.size) (h.none d hd e)⟩
theorem Gone.heap {a b c : Shared} (h : Gone a b) (e : c.heap = b.heap) : Gone a c := ⟨by rw [e]; exact h.size, fun d hd q => by rw [e]; exact h.none d hd q⟩
/-- what sleeps in s sleeps in s' as it did; what was let go stays so -/
structure Kept (s s' : Shared) : Prop where
  gen : ∀ (i : Nat) x, s.gens[i]? = some x → asleep x = true → s'.gens[i]? = some x
  gone : Gone s s'
theorem Kept.trans {a b c : Shared} (h : Kept a b) (k : Kept b c) : Kept a c := ⟨fun i x e z => k.gen i x (h.gen i x e z) z, h.gone.trans k.gone⟩
theorem SLk.kept {b s' s : Shared} (l : SLk s.gens b s') (g : Gone s s') : Kept s s' := ⟨fun i x e z => (l.old i x e z).2, g⟩
theorem SLk.bare {G : Array GenState} {b s : Shared} (l : SLk G b s) (h : AllBare b.gens) : AllBare s.gens := fun x hx => by
  obtain ⟨i, hi, rfl⟩ := Array.mem_iff_getElem.mp hx
  have hs : s.gens[i]? = some s.gens[i] := Array.getElem?_eq_getElem hi
  rcases l.or i with ⟨y, hy, ha⟩ | hn
  · obtain ⟨q1, q2⟩ := l.old i y hy ha
    rw [hs] at q2
    have e : s.gens[i] = y := Option.some.inj q2
    rw [e, ← deaf_bare]
    exact h _ (Array.mem_of_getElem? q1)
  · rw [(l.new i hn).1] at hs
    exact h _ (Array.mem_of_getElem? hs)
end DL
namespace DL
open PySem PySem.Spec L2
open PyProof.Rows hiding St
mutual
def tt : D → Bool
  | .non => true
  | .bl _ => true
  | .int _ => true
  | .str _ => true
  | .tup ds => ttL ds
  | .ty _ => false
  | .fn _ => false
  | .fl _ => false
  | .kl _ => false
  | .fd _ => false
  | .exc _ _ => false
  | .loc _ => false
def ttL : List D → Bool
  | [] => true
  | d :: ds => tt d && ttL ds
end
/-- the tuples stand -/
def Tx (H H' : Hp) : Prop := ∀ a xs, H a = some (.tup xs) → H' a = some (.tup xs)
theorem Tx.trans {H H1 H2 : Hp} (a : Tx H H1) (b : Tx H1 H2) : Tx H H2 := fun c xs e => b c xs (a c xs e)
section
variable {K : PySem.W.Frag} {ι : List Addr} {H H' : Hp}
/-- all that stands stays -/
theorem Grow.all {ι : List Addr} (h : ∀ a o, H a = some o → H' a = some o) : Grow ι H ι H' := ⟨List.prefix_rfl, fun a o e _ => h a o e, fun _ z n => absurd z n⟩
theorem Sim.all {S : Sto} (s : Sim K ι H S) (h : ∀ a o, H a = some o → H' a = some o) : Sim K ι H' S :=
  ⟨s.nd, s.len, fun n a o e1 e2 => by
    have q := s.ob n a o e1 e2
    obtain ⟨u, hu⟩ := q.some
    exact q.grow (Grow.all h) ((h a u hu).trans hu.symm)⟩
end
def hcut (h : Heap) (L : Nat) : Heap := { h with objs := h.objs.extract 0 L }
open Classical in
/-- what the generator must not touch: the untracked young objects, as they are -/
noncomputable def gmark (L : Addr) (pv : List Addr) (H : Hp) (h : Heap) : Hp := fun b => match H b with
  | some u => some u
  | none => if L ≤ b ∧ b ∉ pv then (match h.get? b with
    | some o => some (.ext fun h' => h'.get? b = some o)
    | none => none) else none
/-- the generator's context while it runs for a consumer -/
noncomputable def gx (N : List Str) (env : Env) (X : Cx) (pv : List Addr) (H : Hp) (s : Shared) : Cx where
  prog := X.prog
  w := X.w
  K := X.K
  mg := X.mg
  base := X.base
  A := X.A.in1.deeper env
  N := N
  s_0 := { s with heap := hcut s.heap env.locals }
  H_0 := gmark env.locals pv H s.heap
  env := env
  outer := X.stack
  stack := env :: X.stack
  ex := []
  fn := fun _ => true
  calm := true
  pn := []
  xe := fun _ _ => False
/-- a frame of a generator def without cells -/
structure GEnv (N : List Str) (env : Env) : Prop where
  kind : env.scope.kind = .function
  glob : env.globals = mainGlobals
  blt : env.builtins = builtinsNs
  cells : ∀ x, env.cells.lookup x = none
  nocell : ∀ x, env.kindOf x ≠ some .cell ∧ env.kindOf x ≠ some .free
  frame : env.frame = some env.locals
/-- what the frame holds: the slots' values by the object -/
def Slots (N : List Str) (env : Env) (lo : Obj) (σ : St) : Prop := (∀ v, lo.data ≠ .cell v) ∧ σ.length = N.length ∧ ∃ m, (∀ h : Heap, h.get? env.locals = some lo → h.Ns env.locals m) ∧
  ∀ (i : Nat) (x : Str) (v : V), N[i]? = some x → σ[i]? = some (some v) → Vis env.scope x → ∃ u, RelV v u ∧ env.kindOf x = some .local ∧ m x = some u
section
variable {N : List Str} {env : Env} {X : Cx} {pins : List (Addr × Obj)} {σ σg : St} {H H' : Hp} {s s' : Shared} {pv : List Addr} {ip : List (Addr × Obj)}
theorem Slots.of (g : GEnv N env) (I : Inv (gx N env X pv H s) ip σg H' s') : ∃ lo, s'.heap.get? env.locals = some lo ∧ Slots N env lo σg := by
  obtain ⟨m, ⟨o, es, ep, ho, hd, hk, hm⟩, hl⟩ := I.loc
  refine ⟨o, ho, (fun v (z : o.data = .cell v) => by rw [hd] at z; cases z), I.len, m, fun h e => ⟨o, es, ep, e, hd, hk, hm⟩, fun i x v e1 e2 e3 => ?_⟩
  obtain ⟨u, r, l⟩ := hl i x v e1 e2 e3
  refine ⟨u, r, ?_⟩
  rcases l with l | ⟨k, _⟩
  · exact l
  · exact absurd k (fun k => k.elim (g.nocell x).1 (g.nocell x).2)
end
end DL
namespace DL
open PySem L2
open PyProof.Rows hiding St
open Sem (wp)
/-- one stretch of a run, up to its end or to what it hands out -/
def Sg (M : Model) (A : Around) (Φ : End → Shared → Prop) (c : Code) (t : Sem PySem.Fin) (fs : List Frame) (s : Shared) : Prop :=
  ∀ Γ p, Γ.code = c → Γ.Woken A → ∃ e s', Runs M Γ p t fs s e s' ∧ Φ e s'
section
variable {M : Model} {A : Around} {Φ : End → Shared → Prop} {c : Code} {fs : List Frame} {s : Shared}
theorem Sg.mono {Ψ : End → Shared → Prop} {t : Sem PySem.Fin} (h : Sg M A Φ c t fs s) (i : ∀ e s1, Φ e s1 → Ψ e s1) : Sg M A Ψ c t fs s := fun Γ p hc hw => by
  obtain ⟨e, s1, z1, z2⟩ := h Γ p hc hw
  exact ⟨e, s1, z1, i e s1 z2⟩
end
end DL
namespace DL
open PySem L2
open PyProof.Rows hiding St
open Sem (wp)
end DL
namespace DL
open PySem L2
open PyProof.Rows hiding St
open Sem (wp)
end DL
namespace DL
open PySem L2
open PyProof.Rows hiding St
open Sem (wp)
end DL
namespace DL
open PySem L2
open PyProof.Rows hiding St
open Sem (wp)
end DL
namespace DL
open PySem L2
open PyProof.Rows hiding St
open Sem (wp)
end DL
namespace DL
open PySem L2
open PyProof.Rows hiding St
open Sem (wp)
end DL
namespace DL
open PySem PySem.Spec L2
open PyProof.Rows hiding St
section
variable {K : PySem.W.Frag} {ι : List Addr} {H : Hp}
def putD (f : Str) (d : D) : List (Str × D) → List (Str × D)
  | [] => [(f, d)]
  | (g, x) :: r => if g = f then (g, d) :: r else (g, x) :: putD f d r
theorem RepF.put {f : Str} {d : D} {v : V} (rv : RepV K ι H d v) : ∀ {fs : List (Str × D)} {vs : List (Str × V)}, RepF K ι H fs vs → RepF K ι H (putD f d fs) (putF f v vs)
  | [], _, r => by
    rw [RepF] at r
    subst r
    exact RepF.one rv
  | (k, x) :: fs, _, r => by
    rw [RepF] at r
    obtain ⟨u, vs, rfl, rx, rr⟩ := r
    unfold putD putF
    by_cases h : k = f
    · rw [if_pos h, if_pos h, RepF]
      exact ⟨v, vs, rfl, rv, rr⟩
    · rw [if_neg h, if_neg h, RepF]
      exact ⟨u, _, rfl, rx, RepF.put rv rr⟩
theorem RepF.len : ∀ {fs : List (Str × D)} {vs : List (Str × V)}, RepF K ι H fs vs → fs.length = vs.length
  | [], _, r => by rw [RepF] at r; subst r; rfl
  | (k, x) :: fs, _, r => by
    rw [RepF] at r
    obtain ⟨v, vs, rfl, rx, rr⟩ := r
    simp [RepF.len rr]
end
end DL
namespace DL
open PySem PySem.Spec L2
open PyProof.Rows hiding St
end DL
namespace DL
open PySem PySem.Spec L2
open PyProof.Rows hiding St
open Builtin in
theorem extend_tuple_any (l : Addr) (items : Array Value) (n : Nat) (b : Addr) (items2 : Array Value) (n2 : Nat) (od : Option Addr) (sl : Array (Option Value)) (hs0 : ¬(!items.isEmpty && Builtin.List.listTooLong (items.size + items2.size)) = true) (hs1 : items.size ≤ sizeLine) (hs2 : items.size + items2.size ≤ sizeLine + 1) :
    Meets (Builtin.«list.extend» ⟨[.ref l, .ref b], []⟩) (fun _ R s => s.heap.get? l = some { cls := .type "list", dict := none, data := .seq items n, slots := #[] } ∧ s.heap.get? b = some { cls := .type "tuple", dict := od, data := .seq items2 n2, slots := sl } ∧ R (.ok (.ret Value.none)) { s with heap := s.heap.update l (Obj.mapSeq fun x => x ++ items2), toks := s.toks }) :=
  .of_wp fun prog w A R s h => by
    obtain ⟨hp, g, d, tk, os⟩ := s; obtain ⟨hl, hb, h⟩ := h; have f1 := AutoSeq1.idx_int; have f2 := AutoSeq1.sub_tuple_tuple; have f3 := AutoSeq1.sub_list_list; have f4 := AutoSeq1.sub_tuple_list; have f5 := AutoSeq1.sub_list_tuple;
    have hz' : (items ++ items2).size ≤ sizeLine + 1 := by rw [Array.size_append]; exact hs2
    wp_walk using (wpAny_updateSeq hl rfl (hz := hs1) (_hz' := hz')), wpAny_loadPart' hl, wpAny_loadPart' hb; exact ⟨_, rfl, h⟩
def rExtendT (K : PySem.W.Frag) : V → List V → Hp → VK → Prop := fun x vs H Q => ∃ l b xs zs, x = .ref l ∧ vs = [.ref b] ∧ H l = some (.lst xs) ∧ SqT K H b zs ∧ xs.length + zs.length ≤ sizeLine ∧ Q .non (upd H l (.lst (xs ++ zs)))
theorem mt_extendT {X : Cx} : MtR X "list.extend" (rExtendT X.K) := by
  intro pins s σ H x vs v us Q I rx rv h
  obtain ⟨l, b, xs, zs, rfl, rfl, hH, hB, hz, q⟩ := h
  cases rx
  obtain ⟨u, rfl, ru⟩ := rv.one
  cases ru
  obtain ⟨z, its, n, r, hl, e⟩ := I.lstM hH
  obtain ⟨its2, r2, ⟨⟨oc, od, dt, sl⟩, h1, h2, n2, h3⟩, hl2⟩ := I.tuple hB
  simp only at h2 h3
  subst h2 h3
  have hl2' : zs.length = its2.length := r2.length
  have hsz : its.toArray.size + its2.toArray.size ≤ sizeLine := by rw [List.size_toArray, List.size_toArray]; omega
  have hlong : ¬ (!its.toArray.isEmpty && Builtin.List.listTooLong (its.toArray.size + its2.toArray.size)) = true := by
    rw [notLongL hsz, Bool.and_false]
    exact Bool.false_ne_true
  refine call_meets F.slot_list_extend ⟨_, e, rfl⟩ F.entry_list_extend (F.args_list_extend_2 _ _)
    (extend_tuple_any l its.toArray n b its2.toArray n2 od sl hlong (by rw [List.size_toArray]; omega) (by omega)) ⟨e, h1, ?_⟩
  refine ⟨.non, _, I.lset (its' := its ++ its2) hH e (by simp) (r.append r2) ?_, rfl, q⟩
  rw [List.length_append]
  omega
noncomputable def mExtendA : Mt := fun o ds S => match ds with
  | [.tup ys] => (match o with
    | .loc n => (match getL S n with
      | some xs => ifp (xs.length + ys.length ≤ sizeLine) (.ok .non (S.set n (.lst (xs ++ ys)))) .stuck
      | none => .stuck)
    | _ => .stuck)
  | ds => mExtend o ds S
theorem mt_extendA {X : Cx} : MtR X "list.extend" (fun x xs H Q => rExtendT X.K x xs H Q ∨ rExtend x xs H Q) := MtR.or mt_extendT mt_extend
theorem k_extendA {K : PySem.W.Frag} : MtK K (fun x xs H Q => rExtendT K x xs H Q ∨ rExtend x xs H Q) mExtendA := by
  intro W σ ι H S x vs a ds Q s rx rl h
  unfold mExtendA at h
  split at h
  · rename_i ys
    split at h
    · rename_i n
      split at h
      · rename_i xs hL
        unfold ifp at h
        split at h
        · rename_i hz
          obtain ⟨y, rfl, ry⟩ := RepL.one_inv rl
          rw [RepV] at rx
          obtain ⟨p, ea, rfl⟩ := rx
          obtain ⟨us, h1, h2⟩ := s.ob _ _ _ ea (getL_some hL)
          rw [RepV] at ry
          obtain ⟨q, ws, rfl, h3, h4⟩ := ry
          exact .inl ⟨p, q, us, ws, rfl, rfl, h1, h3.sq, by rw [← RepL.length _ _ h2, ← RepL.length _ _ h4]; exact hz, loc_put (xs := xs) h s ea (RepL.app _ _ h2 _ _ h4) non_rep⟩
        · exact h.elim
      · exact h.elim
    · exact h.elim
  · exact .inr (k_extend W σ ι H S x vs a _ Q s rx rl h)
end DL
namespace DL
open PySem PySem.Spec L2
open PyProof.Rows hiding St
noncomputable def B__law_odd : Ev → Sto → SR :=
  (sSeq (sSet 1 (eFl (aCons (eC .non) (aCons (eC (.bl true)) (aCons (eC (.bl false)) (aCons (eNeg (eC (.int 1))) (aCons (eC (.int 0)) (aCons (eC (.int 1)) (aCons (eC (.int 2)) (aCons (eC (.int 5)) (aCons (eC (.int 6)) (aCons (eC (.int 24)) (aCons (eOp dPow (eC (.int 10)) (eC (.int 29))) (aCons (eC (.str "")) (aCons (eC (.str "0")) (aCons (eTup aNil) (aCons (eFl aNil) (aCons eDict0 (aCons (eTup (aCons (eC (.int 0)) aNil)) (aCons (eFl (aCons (eC (.int 0)) aNil)) (aCons (eTup (aCons (eC (.bl true)) aNil)) (aCons (eTup (aCons (eTup aNil) aNil)) (aCons (eC (.str "a")) aNil)))))))))))))))))))))))
    (sRet (eOp dIx (eOp dAdd (eVar 1) (eFl (aCons (eTup (aCons (eC (.int 0)) (aCons (eC (.int 2)) aNil))) (aCons (eC (.fd [((Sum.inr "a"), .int 1)])) (aCons (eTup (aCons (eC (.int 0)) (aCons (eC (.int 0)) (aCons (eC (.int 2)) aNil)))) aNil))))) (eCall F__law_draw (aCons (eVar 0) (aCons (eC (.int 24)) aNil))))))
noncomputable def F__law_odd : Fn := fnC close 2 1 B__law_odd
theorem srcOf_tup (ds : List D) (S : Sto) : srcOf (.tup ds) S = .ok (ds, yes) S := rfl
theorem srcOf_fl (ds : List D) (S : Sto) : srcOf (.fl ds) S = .ok (ds, yes) S := rfl
theorem srcOf_kl (ds : List D) (S : Sto) : srcOf (.kl ds) S = .ok (ds, yes) S := rfl
theorem srcOf_ti (l : List Int) (S : Sto) : srcOf (ti l) S = .ok (l.map D.int, yes) S := rfl
theorem forD_pure {T : Tg} {B Z : Ev → Sto → SR} {S : Sto} (I : Ev → Prop) : ∀ (ds : List D) (ρ : Ev), I ρ → (∀ d ∈ ds, ∀ ρ, I ρ → ∃ ρ1 ρ2, T d ρ S = some (ρ1, S) ∧ (B ρ1 S = .nx ρ2 S ∨ B ρ1 S = .ct ρ2 S) ∧ I ρ2) →
    ∃ ρ', I ρ' ∧ forD yes T B Z ds ρ S = Z ρ' S
  | [], ρ, h, _ => ⟨ρ, h, forD_nil trivial⟩
  | d :: ds, ρ, h, step => by
    obtain ⟨ρ1, ρ2, hT, hB, h2⟩ := step d List.mem_cons_self ρ h
    obtain ⟨ρ', h3, e⟩ := forD_pure I ds ρ2 h2 fun d' hd => step d' (List.mem_cons_of_mem _ hd)
    refine ⟨ρ', h3, ?_⟩
    rw [forD, if_pos (show yes S from trivial), hT]
    rcases hB with hB | hB <;> (simp only [hB]; exact e)
theorem forD_strm {T : Tg} {B Z : Ev → Sto → SR} {rest : Sto} (I : Ev → Prop) (cost : Nat) : ∀ (ds : List D) (ρ : Ev) (S : Sto) (n : Nat), I ρ → Strm S n rest → n + ds.length * cost < 2 ^ 60 →
    (∀ d ∈ ds, ∀ ρ S n, I ρ → Strm S n rest → n + cost < 2 ^ 60 → ∃ ρ1 ρ2 S2, T d ρ S = some (ρ1, S) ∧ (B ρ1 S = .nx ρ2 S2 ∨ B ρ1 S = .ct ρ2 S2) ∧ I ρ2 ∧ Strm S2 (n + cost) rest) →
    ∃ ρ' S', I ρ' ∧ Strm S' (n + ds.length * cost) rest ∧ forD yes T B Z ds ρ S = Z ρ' S'
  | [], ρ, S, n, h, hs, _, _ => ⟨ρ, S, h, by simpa using hs, forD_nil trivial⟩
  | d :: ds, ρ, S, n, h, hs, hn, step => by
    have e1 : n + (d :: ds).length * cost = n + cost + ds.length * cost := by simp [Nat.add_mul]; omega
    rw [e1] at hn ⊢
    obtain ⟨ρ1, ρ2, S2, hT, hB, h2, s2⟩ := step d List.mem_cons_self ρ S n h hs (by omega)
    obtain ⟨ρ', S', h3, s3, e⟩ := forD_strm I cost ds ρ2 S2 (n + cost) h2 s2 hn fun d' hd => step d' (List.mem_cons_of_mem _ hd)
    refine ⟨ρ', S', h3, s3, ?_⟩
    rw [forD, if_pos (show yes S from trivial), hT]
    rcases hB with hB | hB <;> (simp only [hB]; exact e)
def pl : D → Bool
  | .non => true
  | .bl _ => true
  | .int _ => true
  | .str _ => true
  | .tup _ => true
  | .fl _ => true
  | .fd _ => true
  | _ => false
theorem kt1 : kitB "NoneType" "int" = some false := by decide +kernel
theorem kt2 : kitB "bool" "int" = some true := by decide +kernel
theorem kt3 : kitB "int" "int" = some true := by decide +kernel
theorem kt4 : kitB "str" "int" = some false := by decide +kernel
theorem kt5 : kitB "tuple" "int" = some false := by decide +kernel
theorem kt6 : kitB "list" "int" = some false := by decide +kernel
theorem kt7 : kitB "dict" "int" = some false := by decide +kernel
theorem kv1 : kitB "NoneType" "tuple" = some false := by decide +kernel
theorem kv2 : kitB "bool" "tuple" = some false := by decide +kernel
theorem kv3 : kitB "int" "tuple" = some false := by decide +kernel
theorem kv4 : kitB "str" "tuple" = some false := by decide +kernel
theorem kv5 : kitB "tuple" "tuple" = some true := by decide +kernel
theorem kv6 : kitB "list" "tuple" = some false := by decide +kernel
theorem kv7 : kitB "dict" "tuple" = some false := by decide +kernel
def isInt0 : D → Bool
  | .int _ => true
  | .bl _ => true
  | _ => false
def isTup : D → Bool
  | .tup _ => true
  | _ => false
theorem isi_int {v : D} (h : pl v = true) (S : Sto) : bIsi [v, .ty "int"] S = .ok (.bl (isInt0 v)) S := by
  cases v <;> first | (simp [pl] at h; done) | (simp only [bIsi, tyOf, kt1, kt2, kt3, kt4, kt5, kt6, kt7, isInt0])
theorem isi_tup {v : D} (h : pl v = true) (S : Sto) : bIsi [v, .ty "tuple"] S = .ok (.bl (isTup v)) S := by
  cases v <;> first | (simp [pl] at h; done) | (simp only [bIsi, tyOf, kv1, kv2, kv3, kv4, kv5, kv6, kv7, isTup])
structure Shw (b k : Nat) (d : D) : Prop where
  ok : rok d = true
  bulk : bulkD d ≤ b
  dep : depD d ≤ k
theorem Shw.mono {b b' k k' : Nat} {d : D} (h : Shw b k d) (hb : b ≤ b') (hk : k ≤ k') : Shw b' k' d := ⟨h.ok, Nat.le_trans h.bulk hb, Nat.le_trans h.dep hk⟩
theorem repr_s {b k : Nat} {d : D} (h : Shw b k d) (hb : b ≤ 8000) (hk : k ≤ 60) (S : Sto) : bRepr [d] S = .ok (.str (shD d)) S := repr_d h.ok (Nat.le_trans h.bulk hb) (Nat.le_trans h.dep hk) S
theorem shw_bl {b : Bool} : Shw 0 0 (.bl b) := ⟨rfl, by simp [bulkD], by simp [depD]⟩
def oddL : List D := [.non, .bl true, .bl false, .int (-1), .int 0, .int 1, .int 2, .int 5, .int 6, .int 24, .int (10 ^ 29), .str "", .str "0", .tup [], .fl [], .fd [], .tup [.int 0], .fl [.int 0], .tup [.bl true], .tup [.tup []], .str "a", .tup [.int 0, .int 2], .fd [(.inr "a", .int 1)], .tup [.int 0, .int 0, .int 2]]
theorem odd_shw : ∀ d ∈ oddL, Shw 3 2 d := by
  have h1 : oddL.all (fun d => rok d && decide (bulkD d ≤ 3) && decide (depD d ≤ 2)) = true := by decide +kernel
  intro d hd
  have := List.all_eq_true.mp h1 d hd
  simp only [Bool.and_eq_true, decide_eq_true_eq] at this
  exact ⟨this.1.1, this.1.2, this.2⟩
theorem odd_ok {S : Sto} {n : Nat} {rest : Sto} (h : Strm S n rest) (hn : n < 2 ^ 60) : ∃ d S', F__law_odd [.loc 1] S = .ok d S' ∧ d ∈ oddL ∧ Strm S' (n + 1) rest := by
  obtain ⟨z, S', h1, h2, h3, h4⟩ := draw_ok h (m := 24) (by decide) (by decide) hn
  have hz : (z.toNat) < oddL.length := by
    show z.toNat < 24
    omega
  refine ⟨oddL[z.toNat], S', ?_, List.getElem_mem hz, h4⟩
  refine fnC_rt rfl ?_ (by rw [h4.len, h.len])
  unfold B__law_odd
  have hp : ∀ S, dPow (.int 10) (.int 29) S = .ok (.int (10 ^ 29)) S := fun S => dPow_ok ⟨by decide, by decide, by decide⟩ S
  have ha : ∀ S, dAdd (.fl [.non, .bl true, .bl false, .int (-1), .int 0, .int 1, .int 2, .int 5, .int 6, .int 24, .int (10 ^ 29), .str "", .str "0", .tup [], .fl [], .fd [], .tup [.int 0], .fl [.int 0], .tup [.bl true], .tup [.tup []], .str "a"]) (.fl [.tup [.int 0, .int 2], .fd [(.inr "a", .int 1)], .tup [.int 0, .int 0, .int 2]]) S = .ok (.fl oddL) S := fun S => ifp_pos (by show 24 ≤ sizeLine; decide)
  have hx : dIx (.fl oddL) (.int z) S' = .ok oddL[z.toNat] S' := dIx_fl (by rw [atI_nn h2 (by show z < 24; omega)]; exact List.getElem?_eq_getElem hz)
  simp only [eVar, eC, eOp, eT, eAnd, eOr, eNot, eIf, eAndV, eOrV, eNotV, eCall, aNil, aCons, aStar, sOf, eTup, eFl, eLoc, eSl, oNone, oSome, iOf, eNeg, eChain, eMt, bOf, eDict0, eRev, eListRg, iZipD, sRaise1, sRaise0, eCallV, List.lookup, R.bind_ok, R.bind_er, R.bind_stuck, R.toS_ok, R.toS_er, R.toS_stuck, SR.next_nx, SR.next_rt, SR.next_er, SR.next_bk, SR.next_ct, SR.next_stuck, sNil, sSeq, sBrk, sCnt, sExp, sRet, sRetN, sIf, sSet, sAsg, sAug, sPar2, sPar3, tN, DL.tTup, DL.tNil, DL.tCons, DL.tSub, iSeq, srcOf, iRange1, iRange2, sFor, startD, List.map_cons, List.map_nil, List.length_cons, List.length_nil, List.replicate, List.cons_append, List.nil_append, List.getElem?_cons_zero, List.getElem?_cons_succ, List.set_cons_zero, List.set_cons_succ, dSub_int, dFdiv_int, dMod_int, dLt_int, dLe_int, dGt_int, dGe_int, dAddI_int, dSubI_int, dIsN_non, isN, dAdd_int, ll0, ll1, ll2, ll3, ll4, ll5, ll6, ll7, ll8, ll9, ll10, ll11, ll12, ll13, ll14, ll15, ll16, ll17, ll18, ll19, ll20, ll21, ll22, ll23, ll24, ll25, ll26, ll27, ll28, ll29, ll30, ll31, ll32, ll33, ll34, ll35, ll36, ll37, ll38, ll39, ll40, Nat.reduceSub, Nat.reduceAdd, Nat.reduceEqDiff, if_true, if_false, ifp_t, ifp_f, reduceIte, Bool.true_eq_false, Bool.false_eq_true, Option.map_some, Option.map_none, Option.bind_some, Option.bind_none, hp, ha, h1, hx]
end DL
namespace DL
open PySem PySem.Spec L2
open PyProof.Rows hiding St
theorem listRg_ok (n : Nat) (hn : n ≤ 10 ^ 6) (S : Sto) : (ifp (RgOk 0 n) (mkFl (rangeD 0 (n : Int).toNat) S) .stuck : R D) = .ok (.fl (rangeD 0 n)) S := by
  rw [ifp_pos (RgOk.of_le (by omega) (by omega) (by omega) (by omega))]
  simp [mkFl]
theorem add_fl (xs ys : List D) (h : xs.length + ys.length ≤ 10 ^ 6) (S : Sto) : dAdd (.fl xs) (.fl ys) S = .ok (.fl (xs ++ ys)) S := by
  show ifp (xs.length + ys.length ≤ sizeLine) (R.ok (D.fl (xs ++ ys)) S) .stuck = _
  exact ifp_pos (Nat.le_trans h (by decide))
theorem rangeD_cons (lo : Int) (n : Nat) : rangeD lo (n + 1) = .int lo :: rangeD (lo + 1) n := by
  unfold rangeD
  rw [List.range_succ_eq_map, List.map_cons, List.map_map]
  congr 1
  · simp
  · apply List.map_congr_left
    intro k _
    simp only [Function.comp_apply, Nat.succ_eq_add_one, Int.natCast_add, Int.natCast_one]
    congr 1
    omega
end DL
namespace DL
open PySem PySem.Spec L2
open PyProof.Rows hiding St
def rp (e : Int × Int) (n : Int) : Int × Int := if n = 0 then (0, 0) else if 0 ≤ (n - 1) * (e.2 - e.1) then (e.1, e.2 + (n - 1) * (e.2 - e.1)) else (e.1 - (n - 1) * (e.2 - e.1), e.2)
def dp (e : Int × Int) : D := .tup [.int e.1, .int e.2]
theorem shw_text (x : String) : Shw x.length 0 (.str x) := by
  have e : ∀ x : String, (Str.ofString x).cps.toList = x.toList.map Char.toNat := fun x => by
    rw [PySem.Str.ofString_eq_byList]; rfl
  refine ⟨?_, ?_, by simp [depD]⟩
  · show ((Str.ofString x).cps.toList.all fun c => decide (c < 16 ^ 8)) = true
    rw [e]
    rw [List.all_eq_true]
    intro c hc
    obtain ⟨d, _, rfl⟩ := List.mem_map.mp hc
    rw [decide_eq_true_eq]
    exact d.val.toNat_lt
  · show (Str.ofString x).cps.size ≤ x.length
    rw [← Array.length_toList, e, List.length_map]
    exact Nat.le_of_eq (String.length_toList)
def wh (v : D) : Bool := match v with
  | .int i => decide (0 ≤ i)
  | _ => false
end DL
namespace DL
open PySem PySem.Spec L2
open PyProof.Rows hiding St
end DL
namespace DL
open PySem PySem.Spec L2
open PyProof.Rows hiding St
/-- beginnings with their gaps; f is the first of all -/
def un (n f : Nat) : List Nat → List (Nat × Nat)
  | [] => []
  | [b] => [(b, n + f - b)]
  | b :: c :: r => (b, c - b) :: un n f (c :: r)
end DL
namespace DL
open PySem PySem.Spec L2
open PyProof.Rows hiding St
def toks (fs : List (Int × Int)) : List Int := (fs.map fun e => List.replicate e.2.toNat e.1).flatten
def len (fs : List (Int × Int)) : Int := (fs.map fun e => e.2).sum
end DL
namespace DL
open PySem PySem.Spec L2
open PyProof.Rows hiding St
theorem append_at {S : Sto} {n : Nat} {ds : List D} {d : D} (h : getL S n = some ds) (hl : ds.length < 10 ^ 6) : mAppend (.loc n) [d] S = .ok .non (S.set n (.lst (ds ++ [d]))) := by
  show (match getL S n with
    | some xs => ifp (xs.length < sizeLine) (R.ok D.non (S.set n (.lst (xs ++ [d])))) .stuck
    | none => .stuck) = _
  rw [h]
  exact ifp_pos (Nat.lt_of_lt_of_le hl (by decide))
theorem isLst_at {S : Sto} {n : Nat} {ds : List D} (h : getL S n = some ds) : isLst S (.loc n) = true := by
  unfold isLst
  rw [show lstOf S (.loc n) = some ds from h]; rfl
end DL
namespace DL
open PySem PySem.Spec L2
open PyProof.Rows hiding St
theorem fnC_strm {n m : Nat} {B : Ev → Sto → SR} {ds : List D} {S S6 : Sto} {d : D} {n0 k : Nat} {rest l : Sto} (h : Strm S n0 rest) (h6 : Strm S6 k (rest ++ l)) (hl : l ≠ []) (hm : ds.length = m) (hB : B (startD n ds) S = .rt d S6) (hd : low S.length d = true) :
    fnC close n m B ds S = .ok d (S6.take S.length) ∧ Strm (S6.take S.length) k rest := by
  obtain ⟨q1, q2⟩ := h.trunc h6
  refine ⟨?_, q2⟩
  unfold fnC
  rw [if_pos hm, hB]
  show close S d S6 = _
  unfold close
  have : 0 < l.length := List.length_pos_iff.mpr hl
  rw [if_neg (by rw [h6.len, h.len, List.length_append]; omega), if_pos ⟨q1, hd⟩]
end DL
namespace DL
open PySem PySem.Spec L2
open PyProof.Rows hiding St
def lo : Int → Int → List (Int × Int) → Int
  | _, m, [] => m
  | h, m, e :: r => lo (h + (1 - e.1) * e.2) (min m (h + (1 - e.1) * e.2)) r
def addR (f : List (Int × Int)) (s m : Int) : List (Int × Int) := if 0 < m then (match f.getLast? with
    | some q => if q.2 = s - 1 then f.dropLast ++ [(q.1, s + m - 1)] else f ++ [(s, s + m - 1)]
    | none => [(s, s + m - 1)]) else f
def rg (ps : List Nat) : List (Int × Int) := ps.foldl (fun f (p : Nat) => addR f (p : Int) 1) []
theorem add_tup (a b : List D) (h : a.length + b.length ≤ 10 ^ 6) (S : Sto) : dAdd (.tup a) (.tup b) S = .ok (.tup (a ++ b)) S := by
  show ifp (a.length + b.length ≤ sizeLine) (R.ok (D.tup (a ++ b)) S) .stuck = _
  exact ifp_pos (Nat.le_trans h (by decide))
end DL
namespace DL
open PySem PySem.Spec L2
open PyProof.Rows hiding St
def spr (e : Int × Int) : List Int := (List.range (e.2 - e.1 + 1).toNat).map fun (k : Nat) => e.1 + (k : Int)
theorem spr_len (e : Int × Int) : (spr e).length = (e.2 - e.1 + 1).toNat := by unfold spr; simp
structure Rgs (f : List (Int × Int)) (ps : List Int) : Prop where
  sp : f.flatMap spr = ps
  le : ∀ e ∈ f, e.1 ≤ e.2
  gap : f.Pairwise fun a b => a.2 + 2 ≤ b.1
theorem Rgs.len {f : List (Int × Int)} {ps : List Int} (h : Rgs f ps) : (f.map fun e => e.2 - e.1 + 1).sum = (ps.length : Int) := by
  obtain ⟨sp, le, gap⟩ := h
  subst sp
  clear gap
  induction f with
  | nil => rfl
  | cons e f ih =>
    have he := le e List.mem_cons_self
    have := ih fun x hx => le x (List.mem_cons_of_mem _ hx)
    rw [List.map_cons, List.sum_cons, List.flatMap_cons, List.length_append, spr_len, Int.natCast_add, this]
    omega
end DL
namespace DL
open PySem PySem.Spec L2
open PyProof.Rows hiding St
/-- the same for a run -/
def tu (h a c : Int) : Option Int := if a = 0 ∨ (a = 1 ∧ 0 < h) then none else if (if a = 1 then 1 else max 1 ((h + a - 2) / (a - 1))) ≤ c then some (if a = 1 then 1 else max 1 ((h + a - 2) / (a - 1))) else none
end DL
namespace DL
open PySem PySem.Spec L2
open PyProof.Rows hiding St
theorem bulk_app : ∀ (a b : List D), bulkL (a ++ b) = bulkL a + bulkL b
  | [], b => by simp [bulkL]
  | d :: a, b => by rw [List.cons_append, bulkL, bulkL, bulk_app a b]; omega
end DL
namespace DL
open PySem PySem.Spec L2
open PyProof.Rows hiding St
def okS (x : Str) : Prop := ∀ c ∈ x.cps.toList, c < 16 ^ 8
end DL
namespace DL
open PySem PySem.Spec L2
open PyProof.Rows hiding St
/-- what a stack keeps and gives when t are taken -/
def kept (st : List Nat) (t : Nat) : List Nat := st.take (st.length - t)
end DL
namespace DL
open PySem PySem.Spec L2
open PyProof.Rows hiding St
theorem pop_end {S : Sto} {n : Nat} {xs : List D} {y : D} (h : getL S n = some (xs ++ [y])) : mPop (.loc n) [] S = .ok y (S.set n (.lst xs)) := by
  show (match getL S n with
    | some xs => (match xs[xs.length - 1]? with
      | some y => R.ok y (S.set n (.lst xs.dropLast))
      | none => .stuck)
    | none => .stuck) = _
  rw [h]
  simp
end DL
namespace DL
open PySem PySem.Spec L2
open PyProof.Rows hiding St
end DL
namespace DL
open PySem PySem.Spec L2
open PyProof.Rows hiding St
end DL
namespace DL
open PySem PySem.Spec L2
open PyProof.Rows hiding St
/-- a comprehension whose parts change nothing and read the store -/
theorem compD_at {T : Tg} {c : Ev → Sto → R Bool} {f : Ev → Sto → R D} {ρ : Ev} (ρd : D → Ev) (p : D → Bool) (e : D → D) (S : Sto) : ∀ (ds acc : List D),
    (∀ d ∈ ds, ∀ a, T d ρ (S ++ [.lst a]) = some (ρd d, S ++ [.lst a]) ∧ c (ρd d) (S ++ [.lst a]) = .ok (p d) (S ++ [.lst a]) ∧ (p d = true → f (ρd d) (S ++ [.lst a]) = .ok (e d) (S ++ [.lst a]))) → acc.length + ds.length ≤ sizeLine →
    compD yes T c f S.length ρ ds (S ++ [.lst acc]) = some (S ++ [.lst (acc ++ (ds.filter p).map e)])
  | [], acc, _, _ => by rw [compD, if_pos (show yes _ from trivial)]; simp
  | d :: ds, acc, h, hl => by
    obtain ⟨h1, h2, h3⟩ := h d List.mem_cons_self acc
    have hl' : acc.length + (ds.length + 1) ≤ sizeLine := hl
    rw [compD, if_pos (show yes _ from trivial), h1]
    simp only [h2]
    cases hp : p d with
    | false =>
      rw [if_neg (by decide)]
      rw [compD_at ρd p e S ds acc (fun x hx => h x (List.mem_cons_of_mem _ hx)) (by omega)]
      simp [List.filter, hp]
    | true =>
      rw [if_pos rfl]
      simp only [h3 hp, getL_end, set_end]
      rw [ifp_pos (by omega)]
      rw [compD_at ρd p e S ds (acc ++ [e d]) (fun x hx => h x (List.mem_cons_of_mem _ hx)) (by simp; omega)]
      simp [List.filter, hp]
theorem eLc_at {src : Ev → Sto → R Src} {T : Tg} {vs : List Nat} {c : Ev → Sto → R Bool} {f : Ev → Sto → R D} {ρ : Ev} {S : Sto} (ds : List D) (ρd : D → Ev) (p : D → Bool) (e : D → D) (hs : src ρ S = .ok (ds, yes) S)
    (h : ∀ d ∈ ds, ∀ a, T d (wipeD ρ vs) (S ++ [.lst a]) = some (ρd d, S ++ [.lst a]) ∧ c (ρd d) (S ++ [.lst a]) = .ok (p d) (S ++ [.lst a]) ∧ (p d = true → f (ρd d) (S ++ [.lst a]) = .ok (e d) (S ++ [.lst a]))) (hl : ds.length ≤ sizeLine) (hlow : ∀ d ∈ ds, p d = true → low S.length (e d) = true) :
    eLc finFl src T vs c f ρ S = .ok (.fl ((ds.filter p).map e)) S := by
  unfold eLc
  rw [hs]
  show (match compD yes T c f S.length (wipeD ρ vs) ds (S ++ [Ob.lst []]) with
    | some S2 => finFl S S2
    | none => .stuck) = _
  rw [compD_at ρd p e S ds [] h (by simpa using hl)]
  simp only [List.nil_append]
  refine finFl_end (lowL_of fun d hd => ?_)
  obtain ⟨x, hx, rfl⟩ := List.mem_map.mp hd
  obtain ⟨h1, h2⟩ := List.mem_filter.mp hx
  exact hlow x h1 h2
end DL
namespace DL
open PySem PySem.Spec L2
open PyProof.Rows hiding St
end DL
namespace DL
open PySem PySem.Spec L2
open PyProof.Rows hiding St
end DL
namespace DL
open PySem PySem.Spec L2
open PyProof.Rows hiding St
end DL
namespace DL
open PySem PySem.Spec L2
open PyProof.Rows hiding St
end DL
namespace DL
open PySem PySem.Spec L2
open PyProof.Rows hiding St
def po : Str := "("
theorem sz : 10 ^ 6 ≤ sizeLine := by decide
theorem sl_str {w : Str} (h : w.length ≤ 10 ^ 6) (lo hi : Option Int) (S : Sto) : dSl mkFl (.str w) lo hi S = .ok (.str (cutS w lo hi)) S := ifp_pos (Nat.le_trans h (by decide))
/-- letters alone -/
def ltS (w : Str) : Prop := ∀ c ∈ w.cps.toList, 97 ≤ c ∧ c ≤ 122
theorem ltS.ok {w : Str} (h : ltS w) : okS w := fun c hc => Nat.lt_of_le_of_lt (h c hc).2 (by decide)
structure Gt (n : Nat) (w : Str) : Prop where
  lt : ltS w
  len : w.length ≤ n
theorem Gt.ok {n : Nat} {w : Str} (h : Gt n w) : okS w := h.lt.ok
theorem law_num {m N cost : Nat} {L : Ev → Sto → SR} (I : Option D → Ev → Prop) (hm : 2 ≤ m) (hN : (N : Int) < 2 ^ 62) (h0 : ∀ sc, I sc (sc :: some (.loc 1) :: List.replicate (m - 2) none)) (hc : N * cost < 2 ^ 60)
    (step : ∀ sc (i : Nat) ρ S n, i < N → I sc ρ → Strm S n [] → n + cost < 2 ^ 60 → ∃ ρ2 S2, L (ρ.set 2 (some (.int (i : Int)))) S = .nx ρ2 S2 ∧ I sc ρ2 ∧ Strm S2 (n + cost) []) :
    LawOk (fnC close m 1 (sSeq (sSet 1 (eCall F__law_stream (aCons (eVar 0) aNil))) (sSeq (sFor (iRange1 (aCons (eC (.int N)) aNil)) (tN 2) L sNil) (sRet (eC (.bl true)))))) := law_by fun ns hl _ => by
  obtain ⟨S0, h1, s0⟩ := stream_ok hl
  obtain ⟨ρ', S', _, _, hf⟩ := forD_strm (T := tN 2) (B := L) (Z := sNil) (rest := []) (I (some (.kl (ns.map D.int)))) cost (rangeD 0 N) (some (.kl (ns.map D.int)) :: some (.loc 1) :: List.replicate (m - 2) none) S0 0 (h0 _) s0 (by rw [rangeD_len]; omega) (by
    intro d hd ρ S n hI hS hn
    obtain ⟨k, hk⟩ := List.mem_iff_getElem?.mp hd
    obtain ⟨hk', rfl⟩ := rangeD_get hk
    rw [Int.zero_add]
    obtain ⟨ρ2, S2, e, i2, s2⟩ := step _ k ρ S n hk' hI hS hn
    exact ⟨_, ρ2, S2, rfl, .inl e, i2, s2⟩)
  refine ⟨S', ?_⟩
  have hst : startD m [D.kl (ns.map D.int)] = some (.kl (ns.map D.int)) :: none :: List.replicate (m - 2) none := by
    obtain ⟨k, rfl⟩ : ∃ k, m = k + 2 := ⟨m - 2, by omega⟩
    simp [startD, List.replicate_succ]
  rw [hst]
  have hr : ((-(2 ^ 62) : Int) ≤ (N : Int) ∧ (N : Int) < 2 ^ 62) = True := by simp; omega
  simp only [eVar, eC, eOp, eT, eAnd, eOr, eNot, eIf, eAndV, eOrV, eNotV, eCall, aNil, aCons, aStar, sOf, eTup, eFl, eLoc, eSl, oNone, oSome, iOf, eNeg, eChain, eMt, bOf, eDict0, eRev, eListRg, iZipD, sRaise1, sRaise0, eCallV, List.lookup, R.bind_ok, R.bind_er, R.bind_stuck, R.toS_ok, R.toS_er, R.toS_stuck, SR.next_nx, SR.next_rt, SR.next_er, SR.next_bk, SR.next_ct, SR.next_stuck, sNil, sSeq, sBrk, sCnt, sExp, sRet, sRetN, sIf, sSet, sAsg, sAug, sPar2, sPar3, tN, DL.tTup, DL.tNil, DL.tCons, DL.tSub, iSeq, srcOf_tup, srcOf_fl, srcOf_kl, srcOf_ti, iRange1, iRange2, sFor, startD, List.map_cons, List.map_nil, List.length_cons, List.length_nil, List.replicate, List.cons_append, List.nil_append, List.getElem?_cons_zero, List.getElem?_cons_succ, List.set_cons_zero, List.set_cons_succ, dSub_int, dFdiv_int, dMod_int, dLt_int, dLe_int, dGt_int, dGe_int, dAddI_int, dSubI_int, dIsN_non, isN, dAdd_int, ll0, ll1, ll2, ll3, ll4, ll5, ll6, ll7, ll8, ll9, ll10, ll11, ll12, ll13, ll14, ll15, ll16, ll17, ll18, ll19, ll20, ll21, ll22, ll23, ll24, ll25, ll26, ll27, ll28, ll29, ll30, ll31, ll32, ll33, ll34, ll35, ll36, ll37, ll38, ll39, ll40, Nat.reduceSub, Nat.reduceAdd, Nat.reduceEqDiff, if_true, if_false, ifp_t, ifp_f, reduceIte, Bool.true_eq_false, Bool.false_eq_true, Option.map_some, Option.map_none, Option.bind_some, Option.bind_none, tSq, sSet2, seqOf_fl, seqOf_tup, seqOf_ti, h1, hr, Int.toNat_natCast, hf]
end DL
namespace DL
open PySem PySem.Spec L2
open PyProof.Rows hiding St
noncomputable def E1__law_nested (rec : Fn) (ρ : Ev) (S : Sto) : R D :=
  (eCall rec (aCons (eVar 0) (aCons (eVar 2) aNil))) ρ S
noncomputable def B__law_nested (rec : Fn) : Ev → Sto → SR :=
  (sRet (eCall bTuple (aCons (eLc finFl (iSeq (eOp dIx (eVar 0) (eVar 1))) (tN 2) [2] cYes (E1__law_nested rec)) aNil)))
noncomputable def F__law_nested : Nat → Fn
  | 0 => fun _ _ => .stuck
  | n + 1 => fnC close 3 2 (B__law_nested (F__law_nested n))
noncomputable def E1__law_tree (ρ : Ev) (S : Sto) : R D :=
  (eLoc aNil) ρ S
noncomputable def E2__law_tree (ρ : Ev) (S : Sto) : R D :=
  (eVar 8) ρ S
noncomputable def Q1__law_tree (ρ : Ev) (S : Sto) : R Bool :=
  (eT (eOp dLt (eCall bLen (aCons (eOp dIx (eVar 5) (eVar 8)) aNil)) (eC (.int 5)))) ρ S
noncomputable def L1__law_tree (ρ : Ev) (S : Sto) : SR :=
  (sSeq (sSet 6 (eOp dIx (eFl (aCons (eOp dSub (eVar 4) (eC (.int 1))) (aCons (eC (.int 0)) (aCons (eCall F__law_draw (aCons (eVar 0) (aCons (eVar 4) aNil))) (aCons (eCall bMax (aCons (eC (.int 0)) (aCons (eOp dSub (eOp dSub (eVar 4) (eC (.int 1))) (eCall F__law_draw (aCons (eVar 0) (aCons (eC (.int 3)) aNil)))) aNil))) aNil))))) (eVar 3)))
    (sSeq (sSet 7 (eLc finFl (iSeq (eOp dAdd (eFl (aCons (eVar 6) aNil)) (eListRg mkFl (eVar 4)))) (tN 8) [8] Q1__law_tree E2__law_tree))
    (sExp (eMt isLst mAppend (eOp dIx (eVar 5) (eOp dIx (eVar 7) (eC (.int 0)))) (aCons (eVar 4) aNil))))) ρ S
noncomputable def B__law_tree : Ev → Sto → SR :=
  (sSeq (sPar2 2 3 (aCons (eOp dAdd (eC (.int 1)) (eCall F__law_draw (aCons (eVar 0) (aCons (eVar 1) aNil)))) (aCons (eCall F__law_draw (aCons (eVar 0) (aCons (eC (.int 4)) aNil))) aNil)))
    (sSeq (sSet 5 (eLc finLoc (iRange1 (aCons (eVar 2) aNil)) (tN 4) [4] cYes E1__law_tree))
    (sSeq (sFor (iRange2 (aCons (eC (.int 1)) (aCons (eVar 2) aNil))) (tN 4) L1__law_tree sNil)
    (sRet (eCall (F__law_nested 40) (aCons (eVar 5) (aCons (eC (.int 0)) aNil)))))))
noncomputable def F__law_tree : Fn := fnC close 9 2 B__law_tree
theorem Strm.get_mid {S : Sto} {n : Nat} {rest l : Sto} {j : Nat} {ds : List D} (h : Strm S n (rest ++ l)) (e : l[j]? = some (.lst ds)) : getL S (rest.length + 2 + j) = some ds := by
  obtain ⟨b, c, t, rfl, o⟩ := h
  refine getL_of ?_
  have : rest.length + 2 + j = (rest.length + j) + 2 := by omega
  rw [this]
  show (rest ++ l)[rest.length + j]? = _
  rw [List.getElem?_append_right (by omega)]
  rw [show rest.length + j - rest.length = j by omega]
  exact e
theorem Strm.getQ_mid {S : Sto} {n : Nat} {rest l : Sto} {j : Nat} {ds : List D} (h : Strm S n (rest ++ l)) (e : l[j]? = some (.lst ds)) : getQ S (rest.length + 2 + j) = some ds := getQ_of (getL_some (h.get_mid e))
theorem Strm.set_mid {S : Sto} {n : Nat} {rest l : Sto} (h : Strm S n (rest ++ l)) (j : Nat) (o : Ob) : Strm (S.set (rest.length + 2 + j) o) n (rest ++ l.set j o) := by
  obtain ⟨b, c, t, rfl, k⟩ := h
  refine ⟨b, c, t, ?_, k⟩
  have : rest.length + 2 + j = (rest.length + j) + 2 := by omega
  rw [this]
  show Ob.lst _ :: Ob.lst _ :: (rest ++ l).set (rest.length + j) o = _
  rw [List.set_append_right _ _ (by omega)]
  rw [show rest.length + j - rest.length = j by omega]
  rfl
inductive Tre where
  | nd (cs : List Tre)
mutual
def Tre.d : Tre → D
  | .nd cs => .tup (Tre.ds cs)
def Tre.ds : List Tre → List D
  | [] => []
  | t :: ts => t.d :: Tre.ds ts
end
mutual
def Tre.sz : Tre → Nat
  | .nd cs => 1 + Tre.szs cs
def Tre.szs : List Tre → Nat
  | [] => 0
  | t :: ts => t.sz + Tre.szs ts
end
mutual
def Tre.row : Tre → List Int
  | .nd cs => Tre.rows cs ++ [(cs.length : Int)]
def Tre.rows : List Tre → List Int
  | [] => []
  | t :: ts => t.row ++ Tre.rows ts
end
mutual
def Tre.ok : Tre → Prop
  | .nd cs => cs.length ≤ 5 ∧ Tre.oks cs
def Tre.oks : List Tre → Prop
  | [] => True
  | t :: ts => t.ok ∧ Tre.oks ts
end
theorem Tre.ds_eq : ∀ cs : List Tre, Tre.ds cs = cs.map Tre.d
  | [] => rfl
  | t :: ts => by rw [Tre.ds, Tre.ds_eq ts]; rfl
theorem Tre.szs_eq : ∀ cs : List Tre, Tre.szs cs = (cs.map Tre.sz).sum
  | [] => rfl
  | t :: ts => by rw [Tre.szs, Tre.szs_eq ts]; rfl
theorem Tre.oks_of : ∀ {cs : List Tre}, (∀ t ∈ cs, t.ok) → Tre.oks cs
  | [], _ => by rw [Tre.oks]; trivial
  | t :: ts, h => by
    rw [Tre.oks]
    exact ⟨h t List.mem_cons_self, Tre.oks_of fun x hx => h x (List.mem_cons_of_mem _ hx)⟩
mutual
theorem Tre.bulk : ∀ t : Tre, bulkD t.d + 1 = t.sz
  | .nd cs => by rw [Tre.d, Tre.sz, bulkD, Tre.bulks cs]; omega
theorem Tre.bulks : ∀ ts : List Tre, bulkL (Tre.ds ts) = Tre.szs ts
  | [] => by rw [Tre.ds, Tre.szs, bulkL]
  | t :: ts => by rw [Tre.ds, Tre.szs, bulkL, Tre.bulk t, Tre.bulks ts]
end
mutual
theorem Tre.dep : ∀ t : Tre, depD t.d ≤ t.sz
  | .nd cs => by
    rw [Tre.d, Tre.sz, depD]
    have := Tre.deps cs
    omega
theorem Tre.deps : ∀ ts : List Tre, depL (Tre.ds ts) ≤ Tre.szs ts
  | [] => by rw [Tre.ds, depL]; omega
  | t :: ts => by
    rw [Tre.ds, Tre.szs, depL]
    have := Tre.dep t
    have := Tre.deps ts
    omega
end
mutual
theorem Tre.rok : ∀ t : Tre, DL.rok t.d = true
  | .nd cs => by rw [Tre.d, DL.rok, Tre.roks cs]
theorem Tre.roks : ∀ ts : List Tre, rokL (Tre.ds ts) = true
  | [] => by rw [Tre.ds]; rfl
  | t :: ts => by rw [Tre.ds, rokL, Tre.rok t, Tre.roks ts]; rfl
end
mutual
theorem Tre.low : ∀ (n : Nat) (t : Tre), DL.low n t.d = true
  | n, .nd cs => by rw [Tre.d, DL.low, Tre.lows n cs]
theorem Tre.lows : ∀ (n : Nat) (ts : List Tre), lowL n (Tre.ds ts) = true
  | n, [] => by rw [Tre.ds]; rfl
  | n, t :: ts => by rw [Tre.ds, lowL, Tre.low n t, Tre.lows n ts]; rfl
end
def bt (B : List (List Nat)) : Nat → Nat → Tre
  | 0, _ => .nd []
  | f + 1, i => .nd ((B.getD i []).map (bt B f))
structure Blw (B : List (List Nat)) (m : Nat) : Prop where
  up : ∀ (i : Nat) (b : List Nat), B[i]? = some b → ∀ c ∈ b, i < c ∧ c < m
  wide : ∀ b ∈ B, b.length ≤ 5
  perm : B.flatten.Perm (List.range' 1 (m - 1))
  pos : 1 ≤ m
  len : m ≤ B.length
theorem bt_ok {B : List (List Nat)} (hw : ∀ b ∈ B, b.length ≤ 5) : ∀ (f i : Nat), (bt B f i).ok
  | 0, _ => by rw [bt, Tre.ok]; exact ⟨by simp, by rw [Tre.oks]; trivial⟩
  | f + 1, i => by
    rw [bt, Tre.ok]
    refine ⟨?_, Tre.oks_of fun t ht => ?_⟩
    · rw [List.length_map, List.getD_eq_getElem?_getD]
      cases e : B[i]? with
      | none => simp
      | some b => exact hw b (List.mem_of_getElem? e)
    · obtain ⟨c, _, rfl⟩ := List.mem_map.mp ht
      exact bt_ok hw f c
theorem bt_same {B : List (List Nat)} {m : Nat} (h : Blw B m) : ∀ (f g i : Nat), m - i ≤ f → m - i ≤ g → i < m → bt B f i = bt B g i
  | 0, g, i, hf, _, hi => by omega
  | f + 1, 0, i, _, hg, hi => by omega
  | f + 1, g + 1, i, hf, hg, hi => by
    rw [bt, bt]
    congr 1
    refine List.map_congr_left fun c hc => ?_
    have hi' : i < B.length := by have := h.len; omega
    rw [List.getD_eq_getElem?_getD, List.getElem?_eq_getElem hi'] at hc
    obtain ⟨h1, h2⟩ := h.up i B[i] (List.getElem?_eq_getElem hi') c hc
    exact bt_same h f g c (by omega) (by omega) h2
def wt (B : List (List Nat)) (m i : Nat) : Nat := (bt B (m - i) i).sz
theorem wt_eq {B : List (List Nat)} {m : Nat} (h : Blw B m) {i : Nat} (hi : i < m) : wt B m i = 1 + ((B.getD i []).map (wt B m)).sum := by
  unfold wt
  obtain ⟨f, hf⟩ : ∃ f, m - i = f + 1 := ⟨m - i - 1, by omega⟩
  rw [hf, bt, Tre.sz, Tre.szs_eq, List.map_map]
  congr 2
  refine List.map_congr_left fun c hc => ?_
  have hi' : i < B.length := by have := h.len; omega
  rw [List.getD_eq_getElem?_getD, List.getElem?_eq_getElem hi'] at hc
  obtain ⟨h1, h2⟩ := h.up i B[i] (List.getElem?_eq_getElem hi') c hc
  show (bt B f c).sz = (bt B (m - c) c).sz
  rw [bt_same h f (m - c) c (by omega) (by omega) h2]
theorem sum_flat (w : Nat → Nat) : ∀ B : List (List Nat), (B.flatten.map w).sum = (B.map fun b => (b.map w).sum).sum
  | [] => rfl
  | b :: B => by rw [List.flatten_cons, List.map_append, List.sum_append, sum_flat w B]; rfl
theorem sum_range_succ (g : Nat → Nat) : ∀ n : Nat, ((List.range (n + 1)).map g).sum = g 0 + ((List.range' 1 n).map g).sum := fun n => by
  rw [List.range_eq_range', List.range'_succ]
  simp
theorem bt_size {B : List (List Nat)} (h : Blw B B.length) (f : Nat) (hf : B.length ≤ f) : (bt B f 0).sz = B.length := by
  have hp := h.pos
  have key : ((List.range B.length).map (wt B B.length)).sum = B.length + ((List.range' 1 (B.length - 1)).map (wt B B.length)).sum := by
    have e1 : (List.range B.length).map (wt B B.length) = B.map fun b => 1 + (b.map (wt B B.length)).sum := by
      refine List.ext_getElem (by simp) fun i h1 h2 => ?_
      rw [List.getElem_map, List.getElem_map, List.getElem_range, wt_eq h (by simpa using h1)]
      rw [List.getD_eq_getElem?_getD, List.getElem?_eq_getElem (by simpa using h2)]
      rfl
    rw [e1]
    have e2 : ∀ (L : List (List Nat)) (w : Nat → Nat), (L.map fun b => 1 + (b.map w).sum).sum = L.length + (L.map fun b => (b.map w).sum).sum := fun L w => by
      induction L with
      | nil => rfl
      | cons b L ih => rw [List.map_cons, List.sum_cons, ih, List.map_cons, List.sum_cons, List.length_cons]; omega
    rw [e2, ← sum_flat, (h.perm.map _).sum_nat]
  obtain ⟨n, hn⟩ : ∃ n, B.length = n + 1 := ⟨B.length - 1, by omega⟩
  have e0 : ((List.range B.length).map (wt B B.length)).sum = wt B B.length 0 + ((List.range' 1 (B.length - 1)).map (wt B B.length)).sum := by
    have := sum_range_succ (wt B B.length) n
    rw [← hn] at this
    rw [this, hn]; rfl
  have : wt B B.length 0 = B.length := by omega
  unfold wt at this
  rw [← bt_same h f (B.length - 0) 0 (by omega) (by omega) (by omega)] at this
  exact this
theorem blw_first (n : Nat) (hn : 1 ≤ n) : Blw (List.replicate n []) 1 := by
  refine ⟨fun i b e c hc => ?_, fun b hb => ?_, ?_, Nat.le_refl _, by simpa using hn⟩
  · have := List.mem_of_getElem? e
    rw [(List.mem_replicate.mp this).2] at hc
    simp at hc
  · rw [(List.mem_replicate.mp hb).2]; simp
  · simp
theorem blw_next {B : List (List Nat)} {m p : Nat} (h : Blw B m) (hp : p < m) (hw : (B.getD p []).length < 5) (hm : m < B.length) : Blw (B.set p (B.getD p [] ++ [m])) (m + 1) := by
  have hpl : p < B.length := by omega
  have eg : B.getD p [] = B[p] := by rw [List.getD_eq_getElem?_getD, List.getElem?_eq_getElem hpl]; rfl
  rw [eg] at hw ⊢
  refine ⟨fun i b e c hc => ?_, fun b hb => ?_, ?_, by omega, by rw [List.length_set]; omega⟩
  · by_cases hi : i = p
    · subst hi
      rw [List.getElem?_set_self hpl] at e
      cases e
      rcases List.mem_append.mp hc with hc | hc
      · have := h.up i B[i] (List.getElem?_eq_getElem hpl) c hc; omega
      · rw [List.mem_singleton.mp hc]; omega
    · rw [List.getElem?_set_ne (Ne.symm hi)] at e
      have := h.up i b e c hc
      omega
  · rcases List.mem_or_eq_of_mem_set hb with hb | hb
    · exact h.wide b hb
    · rw [hb, List.length_append, List.length_singleton]; omega
  · have e1 : B.set p (B[p] ++ [m]) = B.take p ++ (B[p] ++ [m]) :: B.drop (p + 1) := List.set_eq_take_append_cons_drop .. |>.trans (if_pos hpl)
    have e2 : B.flatten = (B.take p).flatten ++ (B[p] ++ (B.drop (p + 1)).flatten) := by
      conv => lhs; rw [← List.take_append_drop p B, List.drop_eq_getElem_cons hpl]
      rw [List.flatten_append, List.flatten_cons]
    have e3 : (m + 1 - 1) = (m - 1) + 1 := by have := h.pos; omega
    rw [e1, e3, List.range'_concat, List.flatten_append, List.flatten_cons]
    have e4 : 1 + 1 * (m - 1) = m := by have := h.pos; omega
    rw [e4]
    refine List.Perm.trans ?_ (h.perm.append_right [m])
    rw [e2]
    simp only [List.append_assoc]
    refine List.Perm.append_left _ (List.Perm.append_left _ ?_)
    exact List.perm_append_comm
def bel (r : Nat) (B : List (List Nat)) : Sto := .lst ((List.range B.length).map fun i => .loc (r + 1 + i)) :: B.map fun b => .lst (ni b)
theorem bel_get (r : Nat) {B : List (List Nat)} {i : Nat} (hi : i < B.length) : (bel r B)[1 + i]? = some (.lst (ni (B.getD i []))) := by
  rw [Nat.add_comm]
  show (B.map fun b => Ob.lst (ni b))[i]? = _
  rw [List.getElem?_map, List.getElem?_eq_getElem hi, List.getD_eq_getElem?_getD, List.getElem?_eq_getElem hi]
  rfl
theorem bel_set (r : Nat) (B : List (List Nat)) (i : Nat) (b : List Nat) : (bel r B).set (1 + i) (.lst (ni b)) = bel r (B.set i b) := by
  rw [Nat.add_comm]
  show Ob.lst _ :: (B.map fun b => Ob.lst (ni b)).set i (.lst (ni b)) = _
  unfold bel
  rw [List.length_set, List.map_set]
section
variable {S : Sto} {n : Nat} {rest : Sto} {B : List (List Nat)}
theorem bel_ix (h : Strm S n (rest ++ bel (rest.length + 2) B)) {i : Nat} (hi : i < B.length) : dIx (.loc (rest.length + 2)) (.int (i : Int)) S = .ok (.loc (rest.length + 2 + 1 + i)) S := by
  have g := h.getQ_mid (j := 0) (ds := (List.range B.length).map fun i => .loc (rest.length + 2 + 1 + i)) rfl
  refine dIx_loc g ?_
  rw [atI_nn (by omega) (by simpa using hi), Int.toNat_natCast, List.getElem?_map, List.getElem?_range hi]
  rfl
theorem bel_l (h : Strm S n (rest ++ bel (rest.length + 2) B)) {i : Nat} (hi : i < B.length) : getL S (rest.length + 2 + 1 + i) = some (ni (B.getD i [])) := by
  have := h.get_mid (bel_get (rest.length + 2) hi)
  rw [Nat.add_assoc (rest.length + 2)]
  exact this
theorem bel_put (h : Strm S n (rest ++ bel (rest.length + 2) B)) (i : Nat) (b : List Nat) : Strm (S.set (rest.length + 2 + 1 + i) (.lst (ni b))) n (rest ++ bel (rest.length + 2) (B.set i b)) := by
  have := h.set_mid (1 + i) (.lst (ni b))
  rw [bel_set] at this
  rw [Nat.add_assoc (rest.length + 2)]
  exact this
end
/-- a comprehension over a source with a guard, whose parts read the store -/
theorem compD_atG {g : Sto → Prop} {T : Tg} {f : Ev → Sto → R D} {ρ : Ev} (ρd : D → Ev) (e : D → D) (S : Sto) (hg : ∀ a, g (S ++ [.lst a])) : ∀ (ds acc : List D),
    (∀ d ∈ ds, ∀ a, T d ρ (S ++ [.lst a]) = some (ρd d, S ++ [.lst a]) ∧ f (ρd d) (S ++ [.lst a]) = .ok (e d) (S ++ [.lst a])) → acc.length + ds.length ≤ sizeLine →
    compD g T cYes f S.length ρ ds (S ++ [.lst acc]) = some (S ++ [.lst (acc ++ ds.map e)])
  | [], acc, _, _ => by rw [compD, if_pos (hg _)]; simp
  | d :: ds, acc, h, hl => by
    obtain ⟨h1, h3⟩ := h d List.mem_cons_self acc
    have hl' : acc.length + (ds.length + 1) ≤ sizeLine := hl
    rw [compD, if_pos (hg _), h1]
    simp only [cYes, if_true, h3, getL_end, set_end]
    rw [ifp_pos (by omega)]
    rw [compD_atG ρd e S hg ds (acc ++ [e d]) (fun x hx => h x (List.mem_cons_of_mem _ hx)) (by simp; omega)]
    simp
theorem eLc_atG {g : Sto → Prop} {src : Ev → Sto → R Src} {T : Tg} {vs : List Nat} {f : Ev → Sto → R D} {ρ : Ev} {S : Sto} (ds : List D) (ρd : D → Ev) (e : D → D) (hs : src ρ S = .ok (ds, g) S) (hg : ∀ a, g (S ++ [.lst a]))
    (h : ∀ d ∈ ds, ∀ a, T d (wipeD ρ vs) (S ++ [.lst a]) = some (ρd d, S ++ [.lst a]) ∧ f (ρd d) (S ++ [.lst a]) = .ok (e d) (S ++ [.lst a])) (hl : ds.length ≤ sizeLine) (hlow : ∀ d ∈ ds, low S.length (e d) = true) :
    eLc finFl src T vs cYes f ρ S = .ok (.fl (ds.map e)) S := by
  unfold eLc
  rw [hs]
  show (match compD g T cYes f S.length (wipeD ρ vs) ds (S ++ [Ob.lst []]) with
    | some S2 => finFl S S2
    | none => .stuck) = _
  rw [compD_atG ρd e S hg ds [] h (by simpa using hl)]
  simp only [List.nil_append]
  refine finFl_end (lowL_of fun d hd => ?_)
  obtain ⟨x, hx, rfl⟩ := List.mem_map.mp hd
  exact hlow x hx
theorem nested_ok {n : Nat} {rest : Sto} {B : List (List Nat)} {m : Nat} (hB : Blw B m) (hml : m = B.length) : ∀ (f i : Nat) (l : Sto) (S : Sto), m - i ≤ f → i < m → Strm S n (rest ++ bel (rest.length + 2) B ++ l) →
    F__law_nested f [.loc (rest.length + 2), .int (i : Int)] S = .ok (bt B f i).d S
  | 0, i, l, S, hf, hi, _ => by omega
  | f + 1, i, l, S, hf, hi, h => by
    have hi' : i < B.length := by omega
    have h' : Strm S n (rest ++ (bel (rest.length + 2) B ++ l)) := by rw [← List.append_assoc]; exact h
    have l0 : (bel (rest.length + 2) B ++ l)[0]? = some (.lst ((List.range B.length).map fun i => .loc (rest.length + 2 + 1 + i))) := rfl
    have li : (bel (rest.length + 2) B ++ l)[1 + i]? = some (.lst (ni (B.getD i []))) := by
      rw [List.getElem?_append_left (by unfold bel; simp; omega)]
      exact bel_get _ hi'
    have ix : dIx (.loc (rest.length + 2)) (.int (i : Int)) S = .ok (.loc (rest.length + 2 + 1 + i)) S := by
      refine dIx_loc (h'.getQ_mid l0) ?_
      rw [atI_nn (by omega) (by simpa using hi'), Int.toNat_natCast, List.getElem?_map, List.getElem?_range hi']
      rfl
    have q : getQ S (rest.length + 2 + 1 + i) = some (ni (B.getD i [])) := by
      have := h'.getQ_mid li
      rw [Nat.add_assoc (rest.length + 2)]
      exact this
    have qa : ∀ a, getQ (S ++ [.lst a]) (rest.length + 2 + 1 + i) = some (ni (B.getD i [])) := fun a => by
      have := (h'.app [.lst a])
      rw [List.append_assoc rest] at this
      have li' : (bel (rest.length + 2) B ++ l ++ [Ob.lst a])[1 + i]? = some (.lst (ni (B.getD i []))) := by
        rw [List.getElem?_append_left (by unfold bel; simp; omega)]
        exact li
      have := this.getQ_mid li'
      rw [Nat.add_assoc (rest.length + 2)]
      exact this
    have up : ∀ c ∈ B.getD i [], i < c ∧ c < m := fun c hc => by
      rw [List.getD_eq_getElem?_getD, List.getElem?_eq_getElem hi'] at hc
      exact hB.up i B[i] (List.getElem?_eq_getElem hi') c hc
    have wd : (B.getD i []).length ≤ 5 := by
      rw [List.getD_eq_getElem?_getD, List.getElem?_eq_getElem hi']
      exact hB.wide _ (List.getElem_mem hi')
    have key := eLc_atG (g := fun S => getQ S (rest.length + 2 + 1 + i) = some (ni (B.getD i []))) (src := iSeq (eOp dIx (eVar 0) (eVar 1))) (T := tN 2) (vs := [2]) (f := E1__law_nested (F__law_nested f)) (ρ := [some (.loc (rest.length + 2)), some (.int (i : Int)), none]) (S := S) (ni (B.getD i [])) (fun d => [some (.loc (rest.length + 2)), some (.int (i : Int)), some d]) (fun d => match d with | .int c => (bt B f c.toNat).d | d => d) (by
      have sr : srcOf (.loc (rest.length + 2 + 1 + i)) S = .ok (ni (B.getD i []), fun S => getQ S (rest.length + 2 + 1 + i) = some (ni (B.getD i []))) S := by
        show (match getQ S (rest.length + 2 + 1 + i) with
          | some ds => R.ok (ds, fun S => getQ S (rest.length + 2 + 1 + i) = some ds) S
          | none => .stuck) = _
        rw [q]
      simp only [eVar, eC, eOp, eT, eAnd, eOr, eNot, eIf, eAndV, eOrV, eNotV, eCall, aNil, aCons, aStar, sOf, eTup, eFl, eLoc, eSl, oNone, oSome, iOf, eNeg, eChain, eMt, bOf, eDict0, eRev, eListRg, iZipD, sRaise1, sRaise0, eCallV, List.lookup, R.bind_ok, R.bind_er, R.bind_stuck, R.toS_ok, R.toS_er, R.toS_stuck, SR.next_nx, SR.next_rt, SR.next_er, SR.next_bk, SR.next_ct, SR.next_stuck, sNil, sSeq, sBrk, sCnt, sExp, sRet, sRetN, sIf, sSet, sAsg, sAug, sPar2, sPar3, tN, DL.tTup, DL.tNil, DL.tCons, DL.tSub, iSeq, srcOf_tup, srcOf_fl, srcOf_kl, srcOf_ti, iRange1, iRange2, sFor, startD, List.map_cons, List.map_nil, List.length_cons, List.length_nil, List.replicate, List.cons_append, List.nil_append, List.getElem?_cons_zero, List.getElem?_cons_succ, List.set_cons_zero, List.set_cons_succ, dSub_int, dFdiv_int, dMod_int, dLt_int, dLe_int, dGt_int, dGe_int, dAddI_int, dSubI_int, dIsN_non, isN, dAdd_int, ll0, ll1, ll2, ll3, ll4, ll5, ll6, ll7, ll8, ll9, ll10, ll11, ll12, ll13, ll14, ll15, ll16, ll17, ll18, ll19, ll20, ll21, ll22, ll23, ll24, ll25, ll26, ll27, ll28, ll29, ll30, ll31, ll32, ll33, ll34, ll35, ll36, ll37, ll38, ll39, ll40, Nat.reduceSub, Nat.reduceAdd, Nat.reduceEqDiff, if_true, if_false, ifp_t, ifp_f, reduceIte, Bool.true_eq_false, Bool.false_eq_true, Option.map_some, Option.map_none, Option.bind_some, Option.bind_none, tSq, sSet2, seqOf_fl, seqOf_tup, seqOf_ti, ix, sr]) qa (by
      intro d hd a
      unfold ni at hd
      obtain ⟨c, hc, rfl⟩ := List.mem_map.mp hd
      obtain ⟨u1, u2⟩ := up c hc
      refine ⟨rfl, ?_⟩
      have := nested_ok (n := n) (rest := rest) hB hml f c (l ++ [.lst a]) (S ++ [.lst a]) (by omega) u2 (by rw [← List.append_assoc]; exact h.app _)
      generalize F__law_nested f = rec at *
      simp only [eVar, eC, eOp, eT, eAnd, eOr, eNot, eIf, eAndV, eOrV, eNotV, eCall, aNil, aCons, aStar, sOf, eTup, eFl, eLoc, eSl, oNone, oSome, iOf, eNeg, eChain, eMt, bOf, eDict0, eRev, eListRg, iZipD, sRaise1, sRaise0, eCallV, List.lookup, R.bind_ok, R.bind_er, R.bind_stuck, R.toS_ok, R.toS_er, R.toS_stuck, SR.next_nx, SR.next_rt, SR.next_er, SR.next_bk, SR.next_ct, SR.next_stuck, sNil, sSeq, sBrk, sCnt, sExp, sRet, sRetN, sIf, sSet, sAsg, sAug, sPar2, sPar3, tN, DL.tTup, DL.tNil, DL.tCons, DL.tSub, iSeq, srcOf_tup, srcOf_fl, srcOf_kl, srcOf_ti, iRange1, iRange2, sFor, startD, List.map_cons, List.map_nil, List.length_cons, List.length_nil, List.replicate, List.cons_append, List.nil_append, List.getElem?_cons_zero, List.getElem?_cons_succ, List.set_cons_zero, List.set_cons_succ, dSub_int, dFdiv_int, dMod_int, dLt_int, dLe_int, dGt_int, dGe_int, dAddI_int, dSubI_int, dIsN_non, isN, dAdd_int, ll0, ll1, ll2, ll3, ll4, ll5, ll6, ll7, ll8, ll9, ll10, ll11, ll12, ll13, ll14, ll15, ll16, ll17, ll18, ll19, ll20, ll21, ll22, ll23, ll24, ll25, ll26, ll27, ll28, ll29, ll30, ll31, ll32, ll33, ll34, ll35, ll36, ll37, ll38, ll39, ll40, Nat.reduceSub, Nat.reduceAdd, Nat.reduceEqDiff, if_true, if_false, ifp_t, ifp_f, reduceIte, Bool.true_eq_false, Bool.false_eq_true, Option.map_some, Option.map_none, Option.bind_some, Option.bind_none, tSq, sSet2, seqOf_fl, seqOf_tup, seqOf_ti, E1__law_nested, this, Int.toNat_natCast]) (by unfold ni; rw [List.length_map]; exact Nat.le_trans wd (by decide)) (by
      intro d hd
      unfold ni at hd
      obtain ⟨c, hc, rfl⟩ := List.mem_map.mp hd
      exact Tre.low _ _)
    have e : (ni (B.getD i [])).map (fun d => match d with | .int c => (bt B f c.toNat).d | d => d) = Tre.ds ((B.getD i []).map (bt B f)) := by
      unfold ni
      rw [Tre.ds_eq, List.map_map, List.map_map]
      refine List.map_congr_left fun c _ => ?_
      show (bt B f (c : Int).toNat).d = (bt B f c).d
      rw [Int.toNat_natCast]
    rw [e] at key
    rw [bt, Tre.d]
    show fnC close 3 2 (B__law_nested (F__law_nested f)) [.loc (rest.length + 2), .int (i : Int)] S = _
    refine fnC_rt rfl ?_ rfl
    have hst : startD 3 [D.loc (rest.length + 2), .int (i : Int)] = [some (.loc (rest.length + 2)), some (.int (i : Int)), none] := rfl
    rw [hst]
    unfold B__law_nested
    generalize eLc finFl (iSeq (eOp dIx (eVar 0) (eVar 1))) (tN 2) [2] cYes (E1__law_nested (F__law_nested f)) = LC at *
    simp only [eVar, eC, eOp, eT, eAnd, eOr, eNot, eIf, eAndV, eOrV, eNotV, eCall, aNil, aCons, aStar, sOf, eTup, eFl, eLoc, eSl, oNone, oSome, iOf, eNeg, eChain, eMt, bOf, eDict0, eRev, eListRg, iZipD, sRaise1, sRaise0, eCallV, List.lookup, R.bind_ok, R.bind_er, R.bind_stuck, R.toS_ok, R.toS_er, R.toS_stuck, SR.next_nx, SR.next_rt, SR.next_er, SR.next_bk, SR.next_ct, SR.next_stuck, sNil, sSeq, sBrk, sCnt, sExp, sRet, sRetN, sIf, sSet, sAsg, sAug, sPar2, sPar3, tN, DL.tTup, DL.tNil, DL.tCons, DL.tSub, iSeq, srcOf_tup, srcOf_fl, srcOf_kl, srcOf_ti, iRange1, iRange2, sFor, startD, List.map_cons, List.map_nil, List.length_cons, List.length_nil, List.replicate, List.cons_append, List.nil_append, List.getElem?_cons_zero, List.getElem?_cons_succ, List.set_cons_zero, List.set_cons_succ, dSub_int, dFdiv_int, dMod_int, dLt_int, dLe_int, dGt_int, dGe_int, dAddI_int, dSubI_int, dIsN_non, isN, dAdd_int, ll0, ll1, ll2, ll3, ll4, ll5, ll6, ll7, ll8, ll9, ll10, ll11, ll12, ll13, ll14, ll15, ll16, ll17, ll18, ll19, ll20, ll21, ll22, ll23, ll24, ll25, ll26, ll27, ll28, ll29, ll30, ll31, ll32, ll33, ll34, ll35, ll36, ll37, ll38, ll39, ll40, Nat.reduceSub, Nat.reduceAdd, Nat.reduceEqDiff, if_true, if_false, ifp_t, ifp_f, reduceIte, Bool.true_eq_false, Bool.false_eq_true, Option.map_some, Option.map_none, Option.bind_some, Option.bind_none, tSq, sSet2, seqOf_fl, seqOf_tup, seqOf_ti, key, bTuple_fl]
theorem tree_step {S : Sto} {n : Nat} {rest : Sto} {B : List (List Nat)} {k : Nat} (hB : Blw B k) (hk : k < B.length) (hl : B.length ≤ 100) {style : Int} (t0 : 0 ≤ style) (t3 : style < 4) (h : Strm S n (rest ++ bel (rest.length + 2) B)) (hn : n + 2 < 2 ^ 60) (x1 x2 x6 x7 x8 : Option D) :
    ∃ p S' y6 y7, p < k ∧ (B.getD p []).length < 5 ∧ L1__law_tree [some (.loc 1), x1, x2, some (.int style), some (.int (k : Int)), some (.loc (rest.length + 2)), x6, x7, x8] S = .nx [some (.loc 1), x1, x2, some (.int style), some (.int (k : Int)), some (.loc (rest.length + 2)), y6, y7, x8] S' ∧ Strm S' (n + 2) (rest ++ bel (rest.length + 2) (B.set p (B.getD p [] ++ [k]))) := by
  have hk1 := hB.pos
  obtain ⟨a, S1, a1, a2, a3, s1⟩ := draw_ok h (m := (k : Int)) (by omega) (log2_small 60 (by omega) (by decide) (by decide)) (by omega)
  obtain ⟨b, S2, b1, b2, b3, s2⟩ := draw_ok s1 (m := 3) (by decide) (by decide) (by omega)
  obtain ⟨spot, i0, ik, ixs⟩ : ∃ spot : Int, 0 ≤ spot ∧ spot < k ∧ ∀ S, dIx (.fl [.int ((k : Int) - 1), .int 0, .int a, .int (max 0 ((k : Int) - 1 - b))]) (.int style) S = .ok (.int spot) S := by
    rcases (show style = 0 ∨ style = 1 ∨ style = 2 ∨ style = 3 by omega) with rfl | rfl | rfl | rfl
    · exact ⟨_, by omega, by omega, fun S => rfl⟩
    · exact ⟨0, by omega, by omega, fun S => rfl⟩
    · exact ⟨a, by omega, by omega, fun S => rfl⟩
    · exact ⟨_, by omega, by omega, fun S => rfl⟩
  have mx : ∀ i j S, bMax [.int i, .int j] S = .ok (.int (max i j)) S := fun i j S => rfl
  have hsp : ∀ d ∈ D.int spot :: rangeD 0 k, ∃ c : Nat, c < k ∧ d = .int (c : Int) := fun d hd => by
    rcases List.mem_cons.mp hd with rfl | hd
    · exact ⟨spot.toNat, by omega, by rw [Int.toNat_of_nonneg i0]⟩
    · obtain ⟨j, hj⟩ := List.mem_iff_getElem?.mp hd
      obtain ⟨h1, rfl⟩ := rangeD_get hj
      exact ⟨j, h1, by rw [Int.zero_add]⟩
  have lr := listRg_ok k (by omega)
  have ad : ∀ S, dAdd (.fl [.int spot]) (.fl (rangeD 0 k)) S = .ok (.fl (.int spot :: rangeD 0 k)) S := fun S => by
    rw [add_fl [.int spot] (rangeD 0 k) (by rw [rangeD_len]; simp; omega)]; rfl
  have key := eLc_at (src := iSeq (eOp dAdd (eFl (aCons (eVar 6) aNil)) (eListRg mkFl (eVar 4)))) (T := tN 8) (vs := [8]) (c := Q1__law_tree) (f := E2__law_tree) (ρ := [some (.loc 1), x1, x2, some (.int style), some (.int (k : Int)), some (.loc (rest.length + 2)), some (.int spot), x7, x8]) (S := S2)
    (.int spot :: rangeD 0 k) (fun d => [some (.loc 1), x1, x2, some (.int style), some (.int (k : Int)), some (.loc (rest.length + 2)), some (.int spot), x7, some d]) (fun d => match d with | .int c => decide ((B.getD c.toNat []).length < 5) | _ => false) (fun d => d) (by
      simp only [eVar, eC, eOp, eT, eAnd, eOr, eNot, eIf, eAndV, eOrV, eNotV, eCall, aNil, aCons, aStar, sOf, eTup, eFl, eLoc, eSl, oNone, oSome, iOf, eNeg, eChain, eMt, bOf, eDict0, eRev, eListRg, iZipD, sRaise1, sRaise0, eCallV, List.lookup, R.bind_ok, R.bind_er, R.bind_stuck, R.toS_ok, R.toS_er, R.toS_stuck, SR.next_nx, SR.next_rt, SR.next_er, SR.next_bk, SR.next_ct, SR.next_stuck, sNil, sSeq, sBrk, sCnt, sExp, sRet, sRetN, sIf, sSet, sAsg, sAug, sPar2, sPar3, tN, DL.tTup, DL.tNil, DL.tCons, DL.tSub, iSeq, srcOf_tup, srcOf_fl, srcOf_kl, srcOf_ti, iRange1, iRange2, sFor, startD, List.map_cons, List.map_nil, List.length_cons, List.length_nil, List.replicate, List.cons_append, List.nil_append, List.getElem?_cons_zero, List.getElem?_cons_succ, List.set_cons_zero, List.set_cons_succ, dSub_int, dFdiv_int, dMod_int, dLt_int, dLe_int, dGt_int, dGe_int, dAddI_int, dSubI_int, dIsN_non, isN, dAdd_int, ll0, ll1, ll2, ll3, ll4, ll5, ll6, ll7, ll8, ll9, ll10, ll11, ll12, ll13, ll14, ll15, ll16, ll17, ll18, ll19, ll20, ll21, ll22, ll23, ll24, ll25, ll26, ll27, ll28, ll29, ll30, ll31, ll32, ll33, ll34, ll35, ll36, ll37, ll38, ll39, ll40, Nat.reduceSub, Nat.reduceAdd, Nat.reduceEqDiff, if_true, if_false, ifp_t, ifp_f, reduceIte, Bool.true_eq_false, Bool.false_eq_true, Option.map_some, Option.map_none, Option.bind_some, Option.bind_none, tSq, sSet2, seqOf_fl, seqOf_tup, seqOf_ti, lr, ad]) (by
      intro d hd a
      obtain ⟨c, hc, rfl⟩ := hsp d hd
      have hcl : c < B.length := by omega
      refine ⟨rfl, ?_, fun _ => rfl⟩
      have sa := s2.app [.lst a]
      rw [List.append_assoc] at sa
      have l0 : (bel (rest.length + 2) B ++ [Ob.lst a])[0]? = some (.lst ((List.range B.length).map fun i => .loc (rest.length + 2 + 1 + i))) := rfl
      have ix : dIx (.loc (rest.length + 2)) (.int (c : Int)) (S2 ++ [Ob.lst a]) = .ok (.loc (rest.length + 2 + 1 + c)) (S2 ++ [Ob.lst a]) := by
        refine dIx_loc (sa.getQ_mid l0) ?_
        rw [atI_nn (by omega) (by simpa using hcl), Int.toNat_natCast, List.getElem?_map, List.getElem?_range hcl]
        rfl
      have li : (bel (rest.length + 2) B ++ [Ob.lst a])[1 + c]? = some (.lst (ni (B.getD c []))) := by
        rw [List.getElem?_append_left (by unfold bel; simp; omega)]
        exact bel_get _ hcl
      have q : getQ (S2 ++ [Ob.lst a]) (rest.length + 2 + 1 + c) = some (ni (B.getD c [])) := by
        have := sa.getQ_mid li
        rw [Nat.add_assoc (rest.length + 2)]
        exact this
      have ln : bLen [.loc (rest.length + 2 + 1 + c)] (S2 ++ [Ob.lst a]) = .ok (.int ((B.getD c []).length : Int)) (S2 ++ [Ob.lst a]) := by
        show (match getQ (S2 ++ [Ob.lst a]) (rest.length + 2 + 1 + c) with
          | some xs => R.ok (D.int (xs.length : Nat)) (S2 ++ [Ob.lst a])
          | none => .stuck) = _
        rw [q]
        show R.ok (D.int ((ni (B.getD c [])).length : Nat)) (S2 ++ [Ob.lst a]) = _
        unfold ni
        rw [List.length_map]
      have e5 : decide (((B.getD c []).length : Int) < 5) = decide ((B.getD c []).length < 5) := by
        rw [Bool.eq_iff_iff, decide_eq_true_iff, decide_eq_true_iff]; omega
      simp only [eVar, eC, eOp, eT, eAnd, eOr, eNot, eIf, eAndV, eOrV, eNotV, eCall, aNil, aCons, aStar, sOf, eTup, eFl, eLoc, eSl, oNone, oSome, iOf, eNeg, eChain, eMt, bOf, eDict0, eRev, eListRg, iZipD, sRaise1, sRaise0, eCallV, List.lookup, R.bind_ok, R.bind_er, R.bind_stuck, R.toS_ok, R.toS_er, R.toS_stuck, SR.next_nx, SR.next_rt, SR.next_er, SR.next_bk, SR.next_ct, SR.next_stuck, sNil, sSeq, sBrk, sCnt, sExp, sRet, sRetN, sIf, sSet, sAsg, sAug, sPar2, sPar3, tN, DL.tTup, DL.tNil, DL.tCons, DL.tSub, iSeq, srcOf_tup, srcOf_fl, srcOf_kl, srcOf_ti, iRange1, iRange2, sFor, startD, List.map_cons, List.map_nil, List.length_cons, List.length_nil, List.replicate, List.cons_append, List.nil_append, List.getElem?_cons_zero, List.getElem?_cons_succ, List.set_cons_zero, List.set_cons_succ, dSub_int, dFdiv_int, dMod_int, dLt_int, dLe_int, dGt_int, dGe_int, dAddI_int, dSubI_int, dIsN_non, isN, dAdd_int, ll0, ll1, ll2, ll3, ll4, ll5, ll6, ll7, ll8, ll9, ll10, ll11, ll12, ll13, ll14, ll15, ll16, ll17, ll18, ll19, ll20, ll21, ll22, ll23, ll24, ll25, ll26, ll27, ll28, ll29, ll30, ll31, ll32, ll33, ll34, ll35, ll36, ll37, ll38, ll39, ll40, Nat.reduceSub, Nat.reduceAdd, Nat.reduceEqDiff, if_true, if_false, ifp_t, ifp_f, reduceIte, Bool.true_eq_false, Bool.false_eq_true, Option.map_some, Option.map_none, Option.bind_some, Option.bind_none, tSq, sSet2, seqOf_fl, seqOf_tup, seqOf_ti, Q1__law_tree, ix, ln, e5, Int.toNat_natCast]) (by rw [List.length_cons, rangeD_len]; exact Nat.le_trans (show k + 1 ≤ 1000 by omega) (by decide)) (by
      intro d hd _
      obtain ⟨c, _, rfl⟩ := hsp d hd
      rfl)
  have last : (B.getD (k - 1) []).length < 5 := by
    have hl' : k - 1 < B.length := by omega
    rw [List.getD_eq_getElem?_getD, List.getElem?_eq_getElem hl']
    show B[k - 1].length < 5
    cases e : B[k - 1] with
    | nil => simp
    | cons c r =>
      have := hB.up (k - 1) B[k - 1] (List.getElem?_eq_getElem hl') c (by rw [e]; exact List.mem_cons_self)
      omega
  obtain ⟨p, r, hpk, hp5, er⟩ : ∃ (p : Nat) (r : List D), p < k ∧ (B.getD p []).length < 5 ∧ ((D.int spot :: rangeD 0 k).filter (fun d => match d with | .int c => decide ((B.getD c.toNat []).length < 5) | _ => false)).map (fun d => d) = .int (p : Int) :: r := by
    rw [List.map_id']
    have hm : D.int ((k - 1 : Nat) : Int) ∈ (D.int spot :: rangeD 0 k).filter (fun d => match d with | .int c => decide ((B.getD c.toNat []).length < 5) | _ => false) := by
      refine List.mem_filter.mpr ⟨List.mem_cons_of_mem _ ?_, ?_⟩
      · rw [rangeD_nat]
        exact List.mem_map.mpr ⟨k - 1, List.mem_range.mpr (by omega), rfl⟩
      · show decide ((B.getD ((k - 1 : Nat) : Int).toNat []).length < 5) = true
        rw [Int.toNat_natCast]
        exact decide_eq_true last
    cases hF : (D.int spot :: rangeD 0 k).filter (fun d => match d with | .int c => decide ((B.getD c.toNat []).length < 5) | _ => false) with
    | nil => rw [hF] at hm; simp at hm
    | cons d r =>
      have hd : d ∈ (D.int spot :: rangeD 0 k).filter (fun d => match d with | .int c => decide ((B.getD c.toNat []).length < 5) | _ => false) := by rw [hF]; exact List.mem_cons_self
      obtain ⟨h1, h2⟩ := List.mem_filter.mp hd
      obtain ⟨c, hc, rfl⟩ := hsp d h1
      have h2' : decide ((B.getD (c : Int).toNat []).length < 5) = true := h2
      rw [Int.toNat_natCast] at h2'
      exact ⟨c, r, hc, of_decide_eq_true h2', rfl⟩
  rw [er] at key
  have hpl : p < B.length := by omega
  have i0 : ∀ S, dIx (.fl (.int (p : Int) :: r)) (.int 0) S = .ok (.int (p : Int)) S := fun S => by
    show (match atI (D.int (p : Int) :: r) 0 with
      | some d => R.ok d S
      | none => .stuck) = _
    rw [atI_nn (by omega) (by simp)]
    rfl
  have ip := bel_ix s2 hpl
  have gp := bel_l s2 hpl
  have il := isLst_at gp
  have ap := append_at (d := .int (k : Int)) gp (by unfold ni; rw [List.length_map]; omega)
  have sp := bel_put s2 p (B.getD p [] ++ [k])
  have en : ni (B.getD p [] ++ [k]) = ni (B.getD p []) ++ [.int (k : Int)] := by unfold ni; simp
  rw [en] at sp
  refine ⟨p, _, some (.int spot), some (.fl (.int (p : Int) :: r)), hpk, hp5, ?_, sp⟩
  unfold L1__law_tree
  generalize eLc finFl (iSeq (eOp dAdd (eFl (aCons (eVar 6) aNil)) (eListRg mkFl (eVar 4)))) (tN 8) [8] Q1__law_tree E2__law_tree = LC at *
  generalize ni (B.getD p []) = NB at *
  simp only [eVar, eC, eOp, eT, eAnd, eOr, eNot, eIf, eAndV, eOrV, eNotV, eCall, aNil, aCons, aStar, sOf, eTup, eFl, eLoc, eSl, oNone, oSome, iOf, eNeg, eChain, eMt, bOf, eDict0, eRev, eListRg, iZipD, sRaise1, sRaise0, eCallV, List.lookup, R.bind_ok, R.bind_er, R.bind_stuck, R.toS_ok, R.toS_er, R.toS_stuck, SR.next_nx, SR.next_rt, SR.next_er, SR.next_bk, SR.next_ct, SR.next_stuck, sNil, sSeq, sBrk, sCnt, sExp, sRet, sRetN, sIf, sSet, sAsg, sAug, sPar2, sPar3, tN, DL.tTup, DL.tNil, DL.tCons, DL.tSub, iSeq, srcOf_tup, srcOf_fl, srcOf_kl, srcOf_ti, iRange1, iRange2, sFor, startD, List.map_cons, List.map_nil, List.length_cons, List.length_nil, List.replicate, List.cons_append, List.nil_append, List.getElem?_cons_zero, List.getElem?_cons_succ, List.set_cons_zero, List.set_cons_succ, dSub_int, dFdiv_int, dMod_int, dLt_int, dLe_int, dGt_int, dGe_int, dAddI_int, dSubI_int, dIsN_non, isN, dAdd_int, ll0, ll1, ll2, ll3, ll4, ll5, ll6, ll7, ll8, ll9, ll10, ll11, ll12, ll13, ll14, ll15, ll16, ll17, ll18, ll19, ll20, ll21, ll22, ll23, ll24, ll25, ll26, ll27, ll28, ll29, ll30, ll31, ll32, ll33, ll34, ll35, ll36, ll37, ll38, ll39, ll40, Nat.reduceSub, Nat.reduceAdd, Nat.reduceEqDiff, if_true, if_false, ifp_t, ifp_f, reduceIte, Bool.true_eq_false, Bool.false_eq_true, Option.map_some, Option.map_none, Option.bind_some, Option.bind_none, tSq, sSet2, seqOf_fl, seqOf_tup, seqOf_ti, a1, b1, mx, ixs, key, i0, ip, il, ap]
theorem E1_locs {S : Sto} {n : Nat} {rest : Sto} (ρ : Ev) : ∀ (ds : List D) (j : Nat) (S : Sto), (∀ d ∈ ds, ∃ c : Int, d = .int c) → Strm S n (rest ++ bel (rest.length + 2) (List.replicate j [])) → j + ds.length ≤ 1000 →
    ∃ S', compD yes (tN 4) cYes E1__law_tree (rest.length + 2) ρ ds S = some S' ∧ Strm S' n (rest ++ bel (rest.length + 2) (List.replicate (j + ds.length) []))
  | [], j, S, _, h, _ => ⟨S, by rw [compD, if_pos (show yes _ from trivial)], h⟩
  | d :: ds, j, S, hd, h, hj => by
    have hl := h.len
    have hbl : (bel (rest.length + 2) (List.replicate j [])).length = j + 1 := by simp [bel]
    rw [List.length_append, hbl] at hl
    have h1 := h.app [.lst []]
    have g : getL (S ++ [.lst []]) (rest.length + 2) = some ((List.range j).map fun i => .loc (rest.length + 2 + 1 + i)) := by
      rw [List.append_assoc] at h1
      have := h1.get_mid (j := 0) (ds := (List.range (List.replicate j ([] : List Nat)).length).map fun i => .loc (rest.length + 2 + 1 + i)) rfl
      rw [List.length_replicate] at this
      exact this
    have h2 := (show Strm (S ++ [.lst []]) n (rest ++ (bel (rest.length + 2) (List.replicate j []) ++ [.lst []])) by rw [← List.append_assoc]; exact h1).set_mid 0 (.lst (((List.range j).map fun i => D.loc (rest.length + 2 + 1 + i)) ++ [.loc S.length]))
    have e2 : (bel (rest.length + 2) (List.replicate j []) ++ [Ob.lst []]).set 0 (.lst (((List.range j).map fun i => D.loc (rest.length + 2 + 1 + i)) ++ [.loc S.length])) = bel (rest.length + 2) (List.replicate (j + 1) []) := by
      show Ob.lst _ :: ((List.replicate j ([] : List Nat)).map (fun b => Ob.lst (ni b)) ++ [Ob.lst []]) = _
      unfold bel
      rw [List.length_replicate, List.range_succ, List.map_append, List.replicate_succ', List.map_append]
      have : S.length = rest.length + 2 + 1 + j := by omega
      rw [this]; rfl
    rw [e2] at h2
    obtain ⟨S', c1, c2⟩ := E1_locs (S := S) (n := n) (rest := rest) ρ ds (j + 1) _ (fun x hx => hd x (List.mem_cons_of_mem _ hx)) h2 (by rw [List.length_cons] at hj; omega)
    refine ⟨S', ?_, ?_⟩
    · rw [compD, if_pos (show yes _ from trivial)]
      have hE : ∀ ρ S, E1__law_tree ρ S = .ok (.loc S.length) (S ++ [.lst []]) := fun ρ S => by
        simp only [eVar, eC, eOp, eT, eAnd, eOr, eNot, eIf, eAndV, eOrV, eNotV, eCall, aNil, aCons, aStar, sOf, eTup, eFl, eLoc, eSl, oNone, oSome, iOf, eNeg, eChain, eMt, bOf, eDict0, eRev, eListRg, iZipD, sRaise1, sRaise0, eCallV, List.lookup, R.bind_ok, R.bind_er, R.bind_stuck, R.toS_ok, R.toS_er, R.toS_stuck, SR.next_nx, SR.next_rt, SR.next_er, SR.next_bk, SR.next_ct, SR.next_stuck, sNil, sSeq, sBrk, sCnt, sExp, sRet, sRetN, sIf, sSet, sAsg, sAug, sPar2, sPar3, tN, DL.tTup, DL.tNil, DL.tCons, DL.tSub, iSeq, srcOf_tup, srcOf_fl, srcOf_kl, srcOf_ti, iRange1, iRange2, sFor, startD, List.map_cons, List.map_nil, List.length_cons, List.length_nil, List.replicate, List.cons_append, List.nil_append, List.getElem?_cons_zero, List.getElem?_cons_succ, List.set_cons_zero, List.set_cons_succ, dSub_int, dFdiv_int, dMod_int, dLt_int, dLe_int, dGt_int, dGe_int, dAddI_int, dSubI_int, dIsN_non, isN, dAdd_int, ll0, ll1, ll2, ll3, ll4, ll5, ll6, ll7, ll8, ll9, ll10, ll11, ll12, ll13, ll14, ll15, ll16, ll17, ll18, ll19, ll20, ll21, ll22, ll23, ll24, ll25, ll26, ll27, ll28, ll29, ll30, ll31, ll32, ll33, ll34, ll35, ll36, ll37, ll38, ll39, ll40, Nat.reduceSub, Nat.reduceAdd, Nat.reduceEqDiff, if_true, if_false, ifp_t, ifp_f, reduceIte, Bool.true_eq_false, Bool.false_eq_true, Option.map_some, Option.map_none, Option.bind_some, Option.bind_none, tSq, sSet2, seqOf_fl, seqOf_tup, seqOf_ti, E1__law_tree]
      simp only [tN, cYes, if_true, hE, g]
      rw [ifp_pos (by rw [List.length_map, List.length_range]; rw [List.length_cons] at hj; exact Nat.lt_of_le_of_lt (show j ≤ 1000 by omega) (by decide))]
      exact c1
    · have : j + (d :: ds).length = j + 1 + ds.length := by rw [List.length_cons]; omega
      rw [this]; exact c2
theorem tree_ok {S : Sto} {n : Nat} {rest : Sto} (h : Strm S n rest) (hn : n + 100 < 2 ^ 60) : ∃ (t : Tre) (S' : Sto), F__law_tree [.loc 1, .int 24] S = .ok t.d S' ∧ t.ok ∧ t.sz ≤ 24 ∧ Strm S' (n + 50) rest := by
  obtain ⟨z, S1, z1, z2, z3, s1⟩ := draw_ok h (m := 24) (by decide) (by decide) (by omega)
  obtain ⟨st, S2, w1, w2, w3, s2⟩ := draw_ok s1 (m := 4) (by decide) (by decide) (by omega)
  obtain ⟨N, hN⟩ : ∃ N : Nat, 1 + z = (N : Int) := ⟨(1 + z).toNat, by omega⟩
  have hN1 : 1 ≤ N := by omega
  have hN24 : N ≤ 24 := by omega
  have hrN : ((-(2 ^ 62) : Int) ≤ (N : Int) ∧ (N : Int) < 2 ^ 62) = True := by simp; omega
  have hr2 : ((-(2 ^ 62) : Int) ≤ 1 ∧ (1 : Int) < 2 ^ 62 ∧ -(2 ^ 62) ≤ (N : Int) ∧ (N : Int) < 2 ^ 62) = True := by simp; omega
  have sA := s2.app [.lst []]
  have e0 : rest ++ [Ob.lst []] = rest ++ bel (rest.length + 2) (List.replicate 0 []) := rfl
  rw [e0] at sA
  obtain ⟨S3, c1, s3⟩ := E1_locs (S := S2) (n := n + 2) (rest := rest) [some (.loc 1), some (.int 24), some (.int (N : Int)), some (.int st), none, none, none, none, none] (rangeD 0 N) 0 _ (fun d hd => by
    obtain ⟨k, hk⟩ := List.mem_iff_getElem?.mp hd
    exact ⟨_, (rangeD_get hk).2⟩) sA (by rw [rangeD_len]; omega)
  rw [rangeD_len, Nat.zero_add] at s3
  have l2 : S2.length = rest.length + 2 := s2.len
  have lc : eLc finLoc (iRange1 (aCons (eVar 2) aNil)) (tN 4) [4] cYes E1__law_tree [some (.loc 1), some (.int 24), some (.int (N : Int)), some (.int st), none, none, none, none, none] S2 = .ok (.loc (rest.length + 2)) S3 := by
    unfold eLc
    have hs : iRange1 (aCons (eVar 2) aNil) [some (.loc 1), some (.int 24), some (.int (N : Int)), some (.int st), none, none, none, none, none] S2 = .ok (rangeD 0 N, yes) S2 := by
      simp only [eVar, eC, eOp, eT, eAnd, eOr, eNot, eIf, eAndV, eOrV, eNotV, eCall, aNil, aCons, aStar, sOf, eTup, eFl, eLoc, eSl, oNone, oSome, iOf, eNeg, eChain, eMt, bOf, eDict0, eRev, eListRg, iZipD, sRaise1, sRaise0, eCallV, List.lookup, R.bind_ok, R.bind_er, R.bind_stuck, R.toS_ok, R.toS_er, R.toS_stuck, SR.next_nx, SR.next_rt, SR.next_er, SR.next_bk, SR.next_ct, SR.next_stuck, sNil, sSeq, sBrk, sCnt, sExp, sRet, sRetN, sIf, sSet, sAsg, sAug, sPar2, sPar3, tN, DL.tTup, DL.tNil, DL.tCons, DL.tSub, iSeq, srcOf_tup, srcOf_fl, srcOf_kl, srcOf_ti, iRange1, iRange2, sFor, startD, List.map_cons, List.map_nil, List.length_cons, List.length_nil, List.replicate, List.cons_append, List.nil_append, List.getElem?_cons_zero, List.getElem?_cons_succ, List.set_cons_zero, List.set_cons_succ, dSub_int, dFdiv_int, dMod_int, dLt_int, dLe_int, dGt_int, dGe_int, dAddI_int, dSubI_int, dIsN_non, isN, dAdd_int, ll0, ll1, ll2, ll3, ll4, ll5, ll6, ll7, ll8, ll9, ll10, ll11, ll12, ll13, ll14, ll15, ll16, ll17, ll18, ll19, ll20, ll21, ll22, ll23, ll24, ll25, ll26, ll27, ll28, ll29, ll30, ll31, ll32, ll33, ll34, ll35, ll36, ll37, ll38, ll39, ll40, Nat.reduceSub, Nat.reduceAdd, Nat.reduceEqDiff, if_true, if_false, ifp_t, ifp_f, reduceIte, Bool.true_eq_false, Bool.false_eq_true, Option.map_some, Option.map_none, Option.bind_some, Option.bind_none, tSq, sSet2, seqOf_fl, seqOf_tup, seqOf_ti, hrN, Int.toNat_natCast]
    rw [hs]
    show (match compD yes (tN 4) cYes E1__law_tree S2.length (wipeD [some (.loc 1), some (.int 24), some (.int (N : Int)), some (.int st), none, none, none, none, none] [4]) (rangeD 0 N) (S2 ++ [Ob.lst []]) with
      | some S2' => finLoc S2 S2'
      | none => .stuck) = _
    rw [l2]
    rw [show wipeD [some (.loc 1), some (.int 24), some (.int (N : Int)), some (.int st), none, none, none, none, none] [4] = [some (.loc 1), some (.int 24), some (.int (N : Int)), some (.int st), none, none, none, none, none] from rfl, c1]
    show R.ok (D.loc S2.length) S3 = _
    rw [l2]
  obtain ⟨ρ', S4, ⟨⟨x4, x6, x7, rfl⟩, B, s4, hB, lB⟩, hf⟩ := forD_all (T := tN 4) (B := L1__law_tree) (Z := sNil) (fun i ρ S => (∃ x4 x6 x7, ρ = [some (.loc 1), some (.int 24), some (.int (N : Int)), some (.int st), x4, some (.loc (rest.length + 2)), x6, x7, none]) ∧ ∃ B, Strm S (n + 2 + 2 * i) (rest ++ bel (rest.length + 2) B) ∧ Blw B (i + 1) ∧ B.length = N)
    (rangeD 1 (N - 1)) 0 [some (.loc 1), some (.int 24), some (.int (N : Int)), some (.int st), none, some (.loc (rest.length + 2)), none, none, none] S3 ⟨⟨none, none, none, rfl⟩, List.replicate N [], s3, blw_first N hN1, by simp⟩ (by
      rintro j d ρ S' hj ⟨⟨x4, x6, x7, rfl⟩, B, sj, hB, lB⟩
      obtain ⟨hj', rfl⟩ := rangeD_get hj
      rw [Nat.zero_add] at sj hB ⊢
      have ej : (1 : Int) + (j : Int) = ((j + 1 : Nat) : Int) := by omega
      rw [ej]
      obtain ⟨p, S'', y6, y7, p1, p2, p3, p4⟩ := tree_step hB (by omega) (by omega) w2 w3 sj (by omega) (some (.int 24)) (some (.int (N : Int))) x6 x7 none
      exact ⟨_, _, _, S'', rfl, .inl p3, ⟨_, _, _, rfl⟩, _, p4.mono (by omega), blw_next hB p1 p2 (by omega), by rw [List.length_set]; exact lB⟩)
  rw [rangeD_len, Nat.zero_add] at s4 hB
  have hB' : Blw B B.length := by
    have : N - 1 + 1 = B.length := by omega
    rw [this] at hB; exact hB
  have ns : F__law_nested 40 [.loc (rest.length + 2), .int 0] S4 = _ := nested_ok (n := n + 2 + 2 * (N - 1)) (rest := rest) hB' rfl 40 0 [] S4 (by omega) (by omega) (by rw [List.append_nil]; exact s4)
  have sz := bt_size hB' 40 (by omega)
  have key := fnC_strm (n := 9) (m := 2) (B := B__law_tree) (ds := [D.loc 1, .int 24]) (S := S) (S6 := S4) (d := (bt B 40 0).d) h (l := bel (rest.length + 2) B) s4 (by simp [bel]) rfl ?_ (Tre.low _ _)
  · exact ⟨_, _, key.1, bt_ok hB'.wide 40 0, by omega, key.2.mono (by omega)⟩
  · have hst : startD 9 [D.loc 1, .int 24] = [some (.loc 1), some (.int 24), none, none, none, none, none, none, none] := rfl
    rw [hst]
    unfold B__law_tree
    have e1 : ((N : Int) - 1).toNat = N - 1 := by omega
    generalize eLc finLoc (iRange1 (aCons (eVar 2) aNil)) (tN 4) [4] cYes E1__law_tree = LC at *
    generalize F__law_nested 40 = NE at *
    simp only [eVar, eC, eOp, eT, eAnd, eOr, eNot, eIf, eAndV, eOrV, eNotV, eCall, aNil, aCons, aStar, sOf, eTup, eFl, eLoc, eSl, oNone, oSome, iOf, eNeg, eChain, eMt, bOf, eDict0, eRev, eListRg, iZipD, sRaise1, sRaise0, eCallV, List.lookup, R.bind_ok, R.bind_er, R.bind_stuck, R.toS_ok, R.toS_er, R.toS_stuck, SR.next_nx, SR.next_rt, SR.next_er, SR.next_bk, SR.next_ct, SR.next_stuck, sNil, sSeq, sBrk, sCnt, sExp, sRet, sRetN, sIf, sSet, sAsg, sAug, sPar2, sPar3, tN, DL.tTup, DL.tNil, DL.tCons, DL.tSub, iSeq, srcOf_tup, srcOf_fl, srcOf_kl, srcOf_ti, iRange1, iRange2, sFor, startD, List.map_cons, List.map_nil, List.length_cons, List.length_nil, List.replicate, List.cons_append, List.nil_append, List.getElem?_cons_zero, List.getElem?_cons_succ, List.set_cons_zero, List.set_cons_succ, dSub_int, dFdiv_int, dMod_int, dLt_int, dLe_int, dGt_int, dGe_int, dAddI_int, dSubI_int, dIsN_non, isN, dAdd_int, ll0, ll1, ll2, ll3, ll4, ll5, ll6, ll7, ll8, ll9, ll10, ll11, ll12, ll13, ll14, ll15, ll16, ll17, ll18, ll19, ll20, ll21, ll22, ll23, ll24, ll25, ll26, ll27, ll28, ll29, ll30, ll31, ll32, ll33, ll34, ll35, ll36, ll37, ll38, ll39, ll40, Nat.reduceSub, Nat.reduceAdd, Nat.reduceEqDiff, if_true, if_false, ifp_t, ifp_f, reduceIte, Bool.true_eq_false, Bool.false_eq_true, Option.map_some, Option.map_none, Option.bind_some, Option.bind_none, tSq, sSet2, seqOf_fl, seqOf_tup, seqOf_ti, z1, w1, hN, lc, hr2, e1, hf, ns]
end DL
namespace DL
open PySem PySem.Spec L2
open PyProof.Rows hiding St
def L (l : List Nat) : Str := ⟨l.toArray⟩
def lt (c : Nat) : Bool := decide (97 ≤ c) && decide (c ≤ 122)
theorem last_split {α : Type} {l : List α} {q : α} (h : l.getLast? = some q) : l = l.dropLast ++ [q] := by
  have hne : l ≠ [] := by
    intro e
    rw [e] at h
    cases h
  have := List.dropLast_concat_getLast hne
  rw [List.getLast?_eq_some_getLast hne] at h
  cases h
  exact this.symm
end DL
namespace DL
open PySem PySem.Spec L2
open PyProof.Rows hiding St
inductive Sam : D → Prop
  | non : Sam .non
  | bl (b : Bool) : Sam (.bl b)
  | int (i : Int) : Sam (.int i)
  | str (x : Str) : Sam (.str x)
  | tup {ds : List D} (hl : ds.length ≤ 1000) (h : ∀ d ∈ ds, Sam d) : Sam (.tup ds)
theorem Sam.pl {d : D} (h : Sam d) : DL.pl d = true := by cases h <;> rfl
end DL
namespace DL
open PySem PySem.Spec L2
open PyProof.Rows hiding St
end DL
namespace TX
open PySem PySem.Spec L2 DL
open PyProof.Rows hiding St
def topS (i : Nat) : Stmt := PySem.Challenge.pw_ringpostfix_k25_trees_judged.main.body.getD i (.Pass ⟨0, 0, 0, 0⟩)
abbrev st__law_stream : Stmt := topS 5
abbrev nm__law_stream : List Str := ["_law_script", "_law_cells", "_law_cell"]
abbrev st__law_draw : Stmt := topS 6
abbrev nm__law_draw : List Str := ["_law_stream_here", "_law_many", "_law_rest", "_law_turn", "_law_cell", "_law_mixed"]
abbrev st__law_nested : Stmt := topS 9
abbrev nm__law_nested : List Str := ["_law_below", "_law_node", "_law_child"]
abbrev st__law_tree : Stmt := topS 10
abbrev nm__law_tree : List Str := ["_law_stream_here", "_law_most", "_law_many", "_law_style", "_law_k", "_law_below", "_law_spot", "_law_room", "_law_node"]
abbrev st__law_odd : Stmt := topS 8
abbrev nm__law_odd : List Str := ["_law_stream_here", "_law_some"]
abbrev st__law_pick : Stmt := topS 7
abbrev nm__law_pick : List Str := ["_law_stream_here", "_law_items"]
abbrev st__law_bent : Stmt := topS 11
abbrev nm__law_bent : List Str := ["_law_stream_here", "_law_value", "_law_deep", "_law_spot", "_law_some"]
abbrev st__law_edges : Stmt := topS 13
abbrev nm__law_edges : List Str := ["_law_stream_here", "_law_chain", "_law_wide", "_law_k", "_law_found"]
abbrev st_is_tree : Stmt := topS 3
abbrev nm_is_tree : List Str := ["value", "waiting", "nodes", "here"]
abbrev st__law_size : Stmt := topS 12
abbrev nm__law_size : List Str := ["_law_value", "_law_child"]
abbrev st_law : Stmt := topS 14
abbrev nm_law : List Str := ["_law_script", "_law_stream_here", "_law_turn", "_law_tree_here", "_law_values", "_law_k", "_law_once", "_law_value", "_law_shown"]
def d_MAX_ARITY : D := (.int 5)
def d_MAX_TOKENS : D := (.int 24)
noncomputable def B__law_bent (rec : Fn) : Ev → Sto → SR :=
  (sSeq (sIf (eAnd (eT (eOp dGt (eVar 2) (eC (.int 0)))) (eAnd (eT (eCall bIsi (aCons (eVar 1) (aCons (eC (.ty "tuple")) aNil)))) (eAnd (eT (eOp (dEqZ true) (eVar 1) (eTup aNil))) (eT (eOp dGt (eCall F__law_draw (aCons (eVar 0) (aCons (eC (.int 6)) aNil))) (eC (.int 0))))))) (sSeq (sSet 3 (eCall F__law_draw (aCons (eVar 0) (aCons (eCall bLen (aCons (eVar 1) aNil)) aNil))))
    (sRet (eOp dAddN (eOp dAddN (eSl mkFl (eVar 1) oNone (oSome (eVar 3))) (eTup (aCons (eCall rec (aCons (eVar 0) (aCons (eOp dIx (eVar 1) (eVar 3)) (aCons (eOp dSubN (eVar 2) (eC (.int 1))) aNil)))) aNil))) (eSl mkFl (eVar 1) (oSome (eOp dAddN (eVar 3) (eC (.int 1)))) oNone)))) sNil)
    (sSeq (sSet 4 (eFl (aCons (eCall F__law_odd (aCons (eVar 0) aNil)) (aCons (eCall F__law_odd (aCons (eVar 0) aNil)) aNil))))
    (sSeq (sIf (eT (eCall bIsi (aCons (eVar 1) (aCons (eC (.ty "tuple")) aNil)))) (sSet 4 (eOp dAddN (eVar 4) (eFl (aCons (eCall (bList mkFl) (aCons (eVar 1) aNil)) (aCons (eSl mkFl (eVar 1) (oSome (eC (.int 1))) oNone) (aCons (eOp dAddN (eVar 1) (eSl mkFl (eVar 1) (oSome (eNeg (eC (.int 1)))) oNone)) (aCons (eRev mkFl (eVar 1)) (aCons (eTup (aCons (eVar 1) aNil)) (aCons (eOp dAddN (eVar 1) (eTup (aCons (eTup aNil) aNil))) aNil))))))))) (sIf (eT (eCall bIsi (aCons (eVar 1) (aCons (eC (.ty "int")) aNil)))) (sSet 4 (eOp dAddN (eVar 4) (eFl (aCons (eOp dAddN (eVar 1) (eC (.int 1))) (aCons (eOp dSubN (eVar 1) (eC (.int 1))) (aCons (eOp (dEq false) (eVar 1) (eC (.int 1))) (aCons (eCall bStrO (aCons (eVar 1) aNil)) (aCons (eC (.int 0)) aNil)))))))) sNil))
    (sRet (eCall F__law_pick (aCons (eVar 0) (aCons (eVar 4) aNil)))))))
noncomputable def F__law_bent : Nat → Fn
  | 0 => fun _ _ => .stuck
  | n + 1 => fnC close 5 3 (B__law_bent (F__law_bent n))
noncomputable def L1__law_edges (ρ : Ev) (S : Sto) : SR :=
  (sSet 1 (eTup (aCons (eVar 1) aNil))) ρ S
noncomputable def B__law_edges : Ev → Sto → SR :=
  (sSeq (sAsg (eTup (aCons (eTup aNil) (aCons (eTup (aCons (eTup aNil) (aCons (eTup aNil) (aCons (eTup aNil) (aCons (eTup aNil) aNil))))) aNil))) (tTup 2 (tCons (tN 1) (tCons (tN 2) tNil))))
    (sSeq (sFor (iRange1 (aCons (eC (.int 23)) aNil)) (tN 3) L1__law_edges sNil)
    (sSeq (sSet 2 (eTup (aCons (eVar 2) (aCons (eVar 2) (aCons (eVar 2) (aCons (eVar 2) (aCons (eTup (aCons (eTup aNil) (aCons (eTup aNil) aNil))) aNil)))))))
    (sSeq (sSet 4 (eFl (aCons (eVar 1) (aCons (eTup (aCons (eVar 1) aNil)) (aCons (eSl mkFl (eVar 1) oNone (oSome (eNeg (eC (.int 1))))) (aCons (eVar 2) (aCons (eOp dAdd (eSl mkFl (eVar 2) oNone (oSome (eNeg (eC (.int 1))))) (eTup (aCons (eTup aNil) aNil))) (aCons (eOp dAdd (eSl mkFl (eVar 2) oNone (oSome (eNeg (eC (.int 1))))) (eTup (aCons (eTup (aCons (eTup aNil) (aCons (eTup aNil) aNil))) aNil))) (aCons (eOp dAdd (eVar 2) (eTup (aCons (eTup aNil) aNil))) aNil)))))))))
    (sRet (eOp dAdd (eVar 4) (eFl (aCons (eOp dMulT (eTup (aCons (eTup aNil) aNil)) (eC (.int 5))) (aCons (eOp dMulT (eTup (aCons (eTup aNil) aNil)) (eC (.int 6))) (aCons (eOp dMulT (eTup (aCons (eOp dMulT (eTup (aCons (eTup aNil) aNil)) (eC (.int 5))) aNil)) (eC (.int 4))) (aCons (eOp dAdd (eOp dMulT (eTup (aCons (eOp dMulT (eTup (aCons (eTup aNil) aNil)) (eC (.int 5))) aNil)) (eC (.int 3))) (eTup (aCons (eOp dMulT (eTup (aCons (eTup aNil) aNil)) (eC (.int 4))) aNil))) aNil)))))))))))
noncomputable def F__law_edges : Fn := fnC close 5 1 B__law_edges
noncomputable def C1_is_tree (ρ : Ev) (S : Sto) : R Bool :=
  (eT (eOp (dEqY true) (eVar 1) (eFl aNil))) ρ S
noncomputable def L1_is_tree (ρ : Ev) (S : Sto) : SR :=
  (sSeq (sSet 3 (eMt isLst mPop (eVar 1) aNil))
    (sSeq (sAug 2 dAddI (eC (.int 1)))
    (sSeq (sIf (eOr (eNot (eT (eCall bIsi (aCons (eVar 3) (aCons (eC (.ty "tuple")) aNil))))) (eOr (eT (eOp dGt (eCall bLen (aCons (eVar 3) aNil)) (eC d_MAX_ARITY))) (eT (eOp dGt (eVar 2) (eC d_MAX_TOKENS))))) (sRet (eC (.bl false))) sNil)
    (sExp (eMt isLst mExtendA (eVar 1) (aCons (eVar 3) aNil)))))) ρ S
noncomputable def B_is_tree : Ev → Sto → SR :=
  (sSeq (sPar2 1 2 (aCons (eLoc (aCons (eVar 0) aNil)) (aCons (eC (.int 0)) aNil)))
    (sSeq (whileD C1_is_tree L1_is_tree 4000)
    (sRet (eC (.bl true)))))
noncomputable def F_is_tree : Fn := fnC close 4 1 B_is_tree
noncomputable def E1__law_size (rec : Fn) (ρ : Ev) (S : Sto) : R D :=
  (eCall rec (aCons (eVar 1) aNil)) ρ S
noncomputable def B__law_size (rec : Fn) : Ev → Sto → SR :=
  (sSeq (sIf (eOr (eNot (eT (eCall bIsi (aCons (eVar 0) (aCons (eC (.ty "tuple")) aNil))))) (eT (eOp dGt (eCall bLen (aCons (eVar 0) aNil)) (eC (.int 5))))) (sRet (eC (.int 99))) sNil)
    (sRet (eCall bMinT (aCons (eC (.int 99)) (aCons (eOp dAdd (eC (.int 1)) (eCall bSum2 (aCons (eLc finFl (iSeq (eVar 0)) (tN 1) [1] cYes (E1__law_size rec)) aNil))) aNil)))))
noncomputable def F__law_size : Nat → Fn
  | 0 => fun _ _ => .stuck
  | n + 1 => fnC close 2 1 (B__law_size (F__law_size n))
noncomputable def L1_law (ρ : Ev) (S : Sto) : SR :=
  (sSeq (sSet 6 (eCall (F__law_bent 40) (aCons (eVar 1) (aCons (eVar 3) (aCons (eC (.int 9)) aNil)))))
    (sSet 4 (eOp dAdd (eVar 4) (eFl (aCons (eVar 6) (aCons (eCall (F__law_bent 40) (aCons (eVar 1) (aCons (eVar 6) (aCons (eC (.int 3)) aNil)))) aNil)))))) ρ S
noncomputable def L2_law (ρ : Ev) (S : Sto) : SR :=
  (sSeq (sSet 8 (eCall bRepr (aCons (eVar 7) aNil)))
    (sIf (eOr (eT (eOp (dEq true) (eCall bRepr (aCons (eCall F_is_tree (aCons (eVar 7) aNil)) aNil)) (eCall bRepr (aCons (eOp dLt (eCall (F__law_size 40) (aCons (eVar 7) aNil)) (eC (.int 25))) aNil)))) (eT (eOp (dEq true) (eCall bRepr (aCons (eVar 7) aNil)) (eVar 8)))) (sRet (eC (.bl false))) sNil)) ρ S
noncomputable def L3_law (ρ : Ev) (S : Sto) : SR :=
  (sSeq (sSet 3 (eCall F__law_tree (aCons (eVar 1) (aCons (eC (.int 24)) aNil))))
    (sSeq (sSet 4 (eFl (aCons (eVar 3) (aCons (eTup (aCons (eVar 3) aNil)) (aCons (eOp dAdd (eVar 3) (eTup (aCons (eTup aNil) aNil))) (aCons (eCall (bList mkFl) (aCons (eVar 3) aNil)) (aCons (eTup (aCons (eCall (bList mkFl) (aCons (eVar 3) aNil)) aNil)) (aCons (eCall F__law_odd (aCons (eVar 1) aNil)) (aCons (eTup (aCons (eVar 3) (aCons (eVar 3) aNil))) aNil)))))))))
    (sSeq (sFor (iRange1 (aCons (eC (.int 6)) aNil)) (tN 5) L1_law sNil)
    (sFor (iSeq (eOp dAdd (eVar 4) (eCall F__law_edges (aCons (eVar 1) aNil)))) (tN 7) L2_law sNil)))) ρ S
noncomputable def B_law : Ev → Sto → SR :=
  (sSeq (sSet 1 (eCall F__law_stream (aCons (eVar 0) aNil)))
    (sSeq (sFor (iRange1 (aCons (eC (.int 6)) aNil)) (tN 2) L3_law sNil)
    (sRet (eC (.bl true)))))
noncomputable def F_law : Fn := fnC close 9 1 B_law
end TX
namespace TX
open PySem PySem.Spec L2 DL
open PyProof.Rows hiding St
inductive Tm (M : Nat) : D → Prop
  | leaf {d : D} (h1 : pl d = true) (h2 : rok d = true) (h3 : isTup d = false) (h4 : isInt0 d = false) : Tm M d
  | bl (b : Bool) : Tm M (.bl b)
  | int {i : Int} (h : i.natAbs ≤ M) : Tm M (.int i)
  | tup {ds : List D} (h : ∀ d ∈ ds, Tm M d) : Tm M (.tup ds)
theorem Tm.mono {M N : Nat} {d : D} (h : Tm M d) (hN : M ≤ N) : Tm N d := by
  induction h with
  | leaf h1 h2 h3 h4 => exact .leaf h1 h2 h3 h4
  | bl b => exact .bl b
  | int h => exact .int (by omega)
  | tup h ih => exact .tup ih
theorem Tm.items {M : Nat} {ds : List D} (h : Tm M (.tup ds)) : ∀ d ∈ ds, Tm M d := by
  cases h with
  | leaf h1 h2 h3 h4 => cases h3
  | tup h => exact h
theorem Tm.pl {M : Nat} {d : D} (h : Tm M d) : DL.pl d = true := by
  cases h with
  | leaf h1 h2 h3 h4 => exact h1
  | _ => rfl
theorem rokL_of : ∀ {ds : List D}, (∀ d ∈ ds, rok d = true) → rokL ds = true
  | [], _ => by rw [rokL]
  | d :: ds, h => by
    rw [rokL, h d List.mem_cons_self, rokL_of fun x hx => h x (List.mem_cons_of_mem _ hx)]; rfl
theorem Tm.rok {M : Nat} {d : D} (h : Tm M d) (hM : M < 2 ^ 1000) : DL.rok d = true := by
  induction h with
  | leaf h1 h2 h3 h4 => exact h2
  | bl b => rfl
  | int h => exact rok_int 1000 (by omega) (by decide) (by decide)
  | tup h ih => rw [DL.rok]; exact rokL_of ih
theorem bulk_mem : ∀ {ds : List D} {d : D}, d ∈ ds → bulkD d + 1 ≤ bulkL ds
  | e :: ds, d, h => by
    rw [bulkL]
    rcases List.mem_cons.mp h with rfl | h
    · omega
    · have := bulk_mem h; omega
theorem dep_mem : ∀ {ds : List D} {d : D}, d ∈ ds → depD d ≤ depL ds
  | e :: ds, d, h => by
    rw [depL]
    rcases List.mem_cons.mp h with rfl | h
    · omega
    · have := dep_mem h; omega
theorem depL_le {k : Nat} : ∀ {ds : List D}, (∀ d ∈ ds, depD d ≤ k) → depL ds ≤ k
  | [], _ => by rw [depL]; omega
  | d :: ds, h => by
    rw [depL]
    have := h d List.mem_cons_self
    have := depL_le fun x hx => h x (List.mem_cons_of_mem _ hx)
    omega
theorem bulk_len : ∀ (ds : List D), ds.length ≤ bulkL ds
  | [] => by simp
  | d :: ds => by rw [bulkL, List.length_cons]; have := bulk_len ds; omega
theorem bulk_rev : ∀ (ds : List D), bulkL ds.reverse = bulkL ds
  | [] => rfl
  | d :: ds => by rw [List.reverse_cons, bulk_app, bulk_rev ds, bulkL, bulkL, bulkL]; omega
theorem bulk_drop (ds : List D) (k : Nat) : bulkL (ds.drop k) ≤ bulkL ds := by
  have := bulk_app (ds.take k) (ds.drop k)
  rw [List.take_append_drop] at this; omega
theorem bulk_take (ds : List D) (k : Nat) : bulkL (ds.take k) ≤ bulkL ds := by
  have := bulk_app (ds.take k) (ds.drop k)
  rw [List.take_append_drop] at this; omega
structure G (b k M : Nat) (v : D) : Prop where
  tm : Tm M v
  bulk : bulkD v ≤ b
  dep : depD v ≤ k
theorem G.mono {b k M b' k' M' : Nat} {v : D} (h : G b k M v) (hb : b ≤ b') (hk : k ≤ k') (hM : M ≤ M') : G b' k' M' v := ⟨h.tm.mono hM, Nat.le_trans h.bulk hb, Nat.le_trans h.dep hk⟩
theorem G.shw {b k M : Nat} {v : D} (h : G b k M v) (hM : M < 2 ^ 1000) : Shw b k v := ⟨h.tm.rok hM, h.bulk, h.dep⟩
theorem g_tup {b k M : Nat} {ds : List D} (h : ∀ d ∈ ds, Tm M d) (hb : bulkL ds ≤ b) (hk : ∀ d ∈ ds, depD d ≤ k) : G b (k + 1) M (.tup ds) := ⟨.tup h, by rw [bulkD]; exact hb, by rw [depD]; have := depL_le hk; omega⟩
theorem tm_odd {M : Nat} (hM : 10 ^ 29 ≤ M) {d : D} (h : d ∈ oddL) : Tm M d := by
  simp only [oddL, List.mem_cons, List.not_mem_nil, or_false] at h
  have ht : ∀ ds : List D, (∀ d ∈ ds, (∃ i : Int, d = .int i ∧ i.natAbs ≤ M) ∨ (∃ b, d = .bl b) ∨ d = .tup []) → Tm M (.tup ds) := fun ds hd => .tup fun d hx => by
    rcases hd d hx with ⟨i, rfl, hi⟩ | ⟨b, rfl⟩ | rfl
    · exact .int hi
    · exact .bl b
    · exact .tup (by simp)
  rcases h with rfl | rfl | rfl | rfl | rfl | rfl | rfl | rfl | rfl | rfl | rfl | rfl | rfl | rfl | rfl | rfl | rfl | rfl | rfl | rfl | rfl | rfl | rfl | rfl
  all_goals first
    | exact .leaf rfl (by decide +kernel) rfl rfl
    | exact .bl _
    | (refine .int ?_; omega)
    | (refine ht _ ?_
       simp only [List.mem_cons, List.not_mem_nil, or_false]
       rintro d hd
       (first
         | (rcases hd with rfl | rfl | rfl <;> exact .inl ⟨_, rfl, by omega⟩)
         | (rcases hd with rfl | rfl <;> exact .inl ⟨_, rfl, by omega⟩)
         | (subst hd; exact .inl ⟨_, rfl, by omega⟩)
         | (subst hd; exact .inr (.inl ⟨_, rfl⟩))
         | (subst hd; exact .inr (.inr rfl))
         | cases hd))
theorem g_odd {M : Nat} (hM : 10 ^ 29 ≤ M) {d : D} (h : d ∈ oddL) : G 3 2 M d := ⟨tm_odd hM h, (odd_shw d h).bulk, (odd_shw d h).dep⟩
noncomputable def Cnd : Ev → Sto → R Bool := (eAnd (eT (eOp dGt (eVar 2) (eC (.int 0)))) (eAnd (eT (eCall bIsi (aCons (eVar 1) (aCons (eC (.ty "tuple")) aNil)))) (eAnd (eT (eOp (dEqZ true) (eVar 1) (eTup aNil))) (eT (eOp dGt (eCall F__law_draw (aCons (eVar 0) (aCons (eC (.int 6)) aNil))) (eC (.int 0)))))))
noncomputable def Inn (rec : Fn) : Ev → Sto → SR := (sSeq (sSet 3 (eCall F__law_draw (aCons (eVar 0) (aCons (eCall bLen (aCons (eVar 1) aNil)) aNil))))
    (sRet (eOp dAddN (eOp dAddN (eSl mkFl (eVar 1) oNone (oSome (eVar 3))) (eTup (aCons (eCall rec (aCons (eVar 0) (aCons (eOp dIx (eVar 1) (eVar 3)) (aCons (eOp dSubN (eVar 2) (eC (.int 1))) aNil)))) aNil))) (eSl mkFl (eVar 1) (oSome (eOp dAddN (eVar 3) (eC (.int 1)))) oNone))))
noncomputable def Rst : Ev → Sto → SR :=
    (sSeq (sSet 4 (eFl (aCons (eCall F__law_odd (aCons (eVar 0) aNil)) (aCons (eCall F__law_odd (aCons (eVar 0) aNil)) aNil))))
    (sSeq (sIf (eT (eCall bIsi (aCons (eVar 1) (aCons (eC (.ty "tuple")) aNil)))) (sSet 4 (eOp dAddN (eVar 4) (eFl (aCons (eCall (bList mkFl) (aCons (eVar 1) aNil)) (aCons (eSl mkFl (eVar 1) (oSome (eC (.int 1))) oNone) (aCons (eOp dAddN (eVar 1) (eSl mkFl (eVar 1) (oSome (eNeg (eC (.int 1)))) oNone)) (aCons (eRev mkFl (eVar 1)) (aCons (eTup (aCons (eVar 1) aNil)) (aCons (eOp dAddN (eVar 1) (eTup (aCons (eTup aNil) aNil))) aNil))))))))) (sIf (eT (eCall bIsi (aCons (eVar 1) (aCons (eC (.ty "int")) aNil)))) (sSet 4 (eOp dAddN (eVar 4) (eFl (aCons (eOp dAddN (eVar 1) (eC (.int 1))) (aCons (eOp dSubN (eVar 1) (eC (.int 1))) (aCons (eOp (dEq false) (eVar 1) (eC (.int 1))) (aCons (eCall bStrO (aCons (eVar 1) aNil)) (aCons (eC (.int 0)) aNil)))))))) sNil))
    (sRet (eCall F__law_pick (aCons (eVar 0) (aCons (eVar 4) aNil))))))
theorem bent_eq (rec : Fn) : B__law_bent rec = sSeq (sIf Cnd (Inn rec) sNil) Rst := rfl
theorem addN_int (i j : Int) (S : Sto) : dAddN (.int i) (.int j) S = .ok (.int (i + j)) S := rfl
theorem subN_int (i j : Int) (S : Sto) : dSubN (.int i) (.int j) S = .ok (.int (i - j)) S := rfl
theorem addN_tup (a b : List D) (h : a.length + b.length ≤ 10 ^ 6) (S : Sto) : dAddN (.tup a) (.tup b) S = .ok (.tup (a ++ b)) S := add_tup a b h S
theorem addN_fl (a b : List D) (h : a.length + b.length ≤ 10 ^ 6) (S : Sto) : dAddN (.fl a) (.fl b) S = .ok (.fl (a ++ b)) S := add_fl a b h S
theorem cond_ok {v : D} (hv : pl v = true) (dp : Nat) {S : Sto} {n : Nat} {rest : Sto} (h : Strm S n rest) (hn : n + 1 < 2 ^ 60) :
    ∃ c S1, Cnd [some (.loc 1), some v, some (.int (dp : Int)), none, none] S = .ok c S1 ∧ Strm S1 (n + 1) rest ∧ (c = true → 0 < dp ∧ ∃ ds, v = .tup ds ∧ ds ≠ []) := by
  have it := isi_tup hv
  by_cases h0 : (0 : Int) < (dp : Int)
  · cases ht : isTup v with
    | false =>
      rw [ht] at it
      refine ⟨false, S, ?_, h.mono (by omega), fun hc => by cases hc⟩
      simp only [eVar, eC, eOp, eT, eAnd, eOr, eNot, eIf, eAndV, eOrV, eNotV, eCall, aNil, aCons, aStar, sOf, eTup, eFl, eLoc, eSl, oNone, oSome, iOf, eNeg, eChain, eMt, bOf, eDict0, eRev, eListRg, iZipD, sRaise1, sRaise0, eCallV, List.lookup, R.bind_ok, R.bind_er, R.bind_stuck, R.toS_ok, R.toS_er, R.toS_stuck, SR.next_nx, SR.next_rt, SR.next_er, SR.next_bk, SR.next_ct, SR.next_stuck, sNil, sSeq, sBrk, sCnt, sExp, sRet, sRetN, sIf, sSet, sAsg, sAug, sPar2, sPar3, tN, DL.tTup, DL.tNil, DL.tCons, DL.tSub, iSeq, srcOf_tup, srcOf_fl, srcOf_kl, srcOf_ti, iRange1, iRange2, sFor, startD, List.map_cons, List.map_nil, List.length_cons, List.length_nil, List.replicate, List.cons_append, List.nil_append, List.getElem?_cons_zero, List.getElem?_cons_succ, List.set_cons_zero, List.set_cons_succ, dSub_int, dFdiv_int, dMod_int, dLt_int, dLe_int, dGt_int, dGe_int, dAddI_int, dSubI_int, dIsN_non, isN, dAdd_int, ll0, ll1, ll2, ll3, ll4, ll5, ll6, ll7, ll8, ll9, ll10, ll11, ll12, ll13, ll14, ll15, ll16, ll17, ll18, ll19, ll20, ll21, ll22, ll23, ll24, ll25, ll26, ll27, ll28, ll29, ll30, ll31, ll32, ll33, ll34, ll35, ll36, ll37, ll38, ll39, ll40, Nat.reduceSub, Nat.reduceAdd, Nat.reduceEqDiff, if_true, if_false, ifp_t, ifp_f, reduceIte, Bool.true_eq_false, Bool.false_eq_true, Option.map_some, Option.map_none, Option.bind_some, Option.bind_none, tSq, sSet2, seqOf_fl, seqOf_tup, seqOf_ti, Cnd, h0, decide_true, it]
    | true =>
      rw [ht] at it
      obtain ⟨ds, rfl⟩ : ∃ ds, v = .tup ds := by
        cases v with
        | tup ds => exact ⟨ds, rfl⟩
        | _ => cases ht
      cases ds with
      | nil =>
        have zq : ∀ S, dEqZ true (.tup []) (.tup []) S = .ok (.bl false) S := fun S => rfl
        refine ⟨false, S, ?_, h.mono (by omega), fun hc => by cases hc⟩
        simp only [eVar, eC, eOp, eT, eAnd, eOr, eNot, eIf, eAndV, eOrV, eNotV, eCall, aNil, aCons, aStar, sOf, eTup, eFl, eLoc, eSl, oNone, oSome, iOf, eNeg, eChain, eMt, bOf, eDict0, eRev, eListRg, iZipD, sRaise1, sRaise0, eCallV, List.lookup, R.bind_ok, R.bind_er, R.bind_stuck, R.toS_ok, R.toS_er, R.toS_stuck, SR.next_nx, SR.next_rt, SR.next_er, SR.next_bk, SR.next_ct, SR.next_stuck, sNil, sSeq, sBrk, sCnt, sExp, sRet, sRetN, sIf, sSet, sAsg, sAug, sPar2, sPar3, tN, DL.tTup, DL.tNil, DL.tCons, DL.tSub, iSeq, srcOf_tup, srcOf_fl, srcOf_kl, srcOf_ti, iRange1, iRange2, sFor, startD, List.map_cons, List.map_nil, List.length_cons, List.length_nil, List.replicate, List.cons_append, List.nil_append, List.getElem?_cons_zero, List.getElem?_cons_succ, List.set_cons_zero, List.set_cons_succ, dSub_int, dFdiv_int, dMod_int, dLt_int, dLe_int, dGt_int, dGe_int, dAddI_int, dSubI_int, dIsN_non, isN, dAdd_int, ll0, ll1, ll2, ll3, ll4, ll5, ll6, ll7, ll8, ll9, ll10, ll11, ll12, ll13, ll14, ll15, ll16, ll17, ll18, ll19, ll20, ll21, ll22, ll23, ll24, ll25, ll26, ll27, ll28, ll29, ll30, ll31, ll32, ll33, ll34, ll35, ll36, ll37, ll38, ll39, ll40, Nat.reduceSub, Nat.reduceAdd, Nat.reduceEqDiff, if_true, if_false, ifp_t, ifp_f, reduceIte, Bool.true_eq_false, Bool.false_eq_true, Option.map_some, Option.map_none, Option.bind_some, Option.bind_none, tSq, sSet2, seqOf_fl, seqOf_tup, seqOf_ti, Cnd, h0, decide_true, it, zq]
      | cons d ds =>
        have zq : ∀ S, dEqZ true (.tup (d :: ds)) (.tup []) S = .ok (.bl true) S := fun S => rfl
        obtain ⟨z, S1, z1, z2, z3, s1⟩ := draw_ok h (m := 6) (by decide) (by decide) (by omega)
        refine ⟨decide (0 < z), S1, ?_, s1, fun _ => ⟨by omega, _, rfl, by simp⟩⟩
        simp only [eVar, eC, eOp, eT, eAnd, eOr, eNot, eIf, eAndV, eOrV, eNotV, eCall, aNil, aCons, aStar, sOf, eTup, eFl, eLoc, eSl, oNone, oSome, iOf, eNeg, eChain, eMt, bOf, eDict0, eRev, eListRg, iZipD, sRaise1, sRaise0, eCallV, List.lookup, R.bind_ok, R.bind_er, R.bind_stuck, R.toS_ok, R.toS_er, R.toS_stuck, SR.next_nx, SR.next_rt, SR.next_er, SR.next_bk, SR.next_ct, SR.next_stuck, sNil, sSeq, sBrk, sCnt, sExp, sRet, sRetN, sIf, sSet, sAsg, sAug, sPar2, sPar3, tN, DL.tTup, DL.tNil, DL.tCons, DL.tSub, iSeq, srcOf_tup, srcOf_fl, srcOf_kl, srcOf_ti, iRange1, iRange2, sFor, startD, List.map_cons, List.map_nil, List.length_cons, List.length_nil, List.replicate, List.cons_append, List.nil_append, List.getElem?_cons_zero, List.getElem?_cons_succ, List.set_cons_zero, List.set_cons_succ, dSub_int, dFdiv_int, dMod_int, dLt_int, dLe_int, dGt_int, dGe_int, dAddI_int, dSubI_int, dIsN_non, isN, dAdd_int, ll0, ll1, ll2, ll3, ll4, ll5, ll6, ll7, ll8, ll9, ll10, ll11, ll12, ll13, ll14, ll15, ll16, ll17, ll18, ll19, ll20, ll21, ll22, ll23, ll24, ll25, ll26, ll27, ll28, ll29, ll30, ll31, ll32, ll33, ll34, ll35, ll36, ll37, ll38, ll39, ll40, Nat.reduceSub, Nat.reduceAdd, Nat.reduceEqDiff, if_true, if_false, ifp_t, ifp_f, reduceIte, Bool.true_eq_false, Bool.false_eq_true, Option.map_some, Option.map_none, Option.bind_some, Option.bind_none, tSq, sSet2, seqOf_fl, seqOf_tup, seqOf_ti, Cnd, h0, decide_true, it, zq, z1]
  · refine ⟨false, S, ?_, h.mono (by omega), fun hc => by cases hc⟩
    simp only [eVar, eC, eOp, eT, eAnd, eOr, eNot, eIf, eAndV, eOrV, eNotV, eCall, aNil, aCons, aStar, sOf, eTup, eFl, eLoc, eSl, oNone, oSome, iOf, eNeg, eChain, eMt, bOf, eDict0, eRev, eListRg, iZipD, sRaise1, sRaise0, eCallV, List.lookup, R.bind_ok, R.bind_er, R.bind_stuck, R.toS_ok, R.toS_er, R.toS_stuck, SR.next_nx, SR.next_rt, SR.next_er, SR.next_bk, SR.next_ct, SR.next_stuck, sNil, sSeq, sBrk, sCnt, sExp, sRet, sRetN, sIf, sSet, sAsg, sAug, sPar2, sPar3, tN, DL.tTup, DL.tNil, DL.tCons, DL.tSub, iSeq, srcOf_tup, srcOf_fl, srcOf_kl, srcOf_ti, iRange1, iRange2, sFor, startD, List.map_cons, List.map_nil, List.length_cons, List.length_nil, List.replicate, List.cons_append, List.nil_append, List.getElem?_cons_zero, List.getElem?_cons_succ, List.set_cons_zero, List.set_cons_succ, dSub_int, dFdiv_int, dMod_int, dLt_int, dLe_int, dGt_int, dGe_int, dAddI_int, dSubI_int, dIsN_non, isN, dAdd_int, ll0, ll1, ll2, ll3, ll4, ll5, ll6, ll7, ll8, ll9, ll10, ll11, ll12, ll13, ll14, ll15, ll16, ll17, ll18, ll19, ll20, ll21, ll22, ll23, ll24, ll25, ll26, ll27, ll28, ll29, ll30, ll31, ll32, ll33, ll34, ll35, ll36, ll37, ll38, ll39, ll40, Nat.reduceSub, Nat.reduceAdd, Nat.reduceEqDiff, if_true, if_false, ifp_t, ifp_f, reduceIte, Bool.true_eq_false, Bool.false_eq_true, Option.map_some, Option.map_none, Option.bind_some, Option.bind_none, tSq, sSet2, seqOf_fl, seqOf_tup, seqOf_ti, Cnd, h0, decide_false]
theorem cut_neg1 (ds : List D) : bulkL (cut ds (some (-1)) none) ≤ bulkL ds ∧ (cut ds (some (-1)) none).length ≤ ds.length ∧ ∀ x ∈ cut ds (some (-1)) none, x ∈ ds := by
  unfold cut
  refine ⟨Nat.le_trans (bulk_take _ _) (bulk_drop _ _), ?_, fun x hx => List.mem_of_mem_drop (List.mem_of_mem_take hx)⟩
  rw [List.length_take, List.length_drop]; omega
theorem bi_le (b : Bool) : 0 ≤ bi b ∧ bi b ≤ 1 := by cases b <;> decide
theorem rst_ok {b k M : Nat} {v : D} (g : G b k M v) (hb : b ≤ 1000) (hM : 10 ^ 29 ≤ M) (hM2 : M ≤ 10 ^ 31) (x2 : Option D) {S : Sto} {n : Nat} {rest : Sto} (h : Strm S n rest) (hn : n + 3 < 2 ^ 60) :
    ∃ w S1, Rst [some (.loc 1), some v, x2, none, none] S = .rt w S1 ∧ Strm S1 (n + 3) rest ∧ G (2 * b + 200) (k + 3) (M + 10 ^ 13) w := by
  obtain ⟨o1, S1, q1, m1, s1⟩ := odd_ok h (by omega)
  obtain ⟨o2, S2, q2, m2, s2⟩ := odd_ok s1 (by omega)
  have go : ∀ {d}, d ∈ oddL → G (2 * b + 200) (k + 3) (M + 10 ^ 13) d := fun hd => (g_odd hM hd).mono (by omega) (by omega) (by omega)
  have it := isi_tup g.tm.pl
  have ii := isi_int g.tm.pl
  cases ht : isTup v with
  | true =>
    rw [ht] at it
    obtain ⟨ds, rfl⟩ : ∃ ds, v = .tup ds := by
      cases v with
      | tup ds => exact ⟨ds, rfl⟩
      | _ => cases ht
    have gb := g.bulk
    have gd := g.dep
    rw [bulkD] at gb
    rw [depD] at gd
    have gi := g.tm.items
    have gi' : ∀ d ∈ ds, Tm (M + 10 ^ 13) d := fun d hd => (gi d hd).mono (by omega)
    have dl : ∀ d ∈ ds, depD d ≤ k := fun d hd => by have := dep_mem hd; omega
    have ll := bulk_len ds
    have ls : ∀ S, bList mkFl [.tup ds] S = .ok (.fl ds) S := fun S => rfl
    have t1 : ∀ S, dSl mkFl (.tup ds) (some 1) none S = .ok (.tup (ds.drop 1)) S := fun S => by
      show R.ok (D.tup (cut ds (some ((1 : Nat) : Int)) none)) S = _
      rw [cut_from]
    obtain ⟨c0, c1, c2⟩ := cut_neg1 ds
    have t2 : ∀ S, dSl mkFl (.tup ds) (some (-1)) none S = .ok (.tup (cut ds (some (-1)) none)) S := fun S => rfl
    generalize cut ds (some (-1)) none = C at *
    have a1 : ∀ S, dAddN (.tup ds) (.tup C) S = .ok (.tup (ds ++ C)) S := fun S => addN_tup ds C (by omega) S
    have a2 : ∀ S, dAddN (.tup ds) (.tup [.tup []]) S = .ok (.tup (ds ++ [.tup []])) S := fun S => addN_tup ds [.tup []] (by simp; omega) S
    have rv : ∀ S, dRev mkFl (.tup ds) S = .ok (.tup ds.reverse) S := fun S => rfl
    have ad := fun (a b c d e f g i : D) S => addN_fl [a, b] [c, d, e, f, g, i] (by simp) S
    obtain ⟨w, S3, w1, w2, s3⟩ := pick_fl s2 (xs := [o1, o2, .fl ds, .tup (ds.drop 1), .tup (ds ++ C), .tup ds.reverse, .tup [.tup ds], .tup (ds ++ [.tup []])]) (by simp) (by simp) (by omega)
    refine ⟨w, S3, ?_, s3, ?_⟩
    · simp only [eVar, eC, eOp, eT, eAnd, eOr, eNot, eIf, eAndV, eOrV, eNotV, eCall, aNil, aCons, aStar, sOf, eTup, eFl, eLoc, eSl, oNone, oSome, iOf, eNeg, eChain, eMt, bOf, eDict0, eRev, eListRg, iZipD, sRaise1, sRaise0, eCallV, List.lookup, R.bind_ok, R.bind_er, R.bind_stuck, R.toS_ok, R.toS_er, R.toS_stuck, SR.next_nx, SR.next_rt, SR.next_er, SR.next_bk, SR.next_ct, SR.next_stuck, sNil, sSeq, sBrk, sCnt, sExp, sRet, sRetN, sIf, sSet, sAsg, sAug, sPar2, sPar3, tN, DL.tTup, DL.tNil, DL.tCons, DL.tSub, iSeq, srcOf_tup, srcOf_fl, srcOf_kl, srcOf_ti, iRange1, iRange2, sFor, startD, List.map_cons, List.map_nil, List.length_cons, List.length_nil, List.replicate, List.cons_append, List.nil_append, List.getElem?_cons_zero, List.getElem?_cons_succ, List.set_cons_zero, List.set_cons_succ, dSub_int, dFdiv_int, dMod_int, dLt_int, dLe_int, dGt_int, dGe_int, dAddI_int, dSubI_int, dIsN_non, isN, dAdd_int, ll0, ll1, ll2, ll3, ll4, ll5, ll6, ll7, ll8, ll9, ll10, ll11, ll12, ll13, ll14, ll15, ll16, ll17, ll18, ll19, ll20, ll21, ll22, ll23, ll24, ll25, ll26, ll27, ll28, ll29, ll30, ll31, ll32, ll33, ll34, ll35, ll36, ll37, ll38, ll39, ll40, Nat.reduceSub, Nat.reduceAdd, Nat.reduceEqDiff, if_true, if_false, ifp_t, ifp_f, reduceIte, Bool.true_eq_false, Bool.false_eq_true, Option.map_some, Option.map_none, Option.bind_some, Option.bind_none, tSq, sSet2, seqOf_fl, seqOf_tup, seqOf_ti, Rst, q1, q2, it, ls, t1, t2, a1, a2, eRev, rv, ad, w1]
    · simp only [List.mem_cons, List.not_mem_nil, or_false] at w2
      rcases w2 with rfl | rfl | rfl | rfl | rfl | rfl | rfl | rfl
      · exact go m1
      · exact go m2
      · refine ⟨.leaf rfl ?_ rfl rfl, by rw [bulkD]; omega, by rw [depD]; omega⟩
        have := g.tm.rok (Nat.lt_of_le_of_lt hM2 (by decide))
        have h1 : DL.rok (.tup ds) = rokL ds := by rw [DL.rok]
        have h2 : DL.rok (.fl ds) = rokL ds := by rw [DL.rok]
        rw [h2, ← h1]; exact this
      · exact (g_tup (b := b) (k := k) (fun d hd => gi' d (List.mem_of_mem_drop hd)) (Nat.le_trans (bulk_drop _ _) gb) fun d hd => dl d (List.mem_of_mem_drop hd)).mono (by omega) (by omega) (by omega)
      · refine (g_tup (b := 2 * b) (k := k) (fun d hd => ?_) (by rw [bulk_app]; omega) fun d hd => ?_).mono (by omega) (by omega) (Nat.le_refl _)
        · rcases List.mem_append.mp hd with hd | hd
          · exact gi' d hd
          · exact gi' d (c2 d hd)
        · rcases List.mem_append.mp hd with hd | hd
          · exact dl d hd
          · exact dl d (c2 d hd)
      · exact (g_tup (b := b) (k := k) (fun d hd => gi' d (List.mem_reverse.mp hd)) (by rw [bulk_rev]; exact gb) fun d hd => dl d (List.mem_reverse.mp hd)).mono (by omega) (by omega) (by omega)
      · refine (g_tup (b := b + 1) (k := k + 1) (fun d hd => ?_) (by rw [bulkL, bulkL, bulkD]; omega) fun d hd => ?_).mono (by omega) (by omega) (Nat.le_refl _)
        · rw [List.mem_singleton.mp hd]; exact .tup gi'
        · rw [List.mem_singleton.mp hd, depD]; omega
      · refine (g_tup (b := b + 1) (k := k + 1) (fun d hd => ?_) (by rw [bulk_app, bulkL, bulkL, bulkD, bulkL]; omega) fun d hd => ?_).mono (by omega) (by omega) (Nat.le_refl _)
        · rcases List.mem_append.mp hd with hd | hd
          · exact gi' d hd
          · rw [List.mem_singleton.mp hd]; exact .tup (by simp)
        · rcases List.mem_append.mp hd with hd | hd
          · have := dl d hd; omega
          · rw [List.mem_singleton.mp hd, depD, depL]; omega
  | false =>
    rw [ht] at it
    have gin : ∀ i : Int, i.natAbs ≤ M + 10 ^ 13 → G (2 * b + 200) (k + 3) (M + 10 ^ 13) (.int i) := fun i hi => ⟨.int hi, by rw [bulkD]; omega, by rw [depD]; omega⟩
    have ad := fun (a b c d e f g : D) S => addN_fl [a, b] [c, d, e, f, g] (by simp) S
    have gtx : ∀ x : String, x.length ≤ 150 → G (2 * b + 200) (k + 3) (M + 10 ^ 13) (.str x) := fun x hx => by
      have := shw_text x
      exact ⟨.leaf rfl this.ok rfl rfl, Nat.le_trans this.bulk (by omega), Nat.le_trans this.dep (by omega)⟩
    have fin : ∀ (a a' : Int) (q : Bool) (x : String) (w : D), (a.natAbs ≤ M + 10 ^ 13 ∧ a'.natAbs ≤ M + 10 ^ 13 ∧ x.length ≤ 150) → w ∈ [o1, o2, .int a, .int a', .bl q, .str x, .int 0] → G (2 * b + 200) (k + 3) (M + 10 ^ 13) w := by
      rintro a a' q x w ⟨l1, l2, l3⟩ hw
      simp only [List.mem_cons, List.not_mem_nil, or_false] at hw
      rcases hw with rfl | rfl | rfl | rfl | rfl | rfl | rfl
      · exact go m1
      · exact go m2
      · exact gin _ l1
      · exact gin _ l2
      · exact ⟨.bl q, by rw [bulkD]; omega, by rw [depD]; omega⟩
      · exact gtx x l3
      · exact gin _ (by omega)
    cases g.tm with
    | tup _ => cases ht
    | bl q =>
      have hq := bi_le q
      have e1 : ∀ S, dAddN (.bl q) (.int 1) S = .ok (.int (bi q + 1)) S := fun S => rfl
      have e2 : ∀ S, dSubN (.bl q) (.int 1) S = .ok (.int (bi q - 1)) S := fun S => rfl
      have e4 : ∀ S, dEq false (.bl q) (.int 1) S = .ok (.bl q) S := fun S => by cases q <;> rfl
      have e5 : ∀ S, bStrO [.bl q] S = .ok (.str ((if q then "True" else "False" : String) : Str)) S := fun S => by cases q <;> rfl
      obtain ⟨w, S3, w1, w2, s3⟩ := pick_fl s2 (xs := [o1, o2, .int (bi q + 1), .int (bi q - 1), .bl q, .str ((if q then "True" else "False" : String) : Str), .int 0]) (by simp) (by simp) (by omega)
      refine ⟨w, S3, ?_, s3, fin _ _ _ _ w ⟨by omega, by omega, by cases q <;> decide⟩ w2⟩
      generalize (((if q = true then "True" else "False") : String) : Str) = TX at *
      simp only [eVar, eC, eOp, eT, eAnd, eOr, eNot, eIf, eAndV, eOrV, eNotV, eCall, aNil, aCons, aStar, sOf, eTup, eFl, eLoc, eSl, oNone, oSome, iOf, eNeg, eChain, eMt, bOf, eDict0, eRev, eListRg, iZipD, sRaise1, sRaise0, eCallV, List.lookup, R.bind_ok, R.bind_er, R.bind_stuck, R.toS_ok, R.toS_er, R.toS_stuck, SR.next_nx, SR.next_rt, SR.next_er, SR.next_bk, SR.next_ct, SR.next_stuck, sNil, sSeq, sBrk, sCnt, sExp, sRet, sRetN, sIf, sSet, sAsg, sAug, sPar2, sPar3, tN, DL.tTup, DL.tNil, DL.tCons, DL.tSub, iSeq, srcOf_tup, srcOf_fl, srcOf_kl, srcOf_ti, iRange1, iRange2, sFor, startD, List.map_cons, List.map_nil, List.length_cons, List.length_nil, List.replicate, List.cons_append, List.nil_append, List.getElem?_cons_zero, List.getElem?_cons_succ, List.set_cons_zero, List.set_cons_succ, dSub_int, dFdiv_int, dMod_int, dLt_int, dLe_int, dGt_int, dGe_int, dAddI_int, dSubI_int, dIsN_non, isN, dAdd_int, ll0, ll1, ll2, ll3, ll4, ll5, ll6, ll7, ll8, ll9, ll10, ll11, ll12, ll13, ll14, ll15, ll16, ll17, ll18, ll19, ll20, ll21, ll22, ll23, ll24, ll25, ll26, ll27, ll28, ll29, ll30, ll31, ll32, ll33, ll34, ll35, ll36, ll37, ll38, ll39, ll40, Nat.reduceSub, Nat.reduceAdd, Nat.reduceEqDiff, if_true, if_false, ifp_t, ifp_f, reduceIte, Bool.true_eq_false, Bool.false_eq_true, Option.map_some, Option.map_none, Option.bind_some, Option.bind_none, tSq, sSet2, seqOf_fl, seqOf_tup, seqOf_ti, Rst, q1, q2, it, ii, isInt0, e1, e2, e4, e5, ad, w1]
    | int hi =>
      rename_i i
      have hz : i.natAbs < 2 ^ 200 := Nat.lt_of_le_of_lt hi (Nat.lt_of_le_of_lt hM2 (by decide))
      have lz : i.natAbs.log2 < 200 := PySem.Flt.log2_lt_of (by decide) hz
      have e5 : ∀ S, bStrO [.int i] S = .ok (.str ((toString i : String) : Str)) S := fun S => ifp_pos (by omega)
      have tl : (toString i).length ≤ 150 := by
        have hz2 : i.natAbs < 2 ^ 110 := Nat.lt_of_le_of_lt hi (Nat.lt_of_le_of_lt hM2 (by decide))
        exact Nat.le_trans (int_text_length_le (k := 110) (by decide) (PySem.Flt.log2_lt_of (by decide) hz2)) (by decide)
      obtain ⟨w, S3, w1, w2, s3⟩ := pick_fl s2 (xs := [o1, o2, .int (i + 1), .int (i - 1), .bl (i == 1), .str ((toString i : String) : Str), .int 0]) (by simp) (by simp) (by omega)
      refine ⟨w, S3, ?_, s3, fin _ _ _ _ w ⟨by omega, by omega, tl⟩ w2⟩
      simp only [eVar, eC, eOp, eT, eAnd, eOr, eNot, eIf, eAndV, eOrV, eNotV, eCall, aNil, aCons, aStar, sOf, eTup, eFl, eLoc, eSl, oNone, oSome, iOf, eNeg, eChain, eMt, bOf, eDict0, eRev, eListRg, iZipD, sRaise1, sRaise0, eCallV, List.lookup, R.bind_ok, R.bind_er, R.bind_stuck, R.toS_ok, R.toS_er, R.toS_stuck, SR.next_nx, SR.next_rt, SR.next_er, SR.next_bk, SR.next_ct, SR.next_stuck, sNil, sSeq, sBrk, sCnt, sExp, sRet, sRetN, sIf, sSet, sAsg, sAug, sPar2, sPar3, tN, DL.tTup, DL.tNil, DL.tCons, DL.tSub, iSeq, srcOf_tup, srcOf_fl, srcOf_kl, srcOf_ti, iRange1, iRange2, sFor, startD, List.map_cons, List.map_nil, List.length_cons, List.length_nil, List.replicate, List.cons_append, List.nil_append, List.getElem?_cons_zero, List.getElem?_cons_succ, List.set_cons_zero, List.set_cons_succ, dSub_int, dFdiv_int, dMod_int, dLt_int, dLe_int, dGt_int, dGe_int, dAddI_int, dSubI_int, dIsN_non, isN, dAdd_int, ll0, ll1, ll2, ll3, ll4, ll5, ll6, ll7, ll8, ll9, ll10, ll11, ll12, ll13, ll14, ll15, ll16, ll17, ll18, ll19, ll20, ll21, ll22, ll23, ll24, ll25, ll26, ll27, ll28, ll29, ll30, ll31, ll32, ll33, ll34, ll35, ll36, ll37, ll38, ll39, ll40, Nat.reduceSub, Nat.reduceAdd, Nat.reduceEqDiff, if_true, if_false, ifp_t, ifp_f, reduceIte, Bool.true_eq_false, Bool.false_eq_true, Option.map_some, Option.map_none, Option.bind_some, Option.bind_none, tSq, sSet2, seqOf_fl, seqOf_tup, seqOf_ti, Rst, q1, q2, it, ii, isInt0, addN_int, subN_int, dEq_int, e5, ad, w1]
    | leaf h1 h2 h3 h4 =>
      rw [h4] at ii
      obtain ⟨w, S3, w1, w2, s3⟩ := pick_fl s2 (xs := [o1, o2]) (by simp) (by simp) (by omega)
      refine ⟨w, S3, ?_, s3, ?_⟩
      · simp only [eVar, eC, eOp, eT, eAnd, eOr, eNot, eIf, eAndV, eOrV, eNotV, eCall, aNil, aCons, aStar, sOf, eTup, eFl, eLoc, eSl, oNone, oSome, iOf, eNeg, eChain, eMt, bOf, eDict0, eRev, eListRg, iZipD, sRaise1, sRaise0, eCallV, List.lookup, R.bind_ok, R.bind_er, R.bind_stuck, R.toS_ok, R.toS_er, R.toS_stuck, SR.next_nx, SR.next_rt, SR.next_er, SR.next_bk, SR.next_ct, SR.next_stuck, sNil, sSeq, sBrk, sCnt, sExp, sRet, sRetN, sIf, sSet, sAsg, sAug, sPar2, sPar3, tN, DL.tTup, DL.tNil, DL.tCons, DL.tSub, iSeq, srcOf_tup, srcOf_fl, srcOf_kl, srcOf_ti, iRange1, iRange2, sFor, startD, List.map_cons, List.map_nil, List.length_cons, List.length_nil, List.replicate, List.cons_append, List.nil_append, List.getElem?_cons_zero, List.getElem?_cons_succ, List.set_cons_zero, List.set_cons_succ, dSub_int, dFdiv_int, dMod_int, dLt_int, dLe_int, dGt_int, dGe_int, dAddI_int, dSubI_int, dIsN_non, isN, dAdd_int, ll0, ll1, ll2, ll3, ll4, ll5, ll6, ll7, ll8, ll9, ll10, ll11, ll12, ll13, ll14, ll15, ll16, ll17, ll18, ll19, ll20, ll21, ll22, ll23, ll24, ll25, ll26, ll27, ll28, ll29, ll30, ll31, ll32, ll33, ll34, ll35, ll36, ll37, ll38, ll39, ll40, Nat.reduceSub, Nat.reduceAdd, Nat.reduceEqDiff, if_true, if_false, ifp_t, ifp_f, reduceIte, Bool.true_eq_false, Bool.false_eq_true, Option.map_some, Option.map_none, Option.bind_some, Option.bind_none, tSq, sSet2, seqOf_fl, seqOf_tup, seqOf_ti, Rst, q1, q2, it, ii, w1]
      · simp only [List.mem_cons, List.not_mem_nil, or_false] at w2
        rcases w2 with rfl | rfl
        · exact go m1
        · exact go m2
theorem bent_any : ∀ (dp j : Nat) {b k M : Nat} {v : D}, G b k M v → b ≤ 1000 → 10 ^ 29 ≤ M → M ≤ 10 ^ 31 → ∀ {S : Sto} {n : Nat} {rest : Sto}, Strm S n rest → n + 4 + 2 * dp < 2 ^ 60 →
    ∃ w S1, F__law_bent (dp + 1 + j) [.loc 1, v, .int (dp : Int)] S = .ok w S1 ∧ Strm S1 (n + 4 + 2 * dp) rest ∧ G ((2 + dp) * b + 200) (k + 3) (M + 10 ^ 13) w := by
  intro dp
  induction dp with
  | zero =>
    intro j b k M v g hb hM hM2 S n rest h hn
    obtain ⟨c, S1, c1, s1, c2⟩ := cond_ok g.tm.pl 0 h (by omega)
    have hc : c = false := by
      cases c with
      | false => rfl
      | true => have := (c2 rfl).1; omega
    subst hc
    obtain ⟨w, S2, w1, s2, gw⟩ := rst_ok g hb hM hM2 (some (.int ((0 : Nat) : Int))) s1 (by omega)
    refine ⟨w, S2, ?_, s2.mono (by omega), gw.mono (by omega) (by omega) (Nat.le_refl _)⟩
    rw [show 0 + 1 + j = j + 1 by omega]
    show fnC close 5 3 (B__law_bent (F__law_bent j)) [.loc 1, v, .int ((0 : Nat) : Int)] S = _
    refine fnC_rt rfl ?_ (by rw [s2.len, h.len])
    have hst : startD 5 [D.loc 1, v, .int ((0 : Nat) : Int)] = [some (.loc 1), some v, some (.int ((0 : Nat) : Int)), none, none] := rfl
    rw [hst, bent_eq]
    show SR.next (sIf Cnd (Inn (F__law_bent j)) sNil [some (.loc 1), some v, some (.int ((0 : Nat) : Int)), none, none] S) Rst = _
    have hi : sIf Cnd (Inn (F__law_bent j)) sNil [some (.loc 1), some v, some (.int ((0 : Nat) : Int)), none, none] S = .nx [some (.loc 1), some v, some (.int ((0 : Nat) : Int)), none, none] S1 := by
      unfold sIf
      rw [c1]; rfl
    rw [hi]
    exact w1
  | succ dp ih =>
    intro j b k M v g hb hM hM2 S n rest h hn
    obtain ⟨c, S1, c1, s1, c2⟩ := cond_ok g.tm.pl (dp + 1) h (by omega)
    have hst : startD 5 [D.loc 1, v, .int ((dp + 1 : Nat) : Int)] = [some (.loc 1), some v, some (.int ((dp + 1 : Nat) : Int)), none, none] := rfl
    have hm : (2 + (dp + 1)) * b = (2 + dp) * b + b := by rw [← Nat.add_assoc, Nat.succ_mul]
    have hm5 : 2 * b ≤ (2 + dp) * b := Nat.mul_le_mul_right _ (by omega)
    cases c with
    | false =>
      obtain ⟨w, S2, w1, s2, gw⟩ := rst_ok g hb hM hM2 (some (.int ((dp + 1 : Nat) : Int))) s1 (by omega)
      refine ⟨w, S2, ?_, s2.mono (by omega), gw.mono (by omega) (by omega) (Nat.le_refl _)⟩
      rw [show dp + 1 + 1 + j = (dp + 1 + j) + 1 by omega]
      show fnC close 5 3 (B__law_bent (F__law_bent (dp + 1 + j))) [.loc 1, v, .int ((dp + 1 : Nat) : Int)] S = _
      refine fnC_rt rfl ?_ (by rw [s2.len, h.len])
      rw [hst, bent_eq]
      show SR.next (sIf Cnd (Inn (F__law_bent (dp + 1 + j))) sNil [some (.loc 1), some v, some (.int ((dp + 1 : Nat) : Int)), none, none] S) Rst = _
      have hi : sIf Cnd (Inn (F__law_bent (dp + 1 + j))) sNil [some (.loc 1), some v, some (.int ((dp + 1 : Nat) : Int)), none, none] S = .nx [some (.loc 1), some v, some (.int ((dp + 1 : Nat) : Int)), none, none] S1 := by
        unfold sIf
        rw [c1]; rfl
      rw [hi]
      exact w1
    | true =>
      obtain ⟨_, ds, rfl, h0⟩ := c2 rfl
      have gb := g.bulk
      have gd := g.dep
      rw [bulkD] at gb
      rw [depD] at gd
      have gi := g.tm.items
      have ll := bulk_len ds
      have l0 := List.length_pos_iff.mpr h0
      obtain ⟨pz, S2, p1, p2, p3, s2⟩ := draw_ok s1 (m := (ds.length : Int)) (by omega) (log2_small 60 (by omega) (by decide) (by decide)) (by omega)
      obtain ⟨p, rfl⟩ : ∃ p : Nat, pz = (p : Int) := ⟨pz.toNat, by omega⟩
      have hp : p < ds.length := by omega
      have hmem : ds[p] ∈ ds := List.getElem_mem hp
      have ix : ∀ S, dIx (.tup ds) (.int (p : Int)) S = .ok ds[p] S := fun S => dIx_tup (by rw [atI_nn (by omega) (by omega), Int.toNat_natCast]; exact List.getElem?_eq_getElem hp)
      have bm := bulk_mem hmem
      have dm := dep_mem hmem
      obtain ⟨w, S3, w1, s3, gw⟩ := ih j (b := b) (k := k - 1) (M := M) (v := ds[p]) ⟨gi _ hmem, by omega, by omega⟩ hb hM hM2 s2 (by omega)
      have t1 : ∀ S, dSl mkFl (.tup ds) none (some (p : Int)) S = .ok (.tup (ds.take p)) S := fun S => by
        show R.ok (D.tup (cut ds none (some (p : Int)))) S = _
        rw [cut_to]
      have t2 : ∀ S, dSl mkFl (.tup ds) (some ((p : Int) + 1)) none S = .ok (.tup (ds.drop (p + 1))) S := fun S => by
        show R.ok (D.tup (cut ds (some ((p + 1 : Nat) : Int)) none)) S = _
        rw [cut_from]
      have a1 : ∀ S, dAddN (.tup (ds.take p)) (.tup [w]) S = .ok (.tup (ds.take p ++ [w])) S := fun S => addN_tup _ _ (by simp; omega) S
      have a2 : ∀ S, dAddN (.tup (ds.take p ++ [w])) (.tup (ds.drop (p + 1))) S = .ok (.tup (ds.take p ++ [w] ++ ds.drop (p + 1))) S := fun S => addN_tup _ _ (by simp; omega) S
      have e1 : ((dp + 1 : Nat) : Int) - 1 = (dp : Int) := by omega
      have bl : ∀ S, bLen [.tup ds] S = .ok (.int (ds.length : Int)) S := fun S => rfl
      have bs : bulkL (ds.take p) + (bulkD ds[p] + 1) + bulkL (ds.drop (p + 1)) = bulkL ds := by
        have e := bulk_app (ds.take p) (ds.drop p)
        rw [List.take_append_drop, List.drop_eq_getElem_cons hp, bulkL] at e
        omega
      refine ⟨.tup (ds.take p ++ [w] ++ ds.drop (p + 1)), S3, ?_, s3.mono (by omega), ?_⟩
      · rw [show dp + 1 + 1 + j = (dp + 1 + j) + 1 by omega]
        show fnC close 5 3 (B__law_bent (F__law_bent (dp + 1 + j))) [.loc 1, .tup ds, .int ((dp + 1 : Nat) : Int)] S = _
        refine fnC_rt rfl ?_ (by rw [s3.len, h.len])
        rw [hst, bent_eq]
        show SR.next (sIf Cnd (Inn (F__law_bent (dp + 1 + j))) sNil [some (.loc 1), some (.tup ds), some (.int ((dp + 1 : Nat) : Int)), none, none] S) Rst = _
        have hi : sIf Cnd (Inn (F__law_bent (dp + 1 + j))) sNil [some (.loc 1), some (.tup ds), some (.int ((dp + 1 : Nat) : Int)), none, none] S = Inn (F__law_bent (dp + 1 + j)) [some (.loc 1), some (.tup ds), some (.int ((dp + 1 : Nat) : Int)), none, none] S1 := by
          unfold sIf
          rw [c1]; rfl
        rw [hi]
        generalize F__law_bent (dp + 1 + j) = rec at *
        generalize ds[p] = x at *
        generalize ((dp + 1 : Nat) : Int) = y at *
        simp only [eVar, eC, eOp, eT, eAnd, eOr, eNot, eIf, eAndV, eOrV, eNotV, eCall, aNil, aCons, aStar, sOf, eTup, eFl, eLoc, eSl, oNone, oSome, iOf, eNeg, eChain, eMt, bOf, eDict0, eRev, eListRg, iZipD, sRaise1, sRaise0, eCallV, List.lookup, R.bind_ok, R.bind_er, R.bind_stuck, R.toS_ok, R.toS_er, R.toS_stuck, SR.next_nx, SR.next_rt, SR.next_er, SR.next_bk, SR.next_ct, SR.next_stuck, sNil, sSeq, sBrk, sCnt, sExp, sRet, sRetN, sIf, sSet, sAsg, sAug, sPar2, sPar3, tN, DL.tTup, DL.tNil, DL.tCons, DL.tSub, iSeq, srcOf_tup, srcOf_fl, srcOf_kl, srcOf_ti, iRange1, iRange2, sFor, startD, List.map_cons, List.map_nil, List.length_cons, List.length_nil, List.replicate, List.cons_append, List.nil_append, List.getElem?_cons_zero, List.getElem?_cons_succ, List.set_cons_zero, List.set_cons_succ, dSub_int, dFdiv_int, dMod_int, dLt_int, dLe_int, dGt_int, dGe_int, dAddI_int, dSubI_int, dIsN_non, isN, dAdd_int, ll0, ll1, ll2, ll3, ll4, ll5, ll6, ll7, ll8, ll9, ll10, ll11, ll12, ll13, ll14, ll15, ll16, ll17, ll18, ll19, ll20, ll21, ll22, ll23, ll24, ll25, ll26, ll27, ll28, ll29, ll30, ll31, ll32, ll33, ll34, ll35, ll36, ll37, ll38, ll39, ll40, Nat.reduceSub, Nat.reduceAdd, Nat.reduceEqDiff, if_true, if_false, ifp_t, ifp_f, reduceIte, Bool.true_eq_false, Bool.false_eq_true, Option.map_some, Option.map_none, Option.bind_some, Option.bind_none, tSq, sSet2, seqOf_fl, seqOf_tup, seqOf_ti, Inn, bl, p1, t1, ix, subN_int, e1, w1, a1, addN_int, t2, a2]
      · refine (g_tup (b := (2 + (dp + 1)) * b + 200) (k := k + 2) (fun d hd => ?_) ?_ fun d hd => ?_)
        · rcases List.mem_append.mp hd with hd | hd
          · rcases List.mem_append.mp hd with hd | hd
            · exact (gi d (List.mem_of_mem_take hd)).mono (by omega)
            · rw [List.mem_singleton.mp hd]; exact gw.tm
          · exact (gi d (List.mem_of_mem_drop hd)).mono (by omega)
        · rw [bulk_app, bulk_app, bulkL, bulkL]
          have := gw.bulk
          omega
        · rcases List.mem_append.mp hd with hd | hd
          · rcases List.mem_append.mp hd with hd | hd
            · have := dep_mem (List.mem_of_mem_take hd); omega
            · rw [List.mem_singleton.mp hd]; have := gw.dep; omega
          · have := dep_mem (List.mem_of_mem_drop hd); omega
mutual
def szv : D → Nat
  | .tup ds => if 5 < ds.length then 99 else min 99 (1 + szvs ds)
  | .non => 99
  | .bl _ => 99
  | .int _ => 99
  | .str _ => 99
  | .ty _ => 99
  | .fn _ => 99
  | .fl _ => 99
  | .kl _ => 99
  | .fd _ => 99
  | .exc _ _ => 99
  | .loc _ => 99
def szvs : List D → Nat
  | [] => 0
  | d :: ds => szv d + szvs ds
end
theorem szvs_app : ∀ a b : List D, szvs (a ++ b) = szvs a + szvs b
  | [], b => by rw [szvs]; simp
  | d :: a, b => by
    show szvs (d :: (a ++ b)) = _
    rw [szvs, szvs, szvs_app a b]; omega
theorem szv_pos (d : D) : 1 ≤ szv d := by
  cases d with
  | tup ds => rw [szv]; split <;> omega
  | _ => rw [szv]; omega
theorem szv_not {d : D} (h : isTup d = false) : szv d = 99 := by
  cases d with
  | tup ds => cases h
  | _ => rfl
theorem sz_sum : ∀ ds : List D, ((ds.map fun d => ((szv d : Nat) : Int)).sum) = ((szvs ds : Nat) : Int)
  | [] => rfl
  | d :: ds => by rw [List.map_cons, List.sum_cons, sz_sum ds, szvs]; omega
theorem size_ok : ∀ (f : Nat) {M : Nat} {v : D}, Tm M v → depD v < f → ∀ S, F__law_size f [v] S = .ok (.int (szv v : Nat)) S
  | 0, M, v, _, h, S => by omega
  | f + 1, M, v, hv, h, S => by
    have it := isi_tup hv.pl
    have hst : startD 2 [v] = [some v, none] := rfl
    show fnC close 2 1 (B__law_size (F__law_size f)) [v] S = _
    refine fnC_rt rfl ?_ rfl
    rw [hst]
    unfold B__law_size
    cases ht : isTup v with
    | false =>
      rw [ht] at it
      rw [szv_not ht]
      generalize E1__law_size (F__law_size f) = EE
      simp only [eVar, eC, eOp, eT, eAnd, eOr, eNot, eIf, eAndV, eOrV, eNotV, eCall, aNil, aCons, aStar, sOf, eTup, eFl, eLoc, eSl, oNone, oSome, iOf, eNeg, eChain, eMt, bOf, eDict0, eRev, eListRg, iZipD, sRaise1, sRaise0, eCallV, List.lookup, R.bind_ok, R.bind_er, R.bind_stuck, R.toS_ok, R.toS_er, R.toS_stuck, SR.next_nx, SR.next_rt, SR.next_er, SR.next_bk, SR.next_ct, SR.next_stuck, sNil, sSeq, sBrk, sCnt, sExp, sRet, sRetN, sIf, sSet, sAsg, sAug, sPar2, sPar3, tN, DL.tTup, DL.tNil, DL.tCons, DL.tSub, iSeq, srcOf_tup, srcOf_fl, srcOf_kl, srcOf_ti, iRange1, iRange2, sFor, startD, List.map_cons, List.map_nil, List.length_cons, List.length_nil, List.replicate, List.cons_append, List.nil_append, List.getElem?_cons_zero, List.getElem?_cons_succ, List.set_cons_zero, List.set_cons_succ, dSub_int, dFdiv_int, dMod_int, dLt_int, dLe_int, dGt_int, dGe_int, dAddI_int, dSubI_int, dIsN_non, isN, dAdd_int, ll0, ll1, ll2, ll3, ll4, ll5, ll6, ll7, ll8, ll9, ll10, ll11, ll12, ll13, ll14, ll15, ll16, ll17, ll18, ll19, ll20, ll21, ll22, ll23, ll24, ll25, ll26, ll27, ll28, ll29, ll30, ll31, ll32, ll33, ll34, ll35, ll36, ll37, ll38, ll39, ll40, Nat.reduceSub, Nat.reduceAdd, Nat.reduceEqDiff, if_true, if_false, ifp_t, ifp_f, reduceIte, Bool.true_eq_false, Bool.false_eq_true, Option.map_some, Option.map_none, Option.bind_some, Option.bind_none, tSq, sSet2, seqOf_fl, seqOf_tup, seqOf_ti, it, Bool.not_false]
      rfl
    | true =>
      rw [ht] at it
      obtain ⟨ds, rfl⟩ : ∃ ds, v = .tup ds := by
        cases v with
        | tup ds => exact ⟨ds, rfl⟩
        | _ => cases ht
      have ln : ∀ S, bLen [.tup ds] S = .ok (.int (ds.length : Int)) S := fun S => rfl
      rw [szv]
      by_cases h5 : 5 < ds.length
      · rw [if_pos h5]
        have h5' : (5 : Int) < (ds.length : Int) := by omega
        generalize E1__law_size (F__law_size f) = EE
        simp only [eVar, eC, eOp, eT, eAnd, eOr, eNot, eIf, eAndV, eOrV, eNotV, eCall, aNil, aCons, aStar, sOf, eTup, eFl, eLoc, eSl, oNone, oSome, iOf, eNeg, eChain, eMt, bOf, eDict0, eRev, eListRg, iZipD, sRaise1, sRaise0, eCallV, List.lookup, R.bind_ok, R.bind_er, R.bind_stuck, R.toS_ok, R.toS_er, R.toS_stuck, SR.next_nx, SR.next_rt, SR.next_er, SR.next_bk, SR.next_ct, SR.next_stuck, sNil, sSeq, sBrk, sCnt, sExp, sRet, sRetN, sIf, sSet, sAsg, sAug, sPar2, sPar3, tN, DL.tTup, DL.tNil, DL.tCons, DL.tSub, iSeq, srcOf_tup, srcOf_fl, srcOf_kl, srcOf_ti, iRange1, iRange2, sFor, startD, List.map_cons, List.map_nil, List.length_cons, List.length_nil, List.replicate, List.cons_append, List.nil_append, List.getElem?_cons_zero, List.getElem?_cons_succ, List.set_cons_zero, List.set_cons_succ, dSub_int, dFdiv_int, dMod_int, dLt_int, dLe_int, dGt_int, dGe_int, dAddI_int, dSubI_int, dIsN_non, isN, dAdd_int, ll0, ll1, ll2, ll3, ll4, ll5, ll6, ll7, ll8, ll9, ll10, ll11, ll12, ll13, ll14, ll15, ll16, ll17, ll18, ll19, ll20, ll21, ll22, ll23, ll24, ll25, ll26, ll27, ll28, ll29, ll30, ll31, ll32, ll33, ll34, ll35, ll36, ll37, ll38, ll39, ll40, Nat.reduceSub, Nat.reduceAdd, Nat.reduceEqDiff, if_true, if_false, ifp_t, ifp_f, reduceIte, Bool.true_eq_false, Bool.false_eq_true, Option.map_some, Option.map_none, Option.bind_some, Option.bind_none, tSq, sSet2, seqOf_fl, seqOf_tup, seqOf_ti, it, Bool.not_true, ln, h5', decide_true]
        rfl
      · rw [if_neg h5]
        have h5' : ¬ (5 : Int) < (ds.length : Int) := by omega
        rw [depD] at h
        have key := eLc_pure (src := iSeq (eVar 0)) (T := tN 1) (vs := [1]) (c := cYes) (f := E1__law_size (F__law_size f)) (ρ := [some (.tup ds), none]) (S := S) ds (fun d => [some (.tup ds), some d]) (fun _ => true) (fun d => .int (szv d : Nat)) rfl (by
          intro d hd S'
          refine ⟨rfl, rfl, fun _ => ?_⟩
          have r := size_ok f (hv.items d hd) (by have := dep_mem hd; omega) S'
          generalize F__law_size f = rec at *
          simp only [eVar, eC, eOp, eT, eAnd, eOr, eNot, eIf, eAndV, eOrV, eNotV, eCall, aNil, aCons, aStar, sOf, eTup, eFl, eLoc, eSl, oNone, oSome, iOf, eNeg, eChain, eMt, bOf, eDict0, eRev, eListRg, iZipD, sRaise1, sRaise0, eCallV, List.lookup, R.bind_ok, R.bind_er, R.bind_stuck, R.toS_ok, R.toS_er, R.toS_stuck, SR.next_nx, SR.next_rt, SR.next_er, SR.next_bk, SR.next_ct, SR.next_stuck, sNil, sSeq, sBrk, sCnt, sExp, sRet, sRetN, sIf, sSet, sAsg, sAug, sPar2, sPar3, tN, DL.tTup, DL.tNil, DL.tCons, DL.tSub, iSeq, srcOf_tup, srcOf_fl, srcOf_kl, srcOf_ti, iRange1, iRange2, sFor, startD, List.map_cons, List.map_nil, List.length_cons, List.length_nil, List.replicate, List.cons_append, List.nil_append, List.getElem?_cons_zero, List.getElem?_cons_succ, List.set_cons_zero, List.set_cons_succ, dSub_int, dFdiv_int, dMod_int, dLt_int, dLe_int, dGt_int, dGe_int, dAddI_int, dSubI_int, dIsN_non, isN, dAdd_int, ll0, ll1, ll2, ll3, ll4, ll5, ll6, ll7, ll8, ll9, ll10, ll11, ll12, ll13, ll14, ll15, ll16, ll17, ll18, ll19, ll20, ll21, ll22, ll23, ll24, ll25, ll26, ll27, ll28, ll29, ll30, ll31, ll32, ll33, ll34, ll35, ll36, ll37, ll38, ll39, ll40, Nat.reduceSub, Nat.reduceAdd, Nat.reduceEqDiff, if_true, if_false, ifp_t, ifp_f, reduceIte, Bool.true_eq_false, Bool.false_eq_true, Option.map_some, Option.map_none, Option.bind_some, Option.bind_none, tSq, sSet2, seqOf_fl, seqOf_tup, seqOf_ti, E1__law_size, r]) (Nat.le_trans (show ds.length ≤ 5 by omega) (by decide)) (by intro d hd _; rfl)
        rw [List.filter_eq_self.mpr (fun _ _ => rfl)] at key
        have sm : ∀ S, bSum2 [.fl (ds.map fun d => D.int (szv d : Nat))] S = .ok (.int (szvs ds : Nat)) S := fun S => by
          have e : ds.map (fun d => D.int (szv d : Nat)) = (ds.map fun d => ((szv d : Nat) : Int)).map D.int := by rw [List.map_map]; rfl
          show (match intsOf (ds.map fun d => D.int (szv d : Nat)) with
            | some is => R.ok (D.int is.sum) S
            | none => .stuck) = _
          rw [e, intsOf_map]
          show R.ok (D.int (ds.map fun d => ((szv d : Nat) : Int)).sum) S = _
          rw [sz_sum]
        have mn : ∀ i S, bMinT [.int 99, .int i] S = .ok (.int (min 99 i)) S := fun i S => rfl
        generalize E1__law_size (F__law_size f) = EE at *
        generalize eLc finFl (iSeq (eVar 0)) (tN 1) [1] cYes EE = LC at *
        simp only [eVar, eC, eOp, eT, eAnd, eOr, eNot, eIf, eAndV, eOrV, eNotV, eCall, aNil, aCons, aStar, sOf, eTup, eFl, eLoc, eSl, oNone, oSome, iOf, eNeg, eChain, eMt, bOf, eDict0, eRev, eListRg, iZipD, sRaise1, sRaise0, eCallV, List.lookup, R.bind_ok, R.bind_er, R.bind_stuck, R.toS_ok, R.toS_er, R.toS_stuck, SR.next_nx, SR.next_rt, SR.next_er, SR.next_bk, SR.next_ct, SR.next_stuck, sNil, sSeq, sBrk, sCnt, sExp, sRet, sRetN, sIf, sSet, sAsg, sAug, sPar2, sPar3, tN, DL.tTup, DL.tNil, DL.tCons, DL.tSub, iSeq, srcOf_tup, srcOf_fl, srcOf_kl, srcOf_ti, iRange1, iRange2, sFor, startD, List.map_cons, List.map_nil, List.length_cons, List.length_nil, List.replicate, List.cons_append, List.nil_append, List.getElem?_cons_zero, List.getElem?_cons_succ, List.set_cons_zero, List.set_cons_succ, dSub_int, dFdiv_int, dMod_int, dLt_int, dLe_int, dGt_int, dGe_int, dAddI_int, dSubI_int, dIsN_non, isN, dAdd_int, ll0, ll1, ll2, ll3, ll4, ll5, ll6, ll7, ll8, ll9, ll10, ll11, ll12, ll13, ll14, ll15, ll16, ll17, ll18, ll19, ll20, ll21, ll22, ll23, ll24, ll25, ll26, ll27, ll28, ll29, ll30, ll31, ll32, ll33, ll34, ll35, ll36, ll37, ll38, ll39, ll40, Nat.reduceSub, Nat.reduceAdd, Nat.reduceEqDiff, if_true, if_false, ifp_t, ifp_f, reduceIte, Bool.true_eq_false, Bool.false_eq_true, Option.map_some, Option.map_none, Option.bind_some, Option.bind_none, tSq, sSet2, seqOf_fl, seqOf_tup, seqOf_ti, it, Bool.not_true, ln, h5', decide_false, key, sm, mn]
        congr 2
        omega
def wtS (S0 : Sto) (W : List D) : Sto := S0 ++ [.lst W]
theorem tree_loop (S0 : Sto) (x0 : Option D) {M : Nat} : ∀ (f : Nat) (W : List D) (k : Nat) (x3 : Option D), (∀ w ∈ W, Tm M w) → k ≤ 24 → W.length ≤ 5 * k + 1 → 25 - k < f →
    ∃ r y3, (whileD C1_is_tree L1_is_tree f [x0, some (.loc S0.length), some (.int (k : Int)), x3] (wtS S0 W) = r) ∧ ((k + szvs W ≤ 24 ∧ ∃ m W', r = .nx [x0, some (.loc S0.length), some (.int m), y3] (wtS S0 W')) ∨ (¬ k + szvs W ≤ 24 ∧ ∃ W', r = .rt (.bl false) (wtS S0 W')))
  | 0, W, k, x3, _, _, _, hf => by omega
  | f + 1, W, k, x3, hW, hk, hl, hf => by
    have gl := getL_end S0 W
    have q : dEqY true (.loc S0.length) (.fl []) (wtS S0 W) = .ok (.bl (!W.isEmpty)) (wtS S0 W) := by
      show (match getQ (wtS S0 W) S0.length with
        | some xs => R.ok (D.bl (!xs.isEmpty)) (wtS S0 W)
        | none => .stuck) = _
      unfold wtS
      rw [getQ_end]
    cases hw : W.getLast? with
    | none =>
      have he : W = [] := by simpa using hw
      subst he
      refine ⟨_, x3, rfl, .inl ⟨by rw [szvs]; omega, k, [], ?_⟩⟩
      refine whileD_end ?_
      have qb : dEqY true (.loc S0.length) (.fl []) (wtS S0 []) = .ok (.bl false) (wtS S0 []) := q
      simp only [eVar, eC, eOp, eT, eAnd, eOr, eNot, eIf, eAndV, eOrV, eNotV, eCall, aNil, aCons, aStar, sOf, eTup, eFl, eLoc, eSl, oNone, oSome, iOf, eNeg, eChain, eMt, bOf, eDict0, eRev, eListRg, iZipD, sRaise1, sRaise0, eCallV, List.lookup, R.bind_ok, R.bind_er, R.bind_stuck, R.toS_ok, R.toS_er, R.toS_stuck, SR.next_nx, SR.next_rt, SR.next_er, SR.next_bk, SR.next_ct, SR.next_stuck, sNil, sSeq, sBrk, sCnt, sExp, sRet, sRetN, sIf, sSet, sAsg, sAug, sPar2, sPar3, tN, DL.tTup, DL.tNil, DL.tCons, DL.tSub, iSeq, srcOf_tup, srcOf_fl, srcOf_kl, srcOf_ti, iRange1, iRange2, sFor, startD, List.map_cons, List.map_nil, List.length_cons, List.length_nil, List.replicate, List.cons_append, List.nil_append, List.getElem?_cons_zero, List.getElem?_cons_succ, List.set_cons_zero, List.set_cons_succ, dSub_int, dFdiv_int, dMod_int, dLt_int, dLe_int, dGt_int, dGe_int, dAddI_int, dSubI_int, dIsN_non, isN, dAdd_int, ll0, ll1, ll2, ll3, ll4, ll5, ll6, ll7, ll8, ll9, ll10, ll11, ll12, ll13, ll14, ll15, ll16, ll17, ll18, ll19, ll20, ll21, ll22, ll23, ll24, ll25, ll26, ll27, ll28, ll29, ll30, ll31, ll32, ll33, ll34, ll35, ll36, ll37, ll38, ll39, ll40, Nat.reduceSub, Nat.reduceAdd, Nat.reduceEqDiff, if_true, if_false, ifp_t, ifp_f, reduceIte, Bool.true_eq_false, Bool.false_eq_true, Option.map_some, Option.map_none, Option.bind_some, Option.bind_none, tSq, sSet2, seqOf_fl, seqOf_tup, seqOf_ti, C1_is_tree, qb]
    | some w =>
      have hs := last_split hw
      have ne : W.isEmpty = false := by
        cases W with
        | nil => cases hw
        | cons a b => rfl
      rw [ne] at q
      have qb : dEqY true (.loc S0.length) (.fl []) (wtS S0 W) = .ok (.bl true) (wtS S0 W) := q
      have cd : C1_is_tree [x0, some (.loc S0.length), some (.int (k : Int)), x3] (wtS S0 W) = .ok true (wtS S0 W) := by
        simp only [eVar, eC, eOp, eT, eAnd, eOr, eNot, eIf, eAndV, eOrV, eNotV, eCall, aNil, aCons, aStar, sOf, eTup, eFl, eLoc, eSl, oNone, oSome, iOf, eNeg, eChain, eMt, bOf, eDict0, eRev, eListRg, iZipD, sRaise1, sRaise0, eCallV, List.lookup, R.bind_ok, R.bind_er, R.bind_stuck, R.toS_ok, R.toS_er, R.toS_stuck, SR.next_nx, SR.next_rt, SR.next_er, SR.next_bk, SR.next_ct, SR.next_stuck, sNil, sSeq, sBrk, sCnt, sExp, sRet, sRetN, sIf, sSet, sAsg, sAug, sPar2, sPar3, tN, DL.tTup, DL.tNil, DL.tCons, DL.tSub, iSeq, srcOf_tup, srcOf_fl, srcOf_kl, srcOf_ti, iRange1, iRange2, sFor, startD, List.map_cons, List.map_nil, List.length_cons, List.length_nil, List.replicate, List.cons_append, List.nil_append, List.getElem?_cons_zero, List.getElem?_cons_succ, List.set_cons_zero, List.set_cons_succ, dSub_int, dFdiv_int, dMod_int, dLt_int, dLe_int, dGt_int, dGe_int, dAddI_int, dSubI_int, dIsN_non, isN, dAdd_int, ll0, ll1, ll2, ll3, ll4, ll5, ll6, ll7, ll8, ll9, ll10, ll11, ll12, ll13, ll14, ll15, ll16, ll17, ll18, ll19, ll20, ll21, ll22, ll23, ll24, ll25, ll26, ll27, ll28, ll29, ll30, ll31, ll32, ll33, ll34, ll35, ll36, ll37, ll38, ll39, ll40, Nat.reduceSub, Nat.reduceAdd, Nat.reduceEqDiff, if_true, if_false, ifp_t, ifp_f, reduceIte, Bool.true_eq_false, Bool.false_eq_true, Option.map_some, Option.map_none, Option.bind_some, Option.bind_none, tSq, sSet2, seqOf_fl, seqOf_tup, seqOf_ti, C1_is_tree, qb]
      have hlen := congrArg List.length hs
      rw [List.length_append, List.length_singleton] at hlen
      have il : isLst (wtS S0 W) (.loc S0.length) = true := isLst_at gl
      have pp : mPop (.loc S0.length) [] (wtS S0 W) = .ok w (wtS S0 W.dropLast) := by
        have g2 : getL (wtS S0 W) S0.length = some (W.dropLast ++ [w]) := by rw [← hs]; exact gl
        rw [pop_end g2]
        unfold wtS
        rw [set_end]
      have tw : Tm M w := hW w (by rw [hs]; simp)
      have it := isi_tup tw.pl
      have esz : szvs W = szvs W.dropLast + szv w := by
        conv => lhs; rw [hs]
        rw [szvs_app, szvs, szvs]; omega
      have sp := szv_pos w
      cases ht : isTup w with
      | false =>
        rw [ht] at it
        have s99 := szv_not ht
        refine ⟨_, none, rfl, .inr ⟨by omega, W.dropLast, ?_⟩⟩
        refine whileD_ret cd ?_
        simp only [eVar, eC, eOp, eT, eAnd, eOr, eNot, eIf, eAndV, eOrV, eNotV, eCall, aNil, aCons, aStar, sOf, eTup, eFl, eLoc, eSl, oNone, oSome, iOf, eNeg, eChain, eMt, bOf, eDict0, eRev, eListRg, iZipD, sRaise1, sRaise0, eCallV, List.lookup, R.bind_ok, R.bind_er, R.bind_stuck, R.toS_ok, R.toS_er, R.toS_stuck, SR.next_nx, SR.next_rt, SR.next_er, SR.next_bk, SR.next_ct, SR.next_stuck, sNil, sSeq, sBrk, sCnt, sExp, sRet, sRetN, sIf, sSet, sAsg, sAug, sPar2, sPar3, tN, DL.tTup, DL.tNil, DL.tCons, DL.tSub, iSeq, srcOf_tup, srcOf_fl, srcOf_kl, srcOf_ti, iRange1, iRange2, sFor, startD, List.map_cons, List.map_nil, List.length_cons, List.length_nil, List.replicate, List.cons_append, List.nil_append, List.getElem?_cons_zero, List.getElem?_cons_succ, List.set_cons_zero, List.set_cons_succ, dSub_int, dFdiv_int, dMod_int, dLt_int, dLe_int, dGt_int, dGe_int, dAddI_int, dSubI_int, dIsN_non, isN, dAdd_int, ll0, ll1, ll2, ll3, ll4, ll5, ll6, ll7, ll8, ll9, ll10, ll11, ll12, ll13, ll14, ll15, ll16, ll17, ll18, ll19, ll20, ll21, ll22, ll23, ll24, ll25, ll26, ll27, ll28, ll29, ll30, ll31, ll32, ll33, ll34, ll35, ll36, ll37, ll38, ll39, ll40, Nat.reduceSub, Nat.reduceAdd, Nat.reduceEqDiff, if_true, if_false, ifp_t, ifp_f, reduceIte, Bool.true_eq_false, Bool.false_eq_true, Option.map_some, Option.map_none, Option.bind_some, Option.bind_none, tSq, sSet2, seqOf_fl, seqOf_tup, seqOf_ti, L1_is_tree, il, pp, it, Bool.not_false]
      | true =>
        rw [ht] at it
        obtain ⟨ds, rfl⟩ : ∃ ds, w = .tup ds := by
          cases w with
          | tup ds => exact ⟨ds, rfl⟩
          | _ => cases ht
        have ln : ∀ S, bLen [.tup ds] S = .ok (.int (ds.length : Int)) S := fun S => rfl
        rw [szv] at esz
        by_cases h5 : 5 < ds.length
        · rw [if_pos h5] at esz
          have h5' : (5 : Int) < (ds.length : Int) := by omega
          refine ⟨_, none, rfl, .inr ⟨by omega, W.dropLast, ?_⟩⟩
          refine whileD_ret cd ?_
          simp only [eVar, eC, eOp, eT, eAnd, eOr, eNot, eIf, eAndV, eOrV, eNotV, eCall, aNil, aCons, aStar, sOf, eTup, eFl, eLoc, eSl, oNone, oSome, iOf, eNeg, eChain, eMt, bOf, eDict0, eRev, eListRg, iZipD, sRaise1, sRaise0, eCallV, List.lookup, R.bind_ok, R.bind_er, R.bind_stuck, R.toS_ok, R.toS_er, R.toS_stuck, SR.next_nx, SR.next_rt, SR.next_er, SR.next_bk, SR.next_ct, SR.next_stuck, sNil, sSeq, sBrk, sCnt, sExp, sRet, sRetN, sIf, sSet, sAsg, sAug, sPar2, sPar3, tN, DL.tTup, DL.tNil, DL.tCons, DL.tSub, iSeq, srcOf_tup, srcOf_fl, srcOf_kl, srcOf_ti, iRange1, iRange2, sFor, startD, List.map_cons, List.map_nil, List.length_cons, List.length_nil, List.replicate, List.cons_append, List.nil_append, List.getElem?_cons_zero, List.getElem?_cons_succ, List.set_cons_zero, List.set_cons_succ, dSub_int, dFdiv_int, dMod_int, dLt_int, dLe_int, dGt_int, dGe_int, dAddI_int, dSubI_int, dIsN_non, isN, dAdd_int, ll0, ll1, ll2, ll3, ll4, ll5, ll6, ll7, ll8, ll9, ll10, ll11, ll12, ll13, ll14, ll15, ll16, ll17, ll18, ll19, ll20, ll21, ll22, ll23, ll24, ll25, ll26, ll27, ll28, ll29, ll30, ll31, ll32, ll33, ll34, ll35, ll36, ll37, ll38, ll39, ll40, Nat.reduceSub, Nat.reduceAdd, Nat.reduceEqDiff, if_true, if_false, ifp_t, ifp_f, reduceIte, Bool.true_eq_false, Bool.false_eq_true, Option.map_some, Option.map_none, Option.bind_some, Option.bind_none, tSq, sSet2, seqOf_fl, seqOf_tup, seqOf_ti, L1_is_tree, il, pp, it, Bool.not_true, ln, d_MAX_ARITY, h5', decide_true]
        · rw [if_neg h5] at esz
          have h5' : ¬ (5 : Int) < (ds.length : Int) := by omega
          by_cases h24 : (24 : Int) < (k : Int) + 1
          · refine ⟨_, none, rfl, .inr ⟨by omega, W.dropLast, ?_⟩⟩
            refine whileD_ret cd ?_
            simp only [eVar, eC, eOp, eT, eAnd, eOr, eNot, eIf, eAndV, eOrV, eNotV, eCall, aNil, aCons, aStar, sOf, eTup, eFl, eLoc, eSl, oNone, oSome, iOf, eNeg, eChain, eMt, bOf, eDict0, eRev, eListRg, iZipD, sRaise1, sRaise0, eCallV, List.lookup, R.bind_ok, R.bind_er, R.bind_stuck, R.toS_ok, R.toS_er, R.toS_stuck, SR.next_nx, SR.next_rt, SR.next_er, SR.next_bk, SR.next_ct, SR.next_stuck, sNil, sSeq, sBrk, sCnt, sExp, sRet, sRetN, sIf, sSet, sAsg, sAug, sPar2, sPar3, tN, DL.tTup, DL.tNil, DL.tCons, DL.tSub, iSeq, srcOf_tup, srcOf_fl, srcOf_kl, srcOf_ti, iRange1, iRange2, sFor, startD, List.map_cons, List.map_nil, List.length_cons, List.length_nil, List.replicate, List.cons_append, List.nil_append, List.getElem?_cons_zero, List.getElem?_cons_succ, List.set_cons_zero, List.set_cons_succ, dSub_int, dFdiv_int, dMod_int, dLt_int, dLe_int, dGt_int, dGe_int, dAddI_int, dSubI_int, dIsN_non, isN, dAdd_int, ll0, ll1, ll2, ll3, ll4, ll5, ll6, ll7, ll8, ll9, ll10, ll11, ll12, ll13, ll14, ll15, ll16, ll17, ll18, ll19, ll20, ll21, ll22, ll23, ll24, ll25, ll26, ll27, ll28, ll29, ll30, ll31, ll32, ll33, ll34, ll35, ll36, ll37, ll38, ll39, ll40, Nat.reduceSub, Nat.reduceAdd, Nat.reduceEqDiff, if_true, if_false, ifp_t, ifp_f, reduceIte, Bool.true_eq_false, Bool.false_eq_true, Option.map_some, Option.map_none, Option.bind_some, Option.bind_none, tSq, sSet2, seqOf_fl, seqOf_tup, seqOf_ti, L1_is_tree, il, pp, it, Bool.not_true, ln, d_MAX_ARITY, h5', decide_false, d_MAX_TOKENS, h24, decide_true]
          · have ex : mExtendA (.loc S0.length) [.tup ds] (wtS S0 W.dropLast) = .ok .non (wtS S0 (W.dropLast ++ ds)) := by
              show (match getL (wtS S0 W.dropLast) S0.length with
                | some xs => ifp (xs.length + ds.length ≤ sizeLine) (R.ok D.non ((wtS S0 W.dropLast).set S0.length (.lst (xs ++ ds)))) .stuck
                | none => .stuck) = _
              unfold wtS
              rw [getL_end]
              show ifp (W.dropLast.length + ds.length ≤ sizeLine) (R.ok D.non ((S0 ++ [Ob.lst W.dropLast]).set S0.length (.lst (W.dropLast ++ ds)))) .stuck = _
              rw [ifp_pos (Nat.le_trans (show W.dropLast.length + ds.length ≤ 1000 by omega) (by decide)), set_end]
            have il2 : isLst (wtS S0 W.dropLast) (.loc S0.length) = true := isLst_at (getL_end S0 W.dropLast)
            have bd : L1_is_tree [x0, some (.loc S0.length), some (.int (k : Int)), x3] (wtS S0 W) = .nx [x0, some (.loc S0.length), some (.int ((k : Int) + 1)), some (.tup ds)] (wtS S0 (W.dropLast ++ ds)) := by
              simp only [eVar, eC, eOp, eT, eAnd, eOr, eNot, eIf, eAndV, eOrV, eNotV, eCall, aNil, aCons, aStar, sOf, eTup, eFl, eLoc, eSl, oNone, oSome, iOf, eNeg, eChain, eMt, bOf, eDict0, eRev, eListRg, iZipD, sRaise1, sRaise0, eCallV, List.lookup, R.bind_ok, R.bind_er, R.bind_stuck, R.toS_ok, R.toS_er, R.toS_stuck, SR.next_nx, SR.next_rt, SR.next_er, SR.next_bk, SR.next_ct, SR.next_stuck, sNil, sSeq, sBrk, sCnt, sExp, sRet, sRetN, sIf, sSet, sAsg, sAug, sPar2, sPar3, tN, DL.tTup, DL.tNil, DL.tCons, DL.tSub, iSeq, srcOf_tup, srcOf_fl, srcOf_kl, srcOf_ti, iRange1, iRange2, sFor, startD, List.map_cons, List.map_nil, List.length_cons, List.length_nil, List.replicate, List.cons_append, List.nil_append, List.getElem?_cons_zero, List.getElem?_cons_succ, List.set_cons_zero, List.set_cons_succ, dSub_int, dFdiv_int, dMod_int, dLt_int, dLe_int, dGt_int, dGe_int, dAddI_int, dSubI_int, dIsN_non, isN, dAdd_int, ll0, ll1, ll2, ll3, ll4, ll5, ll6, ll7, ll8, ll9, ll10, ll11, ll12, ll13, ll14, ll15, ll16, ll17, ll18, ll19, ll20, ll21, ll22, ll23, ll24, ll25, ll26, ll27, ll28, ll29, ll30, ll31, ll32, ll33, ll34, ll35, ll36, ll37, ll38, ll39, ll40, Nat.reduceSub, Nat.reduceAdd, Nat.reduceEqDiff, if_true, if_false, ifp_t, ifp_f, reduceIte, Bool.true_eq_false, Bool.false_eq_true, Option.map_some, Option.map_none, Option.bind_some, Option.bind_none, tSq, sSet2, seqOf_fl, seqOf_tup, seqOf_ti, L1_is_tree, il, pp, it, Bool.not_true, ln, d_MAX_ARITY, h5', decide_false, d_MAX_TOKENS, h24, il2, ex]
            obtain ⟨r, y3, e1, e2⟩ := tree_loop S0 x0 (M := M) f (W.dropLast ++ ds) (k + 1) (some (.tup ds)) (fun x hx => by
              rcases List.mem_append.mp hx with hx | hx
              · exact hW x (List.dropLast_subset W hx)
              · exact tw.items x hx) (by omega) (by rw [List.length_append]; omega) (by omega)
            refine ⟨r, y3, ?_, ?_⟩
            · rw [whileD_next cd bd]
              have : (k : Int) + 1 = ((k + 1 : Nat) : Int) := by omega
              rw [this]
              exact e1
            · rw [szvs_app] at e2
              rcases e2 with ⟨a, b⟩ | ⟨a, b⟩
              · exact .inl ⟨by omega, b⟩
              · exact .inr ⟨by omega, b⟩
theorem close_A {S0 l : Sto} {d : D} (hd : low S0.length d = true) : close S0 d (S0 ++ l) = .ok d S0 := by
  unfold close
  split
  · rename_i h
    have : l = [] := by simpa using h
    rw [this, List.append_nil]
  · rw [if_pos ⟨Trunc.same _ _, hd⟩, List.take_left]
theorem fnC_rtA {n m : Nat} {B : Ev → Sto → SR} {ds : List D} {S0 l : Sto} {d : D} (hm : ds.length = m) (h : B (startD n ds) S0 = .rt d (S0 ++ l)) (hd : low S0.length d = true) : fnC close n m B ds S0 = .ok d S0 := by
  unfold fnC
  rw [if_pos hm, h]
  exact close_A hd
theorem is_tree_ok {M : Nat} {v : D} (hv : Tm M v) (S : Sto) : F_is_tree [v] S = .ok (.bl (decide (szv v < 25))) S := by
  have hst : startD 4 [v] = [some v, none, none, none] := rfl
  obtain ⟨r, y3, e1, e2⟩ := tree_loop S (some v) (M := M) 4000 [v] 0 none (fun w hw => by rw [List.mem_singleton.mp hw]; exact hv) (by omega) (by simp) (by omega)
  have es : szvs [v] = szv v := by rw [szvs, szvs]; rfl
  rw [es] at e2
  have e1' : whileD C1_is_tree L1_is_tree 4000 [some v, some (.loc S.length), some (.int 0), none] (S ++ [.lst [v]]) = r := e1
  rcases e2 with ⟨a, m, W', rfl⟩ | ⟨a, W', rfl⟩
  · rw [decide_eq_true (by omega)]
    refine fnC_rtA (l := [.lst W']) rfl ?_ rfl
    rw [hst]
    unfold B_is_tree
    simp only [eVar, eC, eOp, eT, eAnd, eOr, eNot, eIf, eAndV, eOrV, eNotV, eCall, aNil, aCons, aStar, sOf, eTup, eFl, eLoc, eSl, oNone, oSome, iOf, eNeg, eChain, eMt, bOf, eDict0, eRev, eListRg, iZipD, sRaise1, sRaise0, eCallV, List.lookup, R.bind_ok, R.bind_er, R.bind_stuck, R.toS_ok, R.toS_er, R.toS_stuck, SR.next_nx, SR.next_rt, SR.next_er, SR.next_bk, SR.next_ct, SR.next_stuck, sNil, sSeq, sBrk, sCnt, sExp, sRet, sRetN, sIf, sSet, sAsg, sAug, sPar2, sPar3, tN, DL.tTup, DL.tNil, DL.tCons, DL.tSub, iSeq, srcOf_tup, srcOf_fl, srcOf_kl, srcOf_ti, iRange1, iRange2, sFor, startD, List.map_cons, List.map_nil, List.length_cons, List.length_nil, List.replicate, List.cons_append, List.nil_append, List.getElem?_cons_zero, List.getElem?_cons_succ, List.set_cons_zero, List.set_cons_succ, dSub_int, dFdiv_int, dMod_int, dLt_int, dLe_int, dGt_int, dGe_int, dAddI_int, dSubI_int, dIsN_non, isN, dAdd_int, ll0, ll1, ll2, ll3, ll4, ll5, ll6, ll7, ll8, ll9, ll10, ll11, ll12, ll13, ll14, ll15, ll16, ll17, ll18, ll19, ll20, ll21, ll22, ll23, ll24, ll25, ll26, ll27, ll28, ll29, ll30, ll31, ll32, ll33, ll34, ll35, ll36, ll37, ll38, ll39, ll40, Nat.reduceSub, Nat.reduceAdd, Nat.reduceEqDiff, if_true, if_false, ifp_t, ifp_f, reduceIte, Bool.true_eq_false, Bool.false_eq_true, Option.map_some, Option.map_none, Option.bind_some, Option.bind_none, tSq, sSet2, seqOf_fl, seqOf_tup, seqOf_ti, e1']
    rfl
  · rw [decide_eq_false (by omega)]
    refine fnC_rtA (l := [.lst W']) rfl ?_ rfl
    rw [hst]
    unfold B_is_tree
    simp only [eVar, eC, eOp, eT, eAnd, eOr, eNot, eIf, eAndV, eOrV, eNotV, eCall, aNil, aCons, aStar, sOf, eTup, eFl, eLoc, eSl, oNone, oSome, iOf, eNeg, eChain, eMt, bOf, eDict0, eRev, eListRg, iZipD, sRaise1, sRaise0, eCallV, List.lookup, R.bind_ok, R.bind_er, R.bind_stuck, R.toS_ok, R.toS_er, R.toS_stuck, SR.next_nx, SR.next_rt, SR.next_er, SR.next_bk, SR.next_ct, SR.next_stuck, sNil, sSeq, sBrk, sCnt, sExp, sRet, sRetN, sIf, sSet, sAsg, sAug, sPar2, sPar3, tN, DL.tTup, DL.tNil, DL.tCons, DL.tSub, iSeq, srcOf_tup, srcOf_fl, srcOf_kl, srcOf_ti, iRange1, iRange2, sFor, startD, List.map_cons, List.map_nil, List.length_cons, List.length_nil, List.replicate, List.cons_append, List.nil_append, List.getElem?_cons_zero, List.getElem?_cons_succ, List.set_cons_zero, List.set_cons_succ, dSub_int, dFdiv_int, dMod_int, dLt_int, dLe_int, dGt_int, dGe_int, dAddI_int, dSubI_int, dIsN_non, isN, dAdd_int, ll0, ll1, ll2, ll3, ll4, ll5, ll6, ll7, ll8, ll9, ll10, ll11, ll12, ll13, ll14, ll15, ll16, ll17, ll18, ll19, ll20, ll21, ll22, ll23, ll24, ll25, ll26, ll27, ll28, ll29, ll30, ll31, ll32, ll33, ll34, ll35, ll36, ll37, ll38, ll39, ll40, Nat.reduceSub, Nat.reduceAdd, Nat.reduceEqDiff, if_true, if_false, ifp_t, ifp_f, reduceIte, Bool.true_eq_false, Bool.false_eq_true, Option.map_some, Option.map_none, Option.bind_some, Option.bind_none, tSq, sSet2, seqOf_fl, seqOf_tup, seqOf_ti, e1']
    rfl
def chD : Nat → D
  | 0 => .tup []
  | n + 1 => .tup [chD n]
def uu : D := .tup []
def w1 : D := .tup [uu, uu, uu, uu]
def w5 : D := .tup [w1, w1, w1, w1, .tup [uu, uu]]
def u5 : D := .tup [uu, uu, uu, uu, uu]
def edL : List D := [chD 23, .tup [chD 23], .tup [], w5, .tup [w1, w1, w1, w1, uu], .tup [w1, w1, w1, w1, .tup [uu, uu]], .tup [w1, w1, w1, w1, .tup [uu, uu], uu], u5, .tup [uu, uu, uu, uu, uu, uu], .tup [u5, u5, u5, u5], .tup [u5, u5, u5, .tup [uu, uu, uu, uu]]]
theorem edges_ok (S : Sto) (h0 : 0 < S.length) : F__law_edges [.loc 1] S = .ok (.fl edL) S := by
  have hst : startD 5 [D.loc 1] = [some (.loc 1), none, none, none, none] := rfl
  have loop : ∀ (n k : Nat) (x2 x3 x4 : Option D), ∃ y3, forD yes (tN 3) L1__law_edges sNil (rangeD (k : Int) n) [some (.loc 1), some (chD k), x2, x3, x4] S = .nx [some (.loc 1), some (chD (k + n)), x2, y3, x4] S := by
    intro n
    induction n with
    | zero => intro k x2 x3 x4; exact ⟨x3, by show forD yes (tN 3) L1__law_edges sNil [] _ S = _; rw [forD_nil trivial]; rfl⟩
    | succ n ih =>
      intro k x2 x3 x4
      obtain ⟨y3, e⟩ := ih (k + 1) x2 (some (.int k)) x4
      refine ⟨y3, ?_⟩
      have rg : rangeD (k : Int) (n + 1) = .int (k : Int) :: rangeD ((k + 1 : Nat) : Int) n := by rw [rangeD_cons]; rfl
      have st : L1__law_edges [some (.loc 1), some (chD k), x2, some (.int (k : Int)), x4] S = .nx [some (.loc 1), some (chD (k + 1)), x2, some (.int (k : Int)), x4] S := by
        simp only [eVar, eC, eOp, eT, eAnd, eOr, eNot, eIf, eAndV, eOrV, eNotV, eCall, aNil, aCons, aStar, sOf, eTup, eFl, eLoc, eSl, oNone, oSome, iOf, eNeg, eChain, eMt, bOf, eDict0, eRev, eListRg, iZipD, sRaise1, sRaise0, eCallV, List.lookup, R.bind_ok, R.bind_er, R.bind_stuck, R.toS_ok, R.toS_er, R.toS_stuck, SR.next_nx, SR.next_rt, SR.next_er, SR.next_bk, SR.next_ct, SR.next_stuck, sNil, sSeq, sBrk, sCnt, sExp, sRet, sRetN, sIf, sSet, sAsg, sAug, sPar2, sPar3, tN, DL.tTup, DL.tNil, DL.tCons, DL.tSub, iSeq, srcOf_tup, srcOf_fl, srcOf_kl, srcOf_ti, iRange1, iRange2, sFor, startD, List.map_cons, List.map_nil, List.length_cons, List.length_nil, List.replicate, List.cons_append, List.nil_append, List.getElem?_cons_zero, List.getElem?_cons_succ, List.set_cons_zero, List.set_cons_succ, dSub_int, dFdiv_int, dMod_int, dLt_int, dLe_int, dGt_int, dGe_int, dAddI_int, dSubI_int, dIsN_non, isN, dAdd_int, ll0, ll1, ll2, ll3, ll4, ll5, ll6, ll7, ll8, ll9, ll10, ll11, ll12, ll13, ll14, ll15, ll16, ll17, ll18, ll19, ll20, ll21, ll22, ll23, ll24, ll25, ll26, ll27, ll28, ll29, ll30, ll31, ll32, ll33, ll34, ll35, ll36, ll37, ll38, ll39, ll40, Nat.reduceSub, Nat.reduceAdd, Nat.reduceEqDiff, if_true, if_false, ifp_t, ifp_f, reduceIte, Bool.true_eq_false, Bool.false_eq_true, Option.map_some, Option.map_none, Option.bind_some, Option.bind_none, tSq, sSet2, seqOf_fl, seqOf_tup, seqOf_ti, L1__law_edges]
        rfl
      rw [rg, forD_cons (ρ1 := [some (.loc 1), some (chD k), x2, some (.int (k : Int)), x4]) (S1 := S) trivial rfl st, e, show k + 1 + n = k + (n + 1) by omega]
  obtain ⟨y3, lp⟩ := loop 23 0 (some w1) none none
  have lp' : forD yes (tN 3) L1__law_edges sNil (rangeD 0 23) [some (.loc 1), some (.tup []), some (.tup [.tup [], .tup [], .tup [], .tup []]), none, none] S = .nx [some (.loc 1), some (chD 23), some (.tup [.tup [], .tup [], .tup [], .tup []]), y3, none] S := lp
  have hr : ((-(2 ^ 62) : Int) ≤ 23 ∧ (23 : Int) < 2 ^ 62) = True := by simp
  have e23 : Int.toNat 23 = 23 := rfl
  have s1 : ∀ S, dSl mkFl (chD 23) none (some (-1)) S = .ok (.tup []) S := fun S => rfl
  have s2 : ∀ S, dSl mkFl (.tup [.tup [.tup [], .tup [], .tup [], .tup []], .tup [.tup [], .tup [], .tup [], .tup []], .tup [.tup [], .tup [], .tup [], .tup []], .tup [.tup [], .tup [], .tup [], .tup []], .tup [.tup [], .tup []]]) none (some (-1)) S = .ok (.tup [w1, w1, w1, w1]) S := fun S => rfl
  have a1 : ∀ d S, dAdd (.tup [w1, w1, w1, w1]) (.tup [d]) S = .ok (.tup [w1, w1, w1, w1, d]) S := fun d S => add_tup [w1, w1, w1, w1] [d] (by simp) S
  have a2 : ∀ S, dAdd (.tup [.tup [.tup [], .tup [], .tup [], .tup []], .tup [.tup [], .tup [], .tup [], .tup []], .tup [.tup [], .tup [], .tup [], .tup []], .tup [.tup [], .tup [], .tup [], .tup []], .tup [.tup [], .tup []]]) (.tup [.tup []]) S = .ok (.tup [w1, w1, w1, w1, .tup [uu, uu], uu]) S := fun S => add_tup [w1, w1, w1, w1, .tup [uu, uu]] [uu] (by simp) S
  have ml : ∀ (n : Nat) (d : D) S, n ≤ 6 → dMulT (.tup [d]) (.int (n : Int)) S = .ok (.tup (List.replicate n [d]).flatten) S := fun n d S hn => by
    show ifp (-(2 ^ 63) ≤ (n : Int) ∧ (n : Int) ≤ 1000 ∧ [d].length ≤ 1000) (R.ok (D.tup (List.replicate (n : Int).toNat [d]).flatten) S) .stuck = _
    rw [ifp_pos ⟨by omega, by omega, by simp⟩, Int.toNat_natCast]
  have m5 : ∀ S, dMulT (.tup [.tup []]) (.int 5) S = .ok u5 S := fun S => ml 5 _ S (by omega)
  have m6 : ∀ S, dMulT (.tup [.tup []]) (.int 6) S = .ok (.tup [uu, uu, uu, uu, uu, uu]) S := fun S => ml 6 _ S (by omega)
  have m4 : ∀ S, dMulT (.tup [.tup []]) (.int 4) S = .ok (.tup [uu, uu, uu, uu]) S := fun S => ml 4 _ S (by omega)
  have m54 : ∀ S, dMulT (.tup [u5]) (.int 4) S = .ok (.tup [u5, u5, u5, u5]) S := fun S => ml 4 _ S (by omega)
  have m53 : ∀ S, dMulT (.tup [u5]) (.int 3) S = .ok (.tup [u5, u5, u5]) S := fun S => ml 3 _ S (by omega)
  have a3 : ∀ S, dAdd (.tup [u5, u5, u5]) (.tup [.tup [uu, uu, uu, uu]]) S = .ok (.tup [u5, u5, u5, .tup [uu, uu, uu, uu]]) S := fun S => add_tup [u5, u5, u5] [.tup [uu, uu, uu, uu]] (by simp) S
  have a4 : ∀ a b c d e f g h i j k S, dAdd (.fl [a, b, c, d, e, f, g]) (.fl [h, i, j, k]) S = .ok (.fl [a, b, c, d, e, f, g, h, i, j, k]) S := fun a b c d e f g h i j k S => add_fl [a, b, c, d, e, f, g] [h, i, j, k] (by simp) S
  refine fnC_rt rfl ?_ rfl
  rw [hst]
  unfold B__law_edges edL
  generalize chD 23 = C23 at *
  simp only [eVar, eC, eOp, eT, eAnd, eOr, eNot, eIf, eAndV, eOrV, eNotV, eCall, aNil, aCons, aStar, sOf, eTup, eFl, eLoc, eSl, oNone, oSome, iOf, eNeg, eChain, eMt, bOf, eDict0, eRev, eListRg, iZipD, sRaise1, sRaise0, eCallV, List.lookup, R.bind_ok, R.bind_er, R.bind_stuck, R.toS_ok, R.toS_er, R.toS_stuck, SR.next_nx, SR.next_rt, SR.next_er, SR.next_bk, SR.next_ct, SR.next_stuck, sNil, sSeq, sBrk, sCnt, sExp, sRet, sRetN, sIf, sSet, sAsg, sAug, sPar2, sPar3, tN, DL.tTup, DL.tNil, DL.tCons, DL.tSub, iSeq, srcOf_tup, srcOf_fl, srcOf_kl, srcOf_ti, iRange1, iRange2, sFor, startD, List.map_cons, List.map_nil, List.length_cons, List.length_nil, List.replicate, List.cons_append, List.nil_append, List.getElem?_cons_zero, List.getElem?_cons_succ, List.set_cons_zero, List.set_cons_succ, dSub_int, dFdiv_int, dMod_int, dLt_int, dLe_int, dGt_int, dGe_int, dAddI_int, dSubI_int, dIsN_non, isN, dAdd_int, ll0, ll1, ll2, ll3, ll4, ll5, ll6, ll7, ll8, ll9, ll10, ll11, ll12, ll13, ll14, ll15, ll16, ll17, ll18, ll19, ll20, ll21, ll22, ll23, ll24, ll25, ll26, ll27, ll28, ll29, ll30, ll31, ll32, ll33, ll34, ll35, ll36, ll37, ll38, ll39, ll40, Nat.reduceSub, Nat.reduceAdd, Nat.reduceEqDiff, if_true, if_false, ifp_t, ifp_f, reduceIte, Bool.true_eq_false, Bool.false_eq_true, Option.map_some, Option.map_none, Option.bind_some, Option.bind_none, tSq, sSet2, seqOf_fl, seqOf_tup, seqOf_ti, hr, e23, lp', s1, s2, a1, a2, m5, m6, m4, m54, m53, a3, a4]
  rfl
theorem ed_g : ∀ d ∈ edL, G 60 30 (10 ^ 30) d := by
  have tt : ∀ (n : Nat), Tm (10 ^ 30) (chD n) := fun n => by
    induction n with
    | zero => exact .tup (by simp)
    | succ n ih => exact .tup fun d hd => by rw [List.mem_singleton.mp hd]; exact ih
  have tu : Tm (10 ^ 30) uu := .tup (by simp)
  have mk : ∀ ds : List D, (∀ d ∈ ds, Tm (10 ^ 30) d) → Tm (10 ^ 30) (.tup ds) := fun ds h => .tup h
  have t2 : Tm (10 ^ 30) (.tup [uu, uu]) := mk _ (by simp [tu])
  have tw : Tm (10 ^ 30) w1 := mk _ (by simp [tu])
  have t5 : Tm (10 ^ 30) u5 := mk _ (by simp [tu])
  have t4 : Tm (10 ^ 30) (.tup [uu, uu, uu, uu]) := mk _ (by simp [tu])
  have hb : edL.all (fun d => decide (bulkD d ≤ 60) && decide (depD d ≤ 30)) = true := by decide +kernel
  intro d hd
  have := List.all_eq_true.mp hb d hd
  simp only [Bool.and_eq_true, decide_eq_true_eq] at this
  refine ⟨?_, this.1, this.2⟩
  unfold edL at hd
  simp only [List.mem_cons, List.not_mem_nil, or_false] at hd
  rcases hd with rfl | rfl | rfl | rfl | rfl | rfl | rfl | rfl | rfl | rfl | rfl
  · exact tt 23
  · exact mk _ (by simp [tt 23])
  · exact tu
  · exact mk _ (by simp [tw, t2])
  · exact mk _ (by simp [tw, tu])
  · exact mk _ (by simp [tw, t2])
  · exact mk _ (by simp [tw, t2, tu])
  · exact t5
  · exact mk _ (by simp [tu])
  · exact mk _ (by simp [t5])
  · exact mk _ (by simp [t5, t4])
mutual
theorem Tre.tm {M : Nat} : ∀ t : Tre, Tm M t.d
  | .nd cs => by rw [Tre.d]; exact .tup (Tre.tms cs)
theorem Tre.tms {M : Nat} : ∀ ts : List Tre, ∀ d ∈ Tre.ds ts, Tm M d
  | [], d, h => by simp [Tre.ds] at h
  | t :: ts, d, h => by
    rw [Tre.ds] at h
    rcases List.mem_cons.mp h with rfl | h
    · exact Tre.tm t
    · exact Tre.tms ts d h
end
abbrev GV (v : D) : Prop := G 2600 31 (10 ^ 31) v
theorem one_ok {v : D} (g : GV v) (x0 x1 x2 x3 x4 x5 x6 x8 : Option D) (S : Sto) : ∃ y8, L2_law [x0, x1, x2, x3, x4, x5, x6, some v, x8] S = .nx [x0, x1, x2, x3, x4, x5, x6, some v, y8] S := by
  have rv := repr_s (g.shw (by decide)) (by decide) (by decide)
  have tr := is_tree_ok g.tm
  have sz := size_ok 40 g.tm (by have := g.dep; omega)
  have rb := repr_s (shw_bl (b := decide (szv v < 25))) (by decide) (by decide)
  have e25 : decide (((szv v : Nat) : Int) < 25) = decide (szv v < 25) := by rw [Bool.eq_iff_iff, decide_eq_true_iff, decide_eq_true_iff]; omega
  refine ⟨some (.str (shD v)), ?_⟩
  unfold L2_law
  generalize F__law_size 40 = FS at *
  simp only [eVar, eC, eOp, eT, eAnd, eOr, eNot, eIf, eAndV, eOrV, eNotV, eCall, aNil, aCons, aStar, sOf, eTup, eFl, eLoc, eSl, oNone, oSome, iOf, eNeg, eChain, eMt, bOf, eDict0, eRev, eListRg, iZipD, sRaise1, sRaise0, eCallV, List.lookup, R.bind_ok, R.bind_er, R.bind_stuck, R.toS_ok, R.toS_er, R.toS_stuck, SR.next_nx, SR.next_rt, SR.next_er, SR.next_bk, SR.next_ct, SR.next_stuck, sNil, sSeq, sBrk, sCnt, sExp, sRet, sRetN, sIf, sSet, sAsg, sAug, sPar2, sPar3, tN, DL.tTup, DL.tNil, DL.tCons, DL.tSub, iSeq, srcOf_tup, srcOf_fl, srcOf_kl, srcOf_ti, iRange1, iRange2, sFor, startD, List.map_cons, List.map_nil, List.length_cons, List.length_nil, List.replicate, List.cons_append, List.nil_append, List.getElem?_cons_zero, List.getElem?_cons_succ, List.set_cons_zero, List.set_cons_succ, dSub_int, dFdiv_int, dMod_int, dLt_int, dLe_int, dGt_int, dGe_int, dAddI_int, dSubI_int, dIsN_non, isN, dAdd_int, ll0, ll1, ll2, ll3, ll4, ll5, ll6, ll7, ll8, ll9, ll10, ll11, ll12, ll13, ll14, ll15, ll16, ll17, ll18, ll19, ll20, ll21, ll22, ll23, ll24, ll25, ll26, ll27, ll28, ll29, ll30, ll31, ll32, ll33, ll34, ll35, ll36, ll37, ll38, ll39, ll40, Nat.reduceSub, Nat.reduceAdd, Nat.reduceEqDiff, if_true, if_false, ifp_t, ifp_f, reduceIte, Bool.true_eq_false, Bool.false_eq_true, Option.map_some, Option.map_none, Option.bind_some, Option.bind_none, tSq, sSet2, seqOf_fl, seqOf_tup, seqOf_ti, rv, tr, sz, e25, rb, dEq_str, decide_true, Bool.not_true]
theorem turn_ok (sc : Option D) {S : Sto} {n : Nat} (hS : Strm S n []) (hn : n + 1000 < 2 ^ 60) (d : D) (x3 x4 x5 x6 x7 x8 : Option D) :
    ∃ y3 y4 y5 y6 y7 y8 S', L3_law [sc, some (.loc 1), some d, x3, x4, x5, x6, x7, x8] S = .nx [sc, some (.loc 1), some d, y3, y4, y5, y6, y7, y8] S' ∧ Strm S' (n + 1000) [] := by
  obtain ⟨t, S1, t1, tok, tsz, s1⟩ := tree_ok hS (by omega)
  obtain ⟨o1, S2, q1, m1, s2⟩ := odd_ok s1 (by omega)
  have tb := t.bulk
  have td := t.dep
  have gt : G 23 24 (10 ^ 29) t.d := ⟨Tre.tm t, by omega, by omega⟩
  have gm : ∀ {v}, G 60 30 (10 ^ 30) v → GV v := fun h => h.mono (by omega) (by omega) (by omega)
  obtain ⟨ds, hds⟩ : ∃ ds, t.d = .tup ds := by
    cases t with
    | nd cs => exact ⟨Tre.ds cs, by rw [Tre.d]⟩
  rw [hds] at gt t1
  have gb := gt.bulk
  have gd := gt.dep
  rw [bulkD] at gb
  rw [depD] at gd
  have ll := bulk_len ds
  have gi := gt.tm.items
  have dl : ∀ x ∈ ds, depD x ≤ 23 := fun x hx => by have := dep_mem hx; omega
  have a1 : ∀ S, dAdd (.tup ds) (.tup [.tup []]) S = .ok (.tup (ds ++ [.tup []])) S := fun S => add_tup _ _ (by simp; omega) S
  have ls : ∀ S, bList mkFl [.tup ds] S = .ok (.fl ds) S := fun S => rfl
  have rokfl : rok (.fl ds) = true := by
    have := gt.tm.rok (by decide)
    have h1 : DL.rok (.tup ds) = rokL ds := by rw [DL.rok]
    have h2 : DL.rok (.fl ds) = rokL ds := by rw [DL.rok]
    rw [h2, ← h1]; exact this
  have gfl : G 60 30 (10 ^ 30) (.fl ds) := ⟨.leaf rfl rokfl rfl rfl, by rw [bulkD]; omega, by rw [depD]; omega⟩
  have V0 : ∀ v ∈ [D.tup ds, .tup [.tup ds], .tup (ds ++ [.tup []]), .fl ds, .tup [.fl ds], o1, .tup [.tup ds, .tup ds]], GV v := by
    simp only [List.mem_cons, List.not_mem_nil, or_false]
    rintro v (rfl | rfl | rfl | rfl | rfl | rfl | rfl)
    · exact gt.mono (by omega) (by omega) (by omega)
    · exact gm (g_tup (b := 60) (k := 29) (fun x hx => by rw [List.mem_singleton.mp hx]; exact gt.tm.mono (by omega)) (by rw [bulkL, bulkL, bulkD]; omega) fun x hx => by rw [List.mem_singleton.mp hx, depD]; omega)
    · refine gm (g_tup (b := 60) (k := 29) (fun x hx => ?_) (by rw [bulk_app, bulkL, bulkL, bulkD, bulkL]; omega) fun x hx => ?_)
      · rcases List.mem_append.mp hx with hx | hx
        · exact (gi x hx).mono (by omega)
        · rw [List.mem_singleton.mp hx]; exact .tup (by simp)
      · rcases List.mem_append.mp hx with hx | hx
        · have := dl x hx; omega
        · rw [List.mem_singleton.mp hx, depD, depL]; omega
    · exact gm gfl
    · exact gm (g_tup (b := 60) (k := 29) (fun x hx => by rw [List.mem_singleton.mp hx]; exact gfl.tm) (by rw [bulkL, bulkL, bulkD]; omega) fun x hx => by rw [List.mem_singleton.mp hx, depD]; omega)
    · exact (g_odd (M := 10 ^ 29) (by omega) m1).mono (by omega) (by omega) (by omega)
    · refine gm (g_tup (b := 60) (k := 29) (fun x hx => ?_) (by rw [bulkL, bulkL, bulkL, bulkD]; omega) fun x hx => ?_)
      · simp only [List.mem_cons, List.not_mem_nil, or_false] at hx
        rcases hx with rfl | rfl <;> exact gt.tm.mono (by omega)
      · simp only [List.mem_cons, List.not_mem_nil, or_false] at hx
        rcases hx with rfl | rfl <;> (rw [depD]; omega)
  obtain ⟨W0, hW0⟩ : ∃ W0 : List D, W0 = [D.tup ds, .tup [.tup ds], .tup (ds ++ [.tup []]), .fl ds, .tup [.fl ds], o1, .tup [.tup ds, .tup ds]] := ⟨_, rfl⟩
  rw [← hW0] at V0
  -- six bent trees
  obtain ⟨ρ5, S5, ⟨⟨y5, y6, V5, rfl, hl5, v5⟩, s5⟩, f5⟩ := forD_all (T := tN 5) (B := L1_law) (Z := sNil) (fun i ρ S => (∃ y5 y6, ∃ V : List D, ρ = [sc, some (.loc 1), some d, some (.tup ds), some (.fl V), y5, y6, x7, x8] ∧ V.length = 7 + 2 * i ∧ ∀ v ∈ V, GV v) ∧ Strm S (n + 60 + 40 * i) [])
    (rangeD 0 6) 0 [sc, some (.loc 1), some d, some (.tup ds), some (.fl W0), x5, x6, x7, x8] S2 ⟨⟨x5, x6, W0, rfl, by rw [hW0]; rfl, V0⟩, s2.mono (by omega)⟩ (by
      rintro j dj ρ S' hj ⟨⟨y5, y6, V, rfl, hVl, hV⟩, sj⟩
      obtain ⟨hj', rfl⟩ := rangeD_get hj
      obtain ⟨w, S3, w1, s3, gw⟩ := bent_any 9 30 gt (by omega) (by omega) (by omega) sj (by omega)
      obtain ⟨w', S4, w1', s4, gw'⟩ := bent_any 3 36 gw (by omega) (by omega) (by omega) s3 (by omega)
      have e1 : F__law_bent 40 [.loc 1, .tup ds, .int 9] S' = .ok w S3 := w1
      have e2 : F__law_bent 40 [.loc 1, w, .int 3] S3 = .ok w' S4 := w1'
      have ad : ∀ S, dAdd (.fl V) (.fl [w, w']) S = .ok (.fl (V ++ [w, w'])) S := fun S => add_fl _ _ (by rw [hVl]; simp; omega) S
      refine ⟨_, S', _, S4, rfl, .inl ?_, ⟨some (.int (0 + (j : Int))), some w, V ++ [w, w'], rfl, by rw [List.length_append, hVl]; simp; omega, ?_⟩, s4.mono (by omega)⟩
      · show L1_law [sc, some (.loc 1), some d, some (.tup ds), some (.fl V), some (.int (0 + (j : Int))), y6, x7, x8] S' = _
        unfold L1_law
        generalize F__law_bent 40 = FB at *
        simp only [eVar, eC, eOp, eT, eAnd, eOr, eNot, eIf, eAndV, eOrV, eNotV, eCall, aNil, aCons, aStar, sOf, eTup, eFl, eLoc, eSl, oNone, oSome, iOf, eNeg, eChain, eMt, bOf, eDict0, eRev, eListRg, iZipD, sRaise1, sRaise0, eCallV, List.lookup, R.bind_ok, R.bind_er, R.bind_stuck, R.toS_ok, R.toS_er, R.toS_stuck, SR.next_nx, SR.next_rt, SR.next_er, SR.next_bk, SR.next_ct, SR.next_stuck, sNil, sSeq, sBrk, sCnt, sExp, sRet, sRetN, sIf, sSet, sAsg, sAug, sPar2, sPar3, tN, DL.tTup, DL.tNil, DL.tCons, DL.tSub, iSeq, srcOf_tup, srcOf_fl, srcOf_kl, srcOf_ti, iRange1, iRange2, sFor, startD, List.map_cons, List.map_nil, List.length_cons, List.length_nil, List.replicate, List.cons_append, List.nil_append, List.getElem?_cons_zero, List.getElem?_cons_succ, List.set_cons_zero, List.set_cons_succ, dSub_int, dFdiv_int, dMod_int, dLt_int, dLe_int, dGt_int, dGe_int, dAddI_int, dSubI_int, dIsN_non, isN, dAdd_int, ll0, ll1, ll2, ll3, ll4, ll5, ll6, ll7, ll8, ll9, ll10, ll11, ll12, ll13, ll14, ll15, ll16, ll17, ll18, ll19, ll20, ll21, ll22, ll23, ll24, ll25, ll26, ll27, ll28, ll29, ll30, ll31, ll32, ll33, ll34, ll35, ll36, ll37, ll38, ll39, ll40, Nat.reduceSub, Nat.reduceAdd, Nat.reduceEqDiff, if_true, if_false, ifp_t, ifp_f, reduceIte, Bool.true_eq_false, Bool.false_eq_true, Option.map_some, Option.map_none, Option.bind_some, Option.bind_none, tSq, sSet2, seqOf_fl, seqOf_tup, seqOf_ti, e1, e2, ad]
      · intro v hv
        rcases List.mem_append.mp hv with hv | hv
        · exact hV v hv
        · simp only [List.mem_cons, List.not_mem_nil, or_false] at hv
          rcases hv with rfl | rfl
          · exact gw.mono (by omega) (by omega) (by omega)
          · exact gw'.mono (by omega) (by omega) (by omega))
  rw [rangeD_len] at hl5 s5
  have ed := edges_ok S5 (by rw [s5.len]; simp)
  have ad : ∀ S, dAdd (.fl V5) (.fl edL) S = .ok (.fl (V5 ++ edL)) S := fun S => add_fl _ _ (by rw [hl5]; show _ + 11 ≤ _; omega) S
  obtain ⟨ρ7, ⟨y7, y8, rfl⟩, f7⟩ := forD_pure (T := tN 7) (B := L2_law) (Z := sNil) (S := S5) (fun ρ => ∃ y7 y8, ρ = [sc, some (.loc 1), some d, some (.tup ds), some (.fl V5), y5, y6, y7, y8])
    (V5 ++ edL) [sc, some (.loc 1), some d, some (.tup ds), some (.fl V5), y5, y6, x7, x8] ⟨x7, x8, rfl⟩ (by
      rintro v hv ρ ⟨y7, y8, rfl⟩
      have gv : GV v := by
        rcases List.mem_append.mp hv with hv | hv
        · exact v5 v hv
        · exact gm (ed_g v hv)
      obtain ⟨z8, e⟩ := one_ok gv sc (some (.loc 1)) (some d) (some (.tup ds)) (some (.fl V5)) y5 y6 y8 S5
      exact ⟨_, _, rfl, .inl e, _, _, rfl⟩)
  refine ⟨some (.tup ds), some (.fl V5), y5, y6, y7, y8, S5, ?_, s5.mono (by omega)⟩
  have hr : ((-(2 ^ 62) : Int) ≤ 6 ∧ (6 : Int) < 2 ^ 62) = True := by simp
  rw [hW0] at f5
  have src : ∀ S, srcOf (.fl (V5 ++ edL)) S = .ok (V5 ++ edL, yes) S := fun S => rfl
  unfold L3_law
  generalize V5 ++ edL = VE at *
  generalize edL = EL at *
  simp only [eVar, eC, eOp, eT, eAnd, eOr, eNot, eIf, eAndV, eOrV, eNotV, eCall, aNil, aCons, aStar, sOf, eTup, eFl, eLoc, eSl, oNone, oSome, iOf, eNeg, eChain, eMt, bOf, eDict0, eRev, eListRg, iZipD, sRaise1, sRaise0, eCallV, List.lookup, R.bind_ok, R.bind_er, R.bind_stuck, R.toS_ok, R.toS_er, R.toS_stuck, SR.next_nx, SR.next_rt, SR.next_er, SR.next_bk, SR.next_ct, SR.next_stuck, sNil, sSeq, sBrk, sCnt, sExp, sRet, sRetN, sIf, sSet, sAsg, sAug, sPar2, sPar3, tN, DL.tTup, DL.tNil, DL.tCons, DL.tSub, iSeq, srcOf_tup, srcOf_fl, srcOf_kl, srcOf_ti, iRange1, iRange2, sFor, startD, List.map_cons, List.map_nil, List.length_cons, List.length_nil, List.replicate, List.cons_append, List.nil_append, List.getElem?_cons_zero, List.getElem?_cons_succ, List.set_cons_zero, List.set_cons_succ, dSub_int, dFdiv_int, dMod_int, dLt_int, dLe_int, dGt_int, dGe_int, dAddI_int, dSubI_int, dIsN_non, isN, dAdd_int, ll0, ll1, ll2, ll3, ll4, ll5, ll6, ll7, ll8, ll9, ll10, ll11, ll12, ll13, ll14, ll15, ll16, ll17, ll18, ll19, ll20, ll21, ll22, ll23, ll24, ll25, ll26, ll27, ll28, ll29, ll30, ll31, ll32, ll33, ll34, ll35, ll36, ll37, ll38, ll39, ll40, Nat.reduceSub, Nat.reduceAdd, Nat.reduceEqDiff, if_true, if_false, ifp_t, ifp_f, reduceIte, Bool.true_eq_false, Bool.false_eq_true, Option.map_some, Option.map_none, Option.bind_some, Option.bind_none, tSq, sSet2, seqOf_fl, seqOf_tup, seqOf_ti, t1, a1, ls, q1, hr, show Int.toNat 6 = 6 from rfl, f5, ed, ad, src, f7]
theorem law_ok : LawOk F_law := by
  refine law_num (N := 6) (cost := 1000) (fun sc ρ => ∃ x2 x3 x4 x5 x6 x7 x8, ρ = [sc, some (.loc 1), x2, x3, x4, x5, x6, x7, x8]) (by decide) (by decide) (fun sc => ⟨_, _, _, _, _, _, _, rfl⟩) (by decide) ?_
  rintro sc i ρ S n hi ⟨x2, x3, x4, x5, x6, x7, x8, rfl⟩ hS hn
  obtain ⟨y3, y4, y5, y6, y7, y8, S', h1, h2⟩ := turn_ok sc hS hn (.int (i : Int)) x3 x4 x5 x6 x7 x8
  exact ⟨_, _, h1, ⟨_, _, _, _, _, _, _, rfl⟩, h2⟩
end TX
namespace TX
open PySem PySem.Spec L2 DL
open PyProof.Rows hiding St
structure Tx (K : PySem.W.Frag) (mg : Str → Option Value) (f__law_stream f__law_draw f__law_nested f__law_tree f__law_odd f__law_pick f__law_bent f__law_edges f_is_tree f__law_size f_law : Addr) : Prop where
  mg__law_stream : mg "_law_stream" = some (.ref f__law_stream)
  kp__law_stream : PySem.W.keepIn K (.ref f__law_stream) = true
  mg__law_draw : mg "_law_draw" = some (.ref f__law_draw)
  kp__law_draw : PySem.W.keepIn K (.ref f__law_draw) = true
  mg__law_nested : mg "_law_nested" = some (.ref f__law_nested)
  kp__law_nested : PySem.W.keepIn K (.ref f__law_nested) = true
  mg__law_tree : mg "_law_tree" = some (.ref f__law_tree)
  kp__law_tree : PySem.W.keepIn K (.ref f__law_tree) = true
  mg__law_odd : mg "_law_odd" = some (.ref f__law_odd)
  kp__law_odd : PySem.W.keepIn K (.ref f__law_odd) = true
  mg__law_pick : mg "_law_pick" = some (.ref f__law_pick)
  kp__law_pick : PySem.W.keepIn K (.ref f__law_pick) = true
  mg__law_bent : mg "_law_bent" = some (.ref f__law_bent)
  kp__law_bent : PySem.W.keepIn K (.ref f__law_bent) = true
  mg__law_edges : mg "_law_edges" = some (.ref f__law_edges)
  kp__law_edges : PySem.W.keepIn K (.ref f__law_edges) = true
  mg_is_tree : mg "is_tree" = some (.ref f_is_tree)
  kp_is_tree : PySem.W.keepIn K (.ref f_is_tree) = true
  mg__law_size : mg "_law_size" = some (.ref f__law_size)
  kp__law_size : PySem.W.keepIn K (.ref f__law_size) = true
  n_range : mg "range" = none
  n_list : mg "list" = none
  n_repr : mg "repr" = none
  n_abs : mg "abs" = none
  n_len : mg "len" = none
  n_max : mg "max" = none
  n_tuple : mg "tuple" = none
  n_isinstance : mg "isinstance" = none
  n_int : mg "int" = none
  n_str : mg "str" = none
  n_sum : mg "sum" = none
  n_min : mg "min" = none
section
variable {P : Program} {w : World} {K : PySem.W.Frag} {mg : Str → Option Value} {base : Heap} {f__law_stream f__law_draw f__law_nested f__law_tree f__law_odd f__law_pick f__law_bent f__law_edges f_is_tree f__law_size f_law : Addr}
variable {u_MAX_ARITY : Value}
variable {u_MAX_TOKENS : Value}
theorem sc__law_stream : FnScope nm__law_stream ["_law_script"] (defScope st__law_stream) := ⟨rfl, rfl, rfl, by decide +kernel, rfl, by decide +kernel, by decide +kernel⟩
set_option maxHeartbeats 4000000 in
theorem fn__law_stream {fd : FuncData} (T : Tx K mg f__law_stream f__law_draw f__law_nested f__law_tree f__law_odd f__law_pick f__law_bent f__law_edges f_is_tree f__law_size f_law) (Fu : Fun K "_law_stream" "_law_stream" st__law_stream f__law_stream fd) : FnD true P w K mg base 1 f__law_stream F__law_stream := by
  have nd := (sc__law_stream).nd
  exact fnD_of Fu sc__law_stream (Fu.binds fun _ _ _ _ _ _ us hl => match us, hl with | [_], _ => rfl) cl_keep fun cdv A outer s H E hr hG tk po =>
    (dss_cons (ds_setLc 1 (own := [("_law_cell", 2)]) fin_fl (ct_name 2) rfl nd (di_seq (de_var 0)) (blkOk_by (own := [("_law_cell", 2)]) (N := nm__law_stream) (sc := defScope st__law_stream) (by decide +kernel)) (fun _ _ _ _ _ => pg_name (i := 2) nd rfl (Or.inl rfl)) (fun _ _ _ _ _ => dts_nil) (fun _ _ _ _ _ => (de_callB call_abs k_abs T.n_abs (by decide +kernel) (da_cons (de_var 2) da_nil))))
    (dss_one (ds_ret (de_loc (da_cons (de_lc (own := [("_law_cell", 2)]) fin_loc (ct_name 2) rfl nd (di_seq (de_var 1)) (blkOk_by (own := [("_law_cell", 2)]) (N := nm__law_stream) (sc := defScope st__law_stream) (by decide +kernel)) (fun _ _ _ _ _ => pg_name (i := 2) nd rfl (Or.inl rfl)) (fun _ _ _ _ _ => (dts_one (dt_cmp op_ge k_ge (de_var 2) (de_op op_pow k_pow de_int de_int) (nomark _)))) (fun _ _ _ _ _ => (de_var 2))) (da_cons (de_op or_add k_add (de_var 1) (de_fl (da_cons (de_op or_add k_add (de_callB c_len k_len T.n_len (by decide +kernel) (da_cons (de_var 1) da_nil)) de_int) da_nil))) (da_cons de_int da_nil)))))))
theorem sc__law_draw : FnScope nm__law_draw ["_law_stream_here", "_law_many"] (defScope st__law_draw) := ⟨rfl, rfl, rfl, by decide +kernel, rfl, by decide +kernel, by decide +kernel⟩
set_option maxHeartbeats 4000000 in
theorem fn__law_draw {fd : FuncData} (T : Tx K mg f__law_stream f__law_draw f__law_nested f__law_tree f__law_odd f__law_pick f__law_bent f__law_edges f_is_tree f__law_size f_law) (Fu : Fun K "_law_draw" "_law_draw" st__law_draw f__law_draw fd) : FnD true P w K mg base 1 f__law_draw F__law_draw := by
  have nd := (sc__law_draw).nd
  exact fnD_of Fu sc__law_draw (Fu.binds fun _ _ _ _ _ _ us hl => match us, hl with | [_, _], _ => rfl) cl_drop fun cdv A outer s H E hr hG tk po =>
    (dss_cons (ds_while 4000 po (dt_cmp (or_ne hr.units) k_neD (de_ix (de_var 0) de_int) (de_fl da_nil) (nomark _)) (dss_cons (ds_set 2 nd (de_ix (de_ix (de_var 0) de_int) de_int))
    (dss_cons (ds_if (dt_cmp op_gt k_gt (de_var 2) de_int (nomark _)) (dss_cons (ds_asg (de_op op_fdivW k_fdiv (de_var 2) (de_var 1)) (dg_sub (W := (fun cls d _ H' => E cls d H')) (de_ix (de_var 0) de_int) de_int))
    (dss_one (ds_ret (de_op op_modN k_mod (de_var 2) (de_var 1))))) dss_nil)
    (dss_one (ds_expr (de_bm PySem.F.plainAttrs_list PySem.F.slot_list_pop PySem.F.type_list_pop mt_popAt k_popAt chk_lst (de_ix (de_var 0) de_int) (da_cons de_int da_nil)))))))
    (dss_cons (ds_set 3 nd (de_op or_add k_add (de_ix (de_var 0) de_int) de_int))
    (dss_cons (ds_asg (de_var 3) (dg_sub (W := (fun cls d _ H' => E cls d H')) (de_var 0) de_int))
    (dss_cons (ds_set 4 nd (de_op op_modN k_mod (de_ix (de_ix (de_var 0) de_int) (de_op op_modN k_mod (de_var 3) (de_callB c_len k_len T.n_len (by decide +kernel) (da_cons (de_ix (de_var 0) de_int) da_nil)))) de_int))
    (dss_cons (ds_set 5 nd (de_op op_modN k_mod (de_op or_add k_add (de_op or_add k_add (de_op or_mul k_mul (de_var 4) (de_op or_add k_add de_int (de_op or_mul k_mul de_int (de_var 3)))) (de_op or_mul k_mul (de_op or_mul k_mul de_int (de_var 3)) (de_var 3))) de_int) de_int))
    (dss_one (ds_ret (de_op op_modN k_mod (de_op op_fdivW k_fdiv (de_op op_modN k_mod (de_op or_mul k_mul (de_var 5) (de_var 5)) de_int) de_int) (de_var 1)))))))))
theorem sc__law_nested : FnScope nm__law_nested ["_law_below", "_law_node"] (defScope st__law_nested) := ⟨rfl, rfl, rfl, by decide +kernel, rfl, by decide +kernel, by decide +kernel⟩
set_option maxHeartbeats 4000000 in
theorem fn__law_nested {fd : FuncData} (T : Tx K mg f__law_stream f__law_draw f__law_nested f__law_tree f__law_odd f__law_pick f__law_bent f__law_edges f_is_tree f__law_size f_law) (Fu : Fun K "_law_nested" "_law_nested" st__law_nested f__law_nested fd) (n : Nat) : FnD true P w K mg base (1 + n) f__law_nested (F__law_nested n) := by
  induction n with
  | zero => exact fnD_stuck
  | succ n G__law_nested =>
  have nd := (sc__law_nested).nd
  show FnD true P w K mg base (1 + n + 1) f__law_nested (fnC close 3 2 (B__law_nested (F__law_nested n)))
  exact fnD_of Fu sc__law_nested (Fu.binds fun _ _ _ _ _ _ us hl => match us, hl with | [_, _], _ => rfl) cl_drop fun cdv A outer s H E hr hG tk po =>
    (dss_one (ds_ret (de_callTy call_tuple_of k_tuple T.n_tuple (by decide +kernel) (da_cons (de_lc (own := [("_law_child", 2)]) fin_fl (ct_name 2) rfl nd (di_seq (de_ix (de_var 0) (de_var 1))) (blkOk_by (own := [("_law_child", 2)]) (N := nm__law_nested) (sc := defScope st__law_nested) (by decide +kernel)) (fun _ _ _ _ _ => pg_name (i := 2) nd rfl (Or.inl rfl)) (fun _ _ _ _ _ => dts_nil) (fun _ _ _ _ _ => (de_callD G__law_nested (hr.mono (by omega)) hG takes0 T.mg__law_nested T.kp__law_nested (da_cons (de_var 0) (da_cons (de_var 2) da_nil))))) da_nil))))
theorem sc__law_tree : FnScope nm__law_tree ["_law_stream_here", "_law_most"] (defScope st__law_tree) := ⟨rfl, rfl, rfl, by decide +kernel, rfl, by decide +kernel, by decide +kernel⟩
set_option maxHeartbeats 4000000 in
theorem fn__law_tree {fd : FuncData} (T : Tx K mg f__law_stream f__law_draw f__law_nested f__law_tree f__law_odd f__law_pick f__law_bent f__law_edges f_is_tree f__law_size f_law) (Fu : Fun K "_law_tree" "_law_tree" st__law_tree f__law_tree fd) (G__law_draw : FnD true P w K mg base 1 f__law_draw F__law_draw) (G__law_nested : FnD true P w K mg base 41 f__law_nested (F__law_nested 40)) : FnD true P w K mg base 42 f__law_tree F__law_tree := by
  have nd := (sc__law_tree).nd
  exact fnD_of Fu sc__law_tree (Fu.binds fun _ _ _ _ _ _ us hl => match us, hl with | [_, _], _ => rfl) cl_drop fun cdv A outer s H E hr hG tk po =>
    (dss_cons (ds_par2 2 3 rfl nd (da_cons (de_op or_add k_add de_int (de_callD G__law_draw (hr.mono (by decide)) hG tk T.mg__law_draw T.kp__law_draw (da_cons (de_var 0) (da_cons (de_var 1) da_nil)))) (da_cons (de_callD G__law_draw (hr.mono (by decide)) hG tk T.mg__law_draw T.kp__law_draw (da_cons (de_var 0) (da_cons de_int da_nil))) da_nil)))
    (dss_cons (ds_set 5 nd (de_lc (own := [("_law_k", 4)]) fin_loc (ct_name 4) rfl nd (di_range1 rfl T.n_range (da_cons (de_var 2) da_nil)) (blkOk_by (own := [("_law_k", 4)]) (N := nm__law_tree) (sc := defScope st__law_tree) (by decide +kernel)) (fun _ _ _ _ _ => pg_name (i := 4) nd rfl (Or.inl rfl)) (fun _ _ _ _ _ => dts_nil) (fun _ _ _ _ _ => (de_loc da_nil))))
    (dss_cons (ds_for po rfl (di_range2 rfl T.n_range (da_cons de_int (da_cons (de_var 2) da_nil))) (dg_name 4 nd) (dss_cons (ds_set 6 nd (de_ix (de_fl (da_cons (de_op op_sub k_sub (de_var 4) de_int) (da_cons de_int (da_cons (de_callD G__law_draw (hr.mono (by decide)) hG tk T.mg__law_draw T.kp__law_draw (da_cons (de_var 0) (da_cons (de_var 4) da_nil))) (da_cons (de_callB (c_max rfl) k_max T.n_max (by decide +kernel) (da_cons de_int (da_cons (de_op op_sub k_sub (de_op op_sub k_sub (de_var 4) de_int) (de_callD G__law_draw (hr.mono (by decide)) hG tk T.mg__law_draw T.kp__law_draw (da_cons (de_var 0) (da_cons de_int da_nil)))) da_nil))) da_nil))))) (de_var 3)))
    (dss_cons (ds_setLc 7 (own := [("_law_node", 8)]) fin_fl (ct_name 8) rfl nd (di_seq (de_op or_add k_add (de_fl (da_cons (de_var 6) da_nil)) (de_listRg mk_fl rfl T.n_list T.n_range (de_var 4)))) (blkOk_by (own := [("_law_node", 8)]) (N := nm__law_tree) (sc := defScope st__law_tree) (by decide +kernel)) (fun _ _ _ _ _ => pg_name (i := 8) nd rfl (Or.inl rfl)) (fun _ _ _ _ _ => (dts_one (dt_cmp op_lt k_lt (de_callB c_len k_len T.n_len (by decide +kernel) (da_cons (de_ix (de_var 5) (de_var 8)) da_nil)) de_int (nomark _)))) (fun _ _ _ _ _ => (de_var 8)))
    (dss_one (ds_expr (de_bm PySem.F.plainAttrs_list PySem.F.slot_list_append PySem.F.type_list_append mt_append k_append chk_lst (de_ix (de_var 5) (de_ix (de_var 7) de_int)) (da_cons (de_var 4) da_nil)))))) dss_nil)
    (dss_one (ds_ret (de_callD G__law_nested (hr.mono (by decide)) hG tk T.mg__law_nested T.kp__law_nested (da_cons (de_var 5) (da_cons de_int da_nil))))))))
theorem sc__law_odd : FnScope nm__law_odd ["_law_stream_here"] (defScope st__law_odd) := ⟨rfl, rfl, rfl, by decide +kernel, rfl, by decide +kernel, by decide +kernel⟩
set_option maxHeartbeats 4000000 in
theorem fn__law_odd {fd : FuncData} (T : Tx K mg f__law_stream f__law_draw f__law_nested f__law_tree f__law_odd f__law_pick f__law_bent f__law_edges f_is_tree f__law_size f_law) (Fu : Fun K "_law_odd" "_law_odd" st__law_odd f__law_odd fd) (G__law_draw : FnD true P w K mg base 1 f__law_draw F__law_draw) : FnD true P w K mg base 2 f__law_odd F__law_odd := by
  have nd := (sc__law_odd).nd
  exact fnD_of Fu sc__law_odd (Fu.binds fun _ _ _ _ _ _ us hl => match us, hl with | [_], _ => rfl) cl_drop fun cdv A outer s H E hr hG tk po =>
    (dss_cons (ds_set 1 nd (de_fl (da_cons de_non (da_cons de_bl (da_cons de_bl (da_cons (de_neg de_int) (da_cons de_int (da_cons de_int (da_cons de_int (da_cons de_int (da_cons de_int (da_cons de_int (da_cons (de_op op_pow k_pow de_int de_int) (da_cons de_str (da_cons de_str (da_cons (de_tup da_nil) (da_cons (de_fl da_nil) (da_cons de_dict0 (da_cons (de_tup (da_cons de_int da_nil)) (da_cons (de_fl (da_cons de_int da_nil)) (da_cons (de_tup (da_cons de_bl da_nil)) (da_cons (de_tup (da_cons (de_tup da_nil) da_nil)) (da_cons de_str da_nil)))))))))))))))))))))))
    (dss_one (ds_ret (de_ix (de_op or_add k_add (de_var 1) (de_fl (da_cons (de_tup (da_cons de_int (da_cons de_int da_nil))) (da_cons (de_dispC (dpc_cons (key := (Sum.inr "a")) pe_str pe_int (fun _ _ => int_rep) dpc_nil)) (da_cons (de_tup (da_cons de_int (da_cons de_int (da_cons de_int da_nil)))) da_nil))))) (de_callD G__law_draw (hr.mono (by decide)) hG tk T.mg__law_draw T.kp__law_draw (da_cons (de_var 0) (da_cons de_int da_nil)))))))
theorem sc__law_pick : FnScope nm__law_pick ["_law_stream_here", "_law_items"] (defScope st__law_pick) := ⟨rfl, rfl, rfl, by decide +kernel, rfl, by decide +kernel, by decide +kernel⟩
set_option maxHeartbeats 4000000 in
theorem fn__law_pick {fd : FuncData} (T : Tx K mg f__law_stream f__law_draw f__law_nested f__law_tree f__law_odd f__law_pick f__law_bent f__law_edges f_is_tree f__law_size f_law) (Fu : Fun K "_law_pick" "_law_pick" st__law_pick f__law_pick fd) (G__law_draw : FnD true P w K mg base 1 f__law_draw F__law_draw) : FnD true P w K mg base 2 f__law_pick F__law_pick := by
  have nd := (sc__law_pick).nd
  exact fnD_of Fu sc__law_pick (Fu.binds fun _ _ _ _ _ _ us hl => match us, hl with | [_, _], _ => rfl) cl_drop fun cdv A outer s H E hr hG tk po =>
    (dss_one (ds_ret (de_ix (de_var 1) (de_callD G__law_draw (hr.mono (by decide)) hG tk T.mg__law_draw T.kp__law_draw (da_cons (de_var 0) (da_cons (de_callB c_len k_len T.n_len (by decide +kernel) (da_cons (de_var 1) da_nil)) da_nil))))))
theorem sc__law_bent : FnScope nm__law_bent ["_law_stream_here", "_law_value", "_law_deep"] (defScope st__law_bent) := ⟨rfl, rfl, rfl, by decide +kernel, rfl, by decide +kernel, by decide +kernel⟩
set_option maxHeartbeats 4000000 in
theorem fn__law_bent {fd : FuncData} (T : Tx K mg f__law_stream f__law_draw f__law_nested f__law_tree f__law_odd f__law_pick f__law_bent f__law_edges f_is_tree f__law_size f_law) (Fu : Fun K "_law_bent" "_law_bent" st__law_bent f__law_bent fd) (G__law_draw : FnD true P w K mg base 1 f__law_draw F__law_draw) (G__law_odd : FnD true P w K mg base 2 f__law_odd F__law_odd) (G__law_pick : FnD true P w K mg base 2 f__law_pick F__law_pick) (n : Nat) : FnD true P w K mg base (3 + n) f__law_bent (F__law_bent n) := by
  induction n with
  | zero => exact fnD_stuck
  | succ n G__law_bent =>
  have nd := (sc__law_bent).nd
  show FnD true P w K mg base (3 + n + 1) f__law_bent (fnC close 5 3 (B__law_bent (F__law_bent n)))
  exact fnD_of Fu sc__law_bent (Fu.binds fun _ _ _ _ _ _ us hl => match us, hl with | [_, _, _], _ => rfl) cl_drop fun cdv A outer s H E hr hG tk po =>
    (dss_cons (ds_if (dw_t (dw_and (dt_cmp op_gt k_gt (de_var 2) de_int (nomark _)) (dw_and (dt_val (de_callB call_isi k_isi T.n_isinstance (by decide +kernel) (da_cons (de_var 1) (da_cons (de_bty T.n_tuple (by decide +kernel)) da_nil)))) (dw_and (dt_cmp (or_neZ hr.units) k_neZ (de_var 1) (de_tup da_nil) (nomark _)) (dw_and1 (dt_cmp op_gt k_gt (de_callD G__law_draw (hr.mono (by omega)) hG tk T.mg__law_draw T.kp__law_draw (da_cons (de_var 0) (da_cons de_int da_nil))) de_int (nomark _))))))) (dss_cons (ds_set 3 nd (de_callD G__law_draw (hr.mono (by omega)) hG tk T.mg__law_draw T.kp__law_draw (da_cons (de_var 0) (da_cons (de_callB c_len k_len T.n_len (by decide +kernel) (da_cons (de_var 1) da_nil)) da_nil))))
    (dss_one (ds_ret (de_op op_addN k_addN (de_op op_addN k_addN (de_sl mk_fl (de_var 1) do_none (do_some (de_var 3))) (de_tup (da_cons (de_callD G__law_bent (hr.mono (by omega)) hG tk T.mg__law_bent T.kp__law_bent (da_cons (de_var 0) (da_cons (de_ix (de_var 1) (de_var 3)) (da_cons (de_op op_subN k_subN (de_var 2) de_int) da_nil)))) da_nil))) (de_sl mk_fl (de_var 1) (do_some (de_op op_addN k_addN (de_var 3) de_int)) do_none))))) dss_nil)
    (dss_cons (ds_set 4 nd (de_fl (da_cons (de_callD G__law_odd (hr.mono (by omega)) hG tk T.mg__law_odd T.kp__law_odd (da_cons (de_var 0) da_nil)) (da_cons (de_callD G__law_odd (hr.mono (by omega)) hG tk T.mg__law_odd T.kp__law_odd (da_cons (de_var 0) da_nil)) da_nil))))
    (dss_cons (ds_if (dt_val (de_callB call_isi k_isi T.n_isinstance (by decide +kernel) (da_cons (de_var 1) (da_cons (de_bty T.n_tuple (by decide +kernel)) da_nil)))) (dss_one (ds_set 4 nd (de_op op_addN k_addN (de_var 4) (de_fl (da_cons (de_callTy call_list_of (k_list mk_fl) T.n_list (by decide +kernel) (da_cons (de_var 1) da_nil)) (da_cons (de_sl mk_fl (de_var 1) (do_some de_int) do_none) (da_cons (de_op op_addN k_addN (de_var 1) (de_sl mk_fl (de_var 1) (do_some (de_neg de_int)) do_none)) (da_cons (de_rev mk_fl (de_var 1)) (da_cons (de_tup (da_cons (de_var 1) da_nil)) (da_cons (de_op op_addN k_addN (de_var 1) (de_tup (da_cons (de_tup da_nil) da_nil))) da_nil)))))))))) (dss_one (ds_if (dt_val (de_callB call_isi k_isi T.n_isinstance (by decide +kernel) (da_cons (de_var 1) (da_cons (de_bty T.n_int (by decide +kernel)) da_nil)))) (dss_one (ds_set 4 nd (de_op op_addN k_addN (de_var 4) (de_fl (da_cons (de_op op_addN k_addN (de_var 1) de_int) (da_cons (de_op op_subN k_subN (de_var 1) de_int) (da_cons (de_cmp (or_eq hr.units) k_eqD (de_var 1) de_int (nomark _)) (da_cons (de_callTy call_strO k_strO T.n_str (by decide +kernel) (da_cons (de_var 1) da_nil)) (da_cons de_int da_nil))))))))) dss_nil)))
    (dss_one (ds_ret (de_callD G__law_pick (hr.mono (by omega)) hG tk T.mg__law_pick T.kp__law_pick (da_cons (de_var 0) (da_cons (de_var 4) da_nil))))))))
theorem sc__law_edges : FnScope nm__law_edges ["_law_stream_here"] (defScope st__law_edges) := ⟨rfl, rfl, rfl, by decide +kernel, rfl, by decide +kernel, by decide +kernel⟩
set_option maxHeartbeats 4000000 in
theorem fn__law_edges {fd : FuncData} (T : Tx K mg f__law_stream f__law_draw f__law_nested f__law_tree f__law_odd f__law_pick f__law_bent f__law_edges f_is_tree f__law_size f_law) (Fu : Fun K "_law_edges" "_law_edges" st__law_edges f__law_edges fd) : FnD true P w K mg base 1 f__law_edges F__law_edges := by
  have nd := (sc__law_edges).nd
  exact fnD_of Fu sc__law_edges (Fu.binds fun _ _ _ _ _ _ us hl => match us, hl with | [_], _ => rfl) cl_drop fun cdv A outer s H E hr hG tk po =>
    (dss_cons (ds_asg (de_tup (da_cons (de_tup da_nil) (da_cons (de_tup (da_cons (de_tup da_nil) (da_cons (de_tup da_nil) (da_cons (de_tup da_nil) (da_cons (de_tup da_nil) da_nil))))) da_nil))) (dg_tup rfl (dgs_cons (dg_name 1 nd) (dgs_cons (dg_name 2 nd) dgs_nil))))
    (dss_cons (ds_for po rfl (di_range1 rfl T.n_range (da_cons de_int da_nil)) (dg_name 3 nd) (dss_one (ds_set 1 nd (de_tup (da_cons (de_var 1) da_nil)))) dss_nil)
    (dss_cons (ds_set 2 nd (de_tup (da_cons (de_var 2) (da_cons (de_var 2) (da_cons (de_var 2) (da_cons (de_var 2) (da_cons (de_tup (da_cons (de_tup da_nil) (da_cons (de_tup da_nil) da_nil))) da_nil)))))))
    (dss_cons (ds_set 4 nd (de_fl (da_cons (de_var 1) (da_cons (de_tup (da_cons (de_var 1) da_nil)) (da_cons (de_sl mk_fl (de_var 1) do_none (do_some (de_neg de_int))) (da_cons (de_var 2) (da_cons (de_op or_add k_add (de_sl mk_fl (de_var 2) do_none (do_some (de_neg de_int))) (de_tup (da_cons (de_tup da_nil) da_nil))) (da_cons (de_op or_add k_add (de_sl mk_fl (de_var 2) do_none (do_some (de_neg de_int))) (de_tup (da_cons (de_tup (da_cons (de_tup da_nil) (da_cons (de_tup da_nil) da_nil))) da_nil))) (da_cons (de_op or_add k_add (de_var 2) (de_tup (da_cons (de_tup da_nil) da_nil))) da_nil)))))))))
    (dss_one (ds_ret (de_op or_add k_add (de_var 4) (de_fl (da_cons (de_op or_mulT k_mulT (de_tup (da_cons (de_tup da_nil) da_nil)) de_int) (da_cons (de_op or_mulT k_mulT (de_tup (da_cons (de_tup da_nil) da_nil)) de_int) (da_cons (de_op or_mulT k_mulT (de_tup (da_cons (de_op or_mulT k_mulT (de_tup (da_cons (de_tup da_nil) da_nil)) de_int) da_nil)) de_int) (da_cons (de_op or_add k_add (de_op or_mulT k_mulT (de_tup (da_cons (de_op or_mulT k_mulT (de_tup (da_cons (de_tup da_nil) da_nil)) de_int) da_nil)) de_int) (de_tup (da_cons (de_op or_mulT k_mulT (de_tup (da_cons (de_tup da_nil) da_nil)) de_int) da_nil))) da_nil))))))))))))
theorem sc_is_tree : FnScope nm_is_tree ["value"] (defScope st_is_tree) := ⟨rfl, rfl, rfl, by decide +kernel, rfl, by decide +kernel, by decide +kernel⟩
set_option maxHeartbeats 4000000 in
theorem fn_is_tree {fd : FuncData} (T : Tx K mg f__law_stream f__law_draw f__law_nested f__law_tree f__law_odd f__law_pick f__law_bent f__law_edges f_is_tree f__law_size f_law) (Fu : Fun K "is_tree" "is_tree" st_is_tree f_is_tree fd) (mg_MAX_ARITY : mg "MAX_ARITY" = some u_MAX_ARITY) (kr_MAX_ARITY : KRep K u_MAX_ARITY d_MAX_ARITY) (mg_MAX_TOKENS : mg "MAX_TOKENS" = some u_MAX_TOKENS) (kr_MAX_TOKENS : KRep K u_MAX_TOKENS d_MAX_TOKENS) : FnD false P w K mg base 1 f_is_tree F_is_tree := by
  have nd := (sc_is_tree).nd
  exact fnD_of Fu sc_is_tree (Fu.binds fun _ _ _ _ _ _ us hl => match us, hl with | [_], _ => rfl) cl_drop fun cdv A outer s H E hr hG tk po =>
    (dss_cons (ds_par2 1 2 rfl nd (da_cons (de_loc (da_cons (de_var 0) da_nil)) (da_cons de_int da_nil)))
    (dss_cons (ds_while 4000 po (dt_cmp (or_neY hr.units) k_neY (de_var 1) (de_fl da_nil) (nomark _)) (dss_cons (ds_set 3 nd (de_bm0 PySem.F.plainAttrs_list PySem.F.slot_list_pop PySem.F.type_list_pop mt_pop k_pop chk_lst (de_var 1)))
    (dss_cons (ds_aug 2 nd de_int ip_add k_ipadd)
    (dss_cons (ds_if (dw_t (dw_or (dt_not (dt_val (de_callB call_isi k_isi T.n_isinstance (by decide +kernel) (da_cons (de_var 3) (da_cons (de_bty T.n_tuple (by decide +kernel)) da_nil))))) (dw_or (dt_cmp op_gt k_gt (de_callB c_len k_len T.n_len (by decide +kernel) (da_cons (de_var 3) da_nil)) (de_glob rfl mg_MAX_ARITY kr_MAX_ARITY) (nomark _)) (dw_or1 (dt_cmp op_gt k_gt (de_var 2) (de_glob rfl mg_MAX_TOKENS kr_MAX_TOKENS) (nomark _)))))) (dss_one (ds_ret de_bl)) dss_nil)
    (dss_one (ds_expr (de_bm PySem.F.plainAttrs_list PySem.F.slot_list_extend PySem.F.type_list_extend mt_extendA k_extendA chk_lst (de_var 1) (da_cons (de_var 3) da_nil))))))))
    (dss_one (ds_ret de_bl))))
theorem sc__law_size : FnScope nm__law_size ["_law_value"] (defScope st__law_size) := ⟨rfl, rfl, rfl, by decide +kernel, rfl, by decide +kernel, by decide +kernel⟩
set_option maxHeartbeats 4000000 in
theorem fn__law_size {fd : FuncData} (T : Tx K mg f__law_stream f__law_draw f__law_nested f__law_tree f__law_odd f__law_pick f__law_bent f__law_edges f_is_tree f__law_size f_law) (Fu : Fun K "_law_size" "_law_size" st__law_size f__law_size fd) (n : Nat) : FnD true P w K mg base (1 + n) f__law_size (F__law_size n) := by
  induction n with
  | zero => exact fnD_stuck
  | succ n G__law_size =>
  have nd := (sc__law_size).nd
  show FnD true P w K mg base (1 + n + 1) f__law_size (fnC close 2 1 (B__law_size (F__law_size n)))
  exact fnD_of Fu sc__law_size (Fu.binds fun _ _ _ _ _ _ us hl => match us, hl with | [_], _ => rfl) cl_drop fun cdv A outer s H E hr hG tk po =>
    (dss_cons (ds_if (dw_t (dw_or (dt_not (dt_val (de_callB call_isi k_isi T.n_isinstance (by decide +kernel) (da_cons (de_var 0) (da_cons (de_bty T.n_tuple (by decide +kernel)) da_nil))))) (dw_or1 (dt_cmp op_gt k_gt (de_callB c_len k_len T.n_len (by decide +kernel) (da_cons (de_var 0) da_nil)) de_int (nomark _))))) (dss_one (ds_ret de_int)) dss_nil)
    (dss_one (ds_ret (de_callB (c_minT rfl) k_minT T.n_min (by decide +kernel) (da_cons de_int (da_cons (de_op or_add k_add de_int (de_callB (cr_sum2 rfl) k_sum2 T.n_sum (by decide +kernel) (da_cons (de_lc (own := [("_law_child", 1)]) fin_fl (ct_name 1) rfl nd (di_seq (de_var 0)) (blkOk_by (own := [("_law_child", 1)]) (N := nm__law_size) (sc := defScope st__law_size) (by decide +kernel)) (fun _ _ _ _ _ => pg_name (i := 1) nd rfl (Or.inl rfl)) (fun _ _ _ _ _ => dts_nil) (fun _ _ _ _ _ => (de_callD G__law_size (hr.mono (by omega)) hG takes0 T.mg__law_size T.kp__law_size (da_cons (de_var 1) da_nil)))) da_nil))) da_nil))))))
theorem sc_law : FnScope nm_law ["_law_script"] (defScope st_law) := ⟨rfl, rfl, rfl, by decide +kernel, rfl, by decide +kernel, by decide +kernel⟩
set_option maxHeartbeats 4000000 in
theorem fn_law {fd : FuncData} (T : Tx K mg f__law_stream f__law_draw f__law_nested f__law_tree f__law_odd f__law_pick f__law_bent f__law_edges f_is_tree f__law_size f_law) (Fu : Fun K "law" "law" st_law f_law fd) (G__law_stream : FnD true P w K mg base 1 f__law_stream F__law_stream) (G__law_tree : FnD true P w K mg base 42 f__law_tree F__law_tree) (G__law_odd : FnD true P w K mg base 2 f__law_odd F__law_odd) (G__law_bent : FnD true P w K mg base 43 f__law_bent (F__law_bent 40)) (G__law_edges : FnD true P w K mg base 1 f__law_edges F__law_edges) (G_is_tree : FnD false P w K mg base 1 f_is_tree F_is_tree) (G__law_size : FnD true P w K mg base 41 f__law_size (F__law_size 40)) (hsys : ∃ o, base.get? sysModules = some o) : FnD true P w K mg base 44 f_law F_law := by
  have nd := (sc_law).nd
  exact fnD_of Fu sc_law (Fu.binds fun _ _ _ _ _ _ us hl => match us, hl with | [_], _ => rfl) cl_drop fun cdv A outer s H E hr hG tk po =>
    (dss_cons (ds_set 1 nd (de_callD G__law_stream (hr.mono (by decide)) hG tk T.mg__law_stream T.kp__law_stream (da_cons (de_var 0) da_nil)))
    (dss_cons (ds_for po rfl (di_range1 rfl T.n_range (da_cons de_int da_nil)) (dg_name 2 nd) (dss_cons (ds_set 3 nd (de_callD G__law_tree (hr.mono (by decide)) hG tk T.mg__law_tree T.kp__law_tree (da_cons (de_var 1) (da_cons de_int da_nil))))
    (dss_cons (ds_set 4 nd (de_fl (da_cons (de_var 3) (da_cons (de_tup (da_cons (de_var 3) da_nil)) (da_cons (de_op or_add k_add (de_var 3) (de_tup (da_cons (de_tup da_nil) da_nil))) (da_cons (de_callTy call_list_of (k_list mk_fl) T.n_list (by decide +kernel) (da_cons (de_var 3) da_nil)) (da_cons (de_tup (da_cons (de_callTy call_list_of (k_list mk_fl) T.n_list (by decide +kernel) (da_cons (de_var 3) da_nil)) da_nil)) (da_cons (de_callD G__law_odd (hr.mono (by decide)) hG tk T.mg__law_odd T.kp__law_odd (da_cons (de_var 1) da_nil)) (da_cons (de_tup (da_cons (de_var 3) (da_cons (de_var 3) da_nil))) da_nil)))))))))
    (dss_cons (ds_for po rfl (di_range1 rfl T.n_range (da_cons de_int da_nil)) (dg_name 5 nd) (dss_cons (ds_set 6 nd (de_callD G__law_bent (hr.mono (by decide)) hG tk T.mg__law_bent T.kp__law_bent (da_cons (de_var 1) (da_cons (de_var 3) (da_cons de_int da_nil)))))
    (dss_one (ds_set 4 nd (de_op or_add k_add (de_var 4) (de_fl (da_cons (de_var 6) (da_cons (de_callD G__law_bent (hr.mono (by decide)) hG tk T.mg__law_bent T.kp__law_bent (da_cons (de_var 1) (da_cons (de_var 6) (da_cons de_int da_nil)))) da_nil))))))) dss_nil)
    (dss_one (ds_for po rfl (di_seq (de_op or_add k_add (de_var 4) (de_callD G__law_edges (hr.mono (by decide)) hG tk T.mg__law_edges T.kp__law_edges (da_cons (de_var 1) da_nil)))) (dg_name 7 nd) (dss_cons (ds_set 8 nd (de_callB (c_repr hr (hG rfl) hsys) k_repr T.n_repr (by decide +kernel) (da_cons (de_var 7) da_nil)))
    (dss_one (ds_if (dw_t (dw_or (dt_cmp (or_ne hr.units) k_neD (de_callB (c_repr hr (hG rfl) hsys) k_repr T.n_repr (by decide +kernel) (da_cons (de_callD G_is_tree (hr.mono (by decide)) (fun z => nomatch z) tk T.mg_is_tree T.kp_is_tree (da_cons (de_var 7) da_nil)) da_nil)) (de_callB (c_repr hr (hG rfl) hsys) k_repr T.n_repr (by decide +kernel) (da_cons (de_cmp op_lt k_lt (de_callD G__law_size (hr.mono (by decide)) hG tk T.mg__law_size T.kp__law_size (da_cons (de_var 7) da_nil)) de_int (nomark _)) da_nil)) (nomark _)) (dw_or1 (dt_cmp (or_ne hr.units) k_neD (de_callB (c_repr hr (hG rfl) hsys) k_repr T.n_repr (by decide +kernel) (da_cons (de_var 7) da_nil)) (de_var 8) (nomark _))))) (dss_one (ds_ret de_bl)) dss_nil))) dss_nil))))) dss_nil)
    (dss_one (ds_ret de_bl))))
end
theorem all_mk {l : PySem.W.OpenLaw} {w : World} {K : PySem.W.Frag} {h : Heap} {mg : Str → Option Value} {fa f__law_stream f__law_draw f__law_nested f__law_tree f__law_odd f__law_pick f__law_bent f__law_edges f_is_tree f__law_size f_law : Addr} (X : K.In h) (G : h.Ns mainGlobals mg) (hfa : mg "law" = some (.ref fa))
    {od__law_stream an__law_stream : Option Addr} {sl__law_stream : Array (Option Value)} {oc__law_stream kV__law_stream dc__law_stream pm__law_stream cd__law_stream ct__law_stream : Value}
    {od__law_draw an__law_draw : Option Addr} {sl__law_draw : Array (Option Value)} {oc__law_draw kV__law_draw dc__law_draw pm__law_draw cd__law_draw ct__law_draw : Value}
    {od__law_nested an__law_nested : Option Addr} {sl__law_nested : Array (Option Value)} {oc__law_nested kV__law_nested dc__law_nested pm__law_nested cd__law_nested ct__law_nested : Value}
    {od__law_tree an__law_tree : Option Addr} {sl__law_tree : Array (Option Value)} {oc__law_tree kV__law_tree dc__law_tree pm__law_tree cd__law_tree ct__law_tree : Value}
    {od__law_odd an__law_odd : Option Addr} {sl__law_odd : Array (Option Value)} {oc__law_odd kV__law_odd dc__law_odd pm__law_odd cd__law_odd ct__law_odd : Value}
    {od__law_pick an__law_pick : Option Addr} {sl__law_pick : Array (Option Value)} {oc__law_pick kV__law_pick dc__law_pick pm__law_pick cd__law_pick ct__law_pick : Value}
    {od__law_bent an__law_bent : Option Addr} {sl__law_bent : Array (Option Value)} {oc__law_bent kV__law_bent dc__law_bent pm__law_bent cd__law_bent ct__law_bent : Value}
    {od__law_edges an__law_edges : Option Addr} {sl__law_edges : Array (Option Value)} {oc__law_edges kV__law_edges dc__law_edges pm__law_edges cd__law_edges ct__law_edges : Value}
    {od_is_tree an_is_tree : Option Addr} {sl_is_tree : Array (Option Value)} {oc_is_tree kV_is_tree dc_is_tree pm_is_tree cd_is_tree ct_is_tree : Value}
    {od__law_size an__law_size : Option Addr} {sl__law_size : Array (Option Value)} {oc__law_size kV__law_size dc__law_size pm__law_size cd__law_size ct__law_size : Value}
    {od_law an_law : Option Addr} {sl_law : Array (Option Value)} {oc_law kV_law dc_law pm_law cd_law ct_law : Value}
    {tk_MAX_ARITY : Tok}
    {tk_MAX_TOKENS : Tok}
    (a__law_stream : PySem.W.nsIn K mainGlobals "_law_stream" = some (some (.ref f__law_stream)))
    (l__law_stream : K.lookup f__law_stream = some ⟨oc__law_stream, od__law_stream, .func (PySem.W.fnOf "_law_stream" "_law_stream" (defArgs st__law_stream) (defBody st__law_stream) (defScope st__law_stream) .none kV__law_stream dc__law_stream pm__law_stream an__law_stream cd__law_stream ct__law_stream), sl__law_stream⟩)
    (c__law_stream : PySem.W.codeIn K cd__law_stream "_law_stream" = true)
    (k__law_stream : PySem.W.keepIn K (.ref f__law_stream) = true)
    (a__law_draw : PySem.W.nsIn K mainGlobals "_law_draw" = some (some (.ref f__law_draw)))
    (l__law_draw : K.lookup f__law_draw = some ⟨oc__law_draw, od__law_draw, .func (PySem.W.fnOf "_law_draw" "_law_draw" (defArgs st__law_draw) (defBody st__law_draw) (defScope st__law_draw) .none kV__law_draw dc__law_draw pm__law_draw an__law_draw cd__law_draw ct__law_draw), sl__law_draw⟩)
    (c__law_draw : PySem.W.codeIn K cd__law_draw "_law_draw" = true)
    (k__law_draw : PySem.W.keepIn K (.ref f__law_draw) = true)
    (a__law_nested : PySem.W.nsIn K mainGlobals "_law_nested" = some (some (.ref f__law_nested)))
    (l__law_nested : K.lookup f__law_nested = some ⟨oc__law_nested, od__law_nested, .func (PySem.W.fnOf "_law_nested" "_law_nested" (defArgs st__law_nested) (defBody st__law_nested) (defScope st__law_nested) .none kV__law_nested dc__law_nested pm__law_nested an__law_nested cd__law_nested ct__law_nested), sl__law_nested⟩)
    (c__law_nested : PySem.W.codeIn K cd__law_nested "_law_nested" = true)
    (k__law_nested : PySem.W.keepIn K (.ref f__law_nested) = true)
    (a__law_tree : PySem.W.nsIn K mainGlobals "_law_tree" = some (some (.ref f__law_tree)))
    (l__law_tree : K.lookup f__law_tree = some ⟨oc__law_tree, od__law_tree, .func (PySem.W.fnOf "_law_tree" "_law_tree" (defArgs st__law_tree) (defBody st__law_tree) (defScope st__law_tree) .none kV__law_tree dc__law_tree pm__law_tree an__law_tree cd__law_tree ct__law_tree), sl__law_tree⟩)
    (c__law_tree : PySem.W.codeIn K cd__law_tree "_law_tree" = true)
    (k__law_tree : PySem.W.keepIn K (.ref f__law_tree) = true)
    (a__law_odd : PySem.W.nsIn K mainGlobals "_law_odd" = some (some (.ref f__law_odd)))
    (l__law_odd : K.lookup f__law_odd = some ⟨oc__law_odd, od__law_odd, .func (PySem.W.fnOf "_law_odd" "_law_odd" (defArgs st__law_odd) (defBody st__law_odd) (defScope st__law_odd) .none kV__law_odd dc__law_odd pm__law_odd an__law_odd cd__law_odd ct__law_odd), sl__law_odd⟩)
    (c__law_odd : PySem.W.codeIn K cd__law_odd "_law_odd" = true)
    (k__law_odd : PySem.W.keepIn K (.ref f__law_odd) = true)
    (a__law_pick : PySem.W.nsIn K mainGlobals "_law_pick" = some (some (.ref f__law_pick)))
    (l__law_pick : K.lookup f__law_pick = some ⟨oc__law_pick, od__law_pick, .func (PySem.W.fnOf "_law_pick" "_law_pick" (defArgs st__law_pick) (defBody st__law_pick) (defScope st__law_pick) .none kV__law_pick dc__law_pick pm__law_pick an__law_pick cd__law_pick ct__law_pick), sl__law_pick⟩)
    (c__law_pick : PySem.W.codeIn K cd__law_pick "_law_pick" = true)
    (k__law_pick : PySem.W.keepIn K (.ref f__law_pick) = true)
    (a__law_bent : PySem.W.nsIn K mainGlobals "_law_bent" = some (some (.ref f__law_bent)))
    (l__law_bent : K.lookup f__law_bent = some ⟨oc__law_bent, od__law_bent, .func (PySem.W.fnOf "_law_bent" "_law_bent" (defArgs st__law_bent) (defBody st__law_bent) (defScope st__law_bent) .none kV__law_bent dc__law_bent pm__law_bent an__law_bent cd__law_bent ct__law_bent), sl__law_bent⟩)
    (c__law_bent : PySem.W.codeIn K cd__law_bent "_law_bent" = true)
    (k__law_bent : PySem.W.keepIn K (.ref f__law_bent) = true)
    (a__law_edges : PySem.W.nsIn K mainGlobals "_law_edges" = some (some (.ref f__law_edges)))
    (l__law_edges : K.lookup f__law_edges = some ⟨oc__law_edges, od__law_edges, .func (PySem.W.fnOf "_law_edges" "_law_edges" (defArgs st__law_edges) (defBody st__law_edges) (defScope st__law_edges) .none kV__law_edges dc__law_edges pm__law_edges an__law_edges cd__law_edges ct__law_edges), sl__law_edges⟩)
    (c__law_edges : PySem.W.codeIn K cd__law_edges "_law_edges" = true)
    (k__law_edges : PySem.W.keepIn K (.ref f__law_edges) = true)
    (a_is_tree : PySem.W.nsIn K mainGlobals "is_tree" = some (some (.ref f_is_tree)))
    (l_is_tree : K.lookup f_is_tree = some ⟨oc_is_tree, od_is_tree, .func (PySem.W.fnOf "is_tree" "is_tree" (defArgs st_is_tree) (defBody st_is_tree) (defScope st_is_tree) .none kV_is_tree dc_is_tree pm_is_tree an_is_tree cd_is_tree ct_is_tree), sl_is_tree⟩)
    (c_is_tree : PySem.W.codeIn K cd_is_tree "is_tree" = true)
    (k_is_tree : PySem.W.keepIn K (.ref f_is_tree) = true)
    (a__law_size : PySem.W.nsIn K mainGlobals "_law_size" = some (some (.ref f__law_size)))
    (l__law_size : K.lookup f__law_size = some ⟨oc__law_size, od__law_size, .func (PySem.W.fnOf "_law_size" "_law_size" (defArgs st__law_size) (defBody st__law_size) (defScope st__law_size) .none kV__law_size dc__law_size pm__law_size an__law_size cd__law_size ct__law_size), sl__law_size⟩)
    (c__law_size : PySem.W.codeIn K cd__law_size "_law_size" = true)
    (k__law_size : PySem.W.keepIn K (.ref f__law_size) = true)
    (a_law : PySem.W.nsIn K mainGlobals "law" = some (some (.ref f_law)))
    (l_law : K.lookup f_law = some ⟨oc_law, od_law, .func (PySem.W.fnOf "law" "law" (defArgs st_law) (defBody st_law) (defScope st_law) .none kV_law dc_law pm_law an_law cd_law ct_law), sl_law⟩)
    (c_law : PySem.W.codeIn K cd_law "law" = true)
    (k_law : PySem.W.keepIn K (.ref f_law) = true)
    (a_MAX_ARITY : PySem.W.nsIn K mainGlobals "MAX_ARITY" = some (some (.int 5 tk_MAX_ARITY)))
    (a_MAX_TOKENS : PySem.W.nsIn K mainGlobals "MAX_TOKENS" = some (some (.int 24 tk_MAX_TOKENS)))
    (z_range : PySem.W.nsIn K mainGlobals "range" = some none)
    (z_list : PySem.W.nsIn K mainGlobals "list" = some none)
    (z_repr : PySem.W.nsIn K mainGlobals "repr" = some none)
    (z_abs : PySem.W.nsIn K mainGlobals "abs" = some none)
    (z_len : PySem.W.nsIn K mainGlobals "len" = some none)
    (z_max : PySem.W.nsIn K mainGlobals "max" = some none)
    (z_tuple : PySem.W.nsIn K mainGlobals "tuple" = some none)
    (z_isinstance : PySem.W.nsIn K mainGlobals "isinstance" = some none)
    (z_int : PySem.W.nsIn K mainGlobals "int" = some none)
    (z_str : PySem.W.nsIn K mainGlobals "str" = some none)
    (z_sum : PySem.W.nsIn K mainGlobals "sum" = some none)
    (z_min : PySem.W.nsIn K mainGlobals "min" = some none)
    (hl : LawOk F_law) : ∃ F : Fn, LawOk F ∧ ∀ base : Heap, K.In base → base.Ns mainGlobals mg → (∃ o, base.get? sysModules = some o) → FnD true l.prog w K mg base 44 fa F := by
  have e := hfa.symm.trans (PySem.W.mg_of X G a_law)
  cases e
  have T : Tx K mg f__law_stream f__law_draw f__law_nested f__law_tree f__law_odd f__law_pick f__law_bent f__law_edges f_is_tree f__law_size fa := ⟨PySem.W.mg_of X G a__law_stream, k__law_stream, PySem.W.mg_of X G a__law_draw, k__law_draw, PySem.W.mg_of X G a__law_nested, k__law_nested, PySem.W.mg_of X G a__law_tree, k__law_tree, PySem.W.mg_of X G a__law_odd, k__law_odd, PySem.W.mg_of X G a__law_pick, k__law_pick, PySem.W.mg_of X G a__law_bent, k__law_bent, PySem.W.mg_of X G a__law_edges, k__law_edges, PySem.W.mg_of X G a_is_tree, k_is_tree, PySem.W.mg_of X G a__law_size, k__law_size, PySem.W.mg_none_of X G z_range, PySem.W.mg_none_of X G z_list, PySem.W.mg_none_of X G z_repr, PySem.W.mg_none_of X G z_abs, PySem.W.mg_none_of X G z_len, PySem.W.mg_none_of X G z_max, PySem.W.mg_none_of X G z_tuple, PySem.W.mg_none_of X G z_isinstance, PySem.W.mg_none_of X G z_int, PySem.W.mg_none_of X G z_str, PySem.W.mg_none_of X G z_sum, PySem.W.mg_none_of X G z_min⟩
  have mg_MAX_ARITY := PySem.W.mg_of X G a_MAX_ARITY
  have kr_MAX_ARITY : KRep K (.int 5 tk_MAX_ARITY) d_MAX_ARITY := ⟨.int 5, ⟨_, rfl⟩, fun ι H => by unfold d_MAX_ARITY; rw [RepV]⟩
  have mg_MAX_TOKENS := PySem.W.mg_of X G a_MAX_TOKENS
  have kr_MAX_TOKENS : KRep K (.int 24 tk_MAX_TOKENS) d_MAX_TOKENS := ⟨.int 24, ⟨_, rfl⟩, fun ι H => by unfold d_MAX_TOKENS; rw [RepV]⟩
  refine ⟨F_law, hl, fun base _ _ hsys => ?_⟩
  have G__law_stream : FnD true l.prog w K mg base 1 f__law_stream F__law_stream := fn__law_stream T (fun_mk (st := st__law_stream) l__law_stream c__law_stream k__law_stream) 
  have G__law_draw : FnD true l.prog w K mg base 1 f__law_draw F__law_draw := fn__law_draw T (fun_mk (st := st__law_draw) l__law_draw c__law_draw k__law_draw) 
  have G__law_nested : FnD true l.prog w K mg base 41 f__law_nested (F__law_nested 40) := fn__law_nested T (fun_mk (st := st__law_nested) l__law_nested c__law_nested k__law_nested)  40
  have G__law_tree : FnD true l.prog w K mg base 42 f__law_tree F__law_tree := fn__law_tree T (fun_mk (st := st__law_tree) l__law_tree c__law_tree k__law_tree) G__law_draw G__law_nested
  have G__law_odd : FnD true l.prog w K mg base 2 f__law_odd F__law_odd := fn__law_odd T (fun_mk (st := st__law_odd) l__law_odd c__law_odd k__law_odd) G__law_draw
  have G__law_pick : FnD true l.prog w K mg base 2 f__law_pick F__law_pick := fn__law_pick T (fun_mk (st := st__law_pick) l__law_pick c__law_pick k__law_pick) G__law_draw
  have G__law_bent : FnD true l.prog w K mg base 43 f__law_bent (F__law_bent 40) := fn__law_bent T (fun_mk (st := st__law_bent) l__law_bent c__law_bent k__law_bent) G__law_draw G__law_odd G__law_pick 40
  have G__law_edges : FnD true l.prog w K mg base 1 f__law_edges F__law_edges := fn__law_edges T (fun_mk (st := st__law_edges) l__law_edges c__law_edges k__law_edges) 
  have G_is_tree : FnD false l.prog w K mg base 1 f_is_tree F_is_tree := fn_is_tree T (fun_mk (st := st_is_tree) l_is_tree c_is_tree k_is_tree)  mg_MAX_ARITY kr_MAX_ARITY mg_MAX_TOKENS kr_MAX_TOKENS
  have G__law_size : FnD true l.prog w K mg base 41 f__law_size (F__law_size 40) := fn__law_size T (fun_mk (st := st__law_size) l__law_size c__law_size k__law_size)  40
  have G_law : FnD true l.prog w K mg base 44 fa F_law := fn_law T (fun_mk (st := st_law) l_law c_law k_law) G__law_stream G__law_tree G__law_odd G__law_bent G__law_edges G_is_tree G__law_size hsys
  exact G_law
end TX
open PySem PySem.W PyProof.Rows
set_option maxRecDepth 100000 in
set_option maxHeartbeats 0 in
theorem PySem.Challenge.cw_ringpostfix_k25_trees_judged_holds : PySem.Challenge.rw_ringpostfix_k25_trees_judged.Holds := by
  w_on; o_law; k_head; (case hw => w_witness2)
  k_fill
  refine DL.law_walk (k := 44) (l := PySem.Challenge.rw_ringpostfix_k25_trees_judged) rfl rfl ⟨rfl, by decide, by decide⟩ (by decide +kernel) (fun w h Y => PySem.W.kIn_of Y) ?F
  case F =>
    intro w mg fa h KX G hmg
    refine' TX.all_mk KX G hmg ?a__law_stream ?l__law_stream ?c__law_stream ?k__law_stream ?a__law_draw ?l__law_draw ?c__law_draw ?k__law_draw ?a__law_nested ?l__law_nested ?c__law_nested ?k__law_nested ?a__law_tree ?l__law_tree ?c__law_tree ?k__law_tree ?a__law_odd ?l__law_odd ?c__law_odd ?k__law_odd ?a__law_pick ?l__law_pick ?c__law_pick ?k__law_pick ?a__law_bent ?l__law_bent ?c__law_bent ?k__law_bent ?a__law_edges ?l__law_edges ?c__law_edges ?k__law_edges ?a_is_tree ?l_is_tree ?c_is_tree ?k_is_tree ?a__law_size ?l__law_size ?c__law_size ?k__law_size ?a_law ?l_law ?c_law ?k_law ?a_MAX_ARITY ?a_MAX_TOKENS ?z_range ?z_list ?z_repr ?z_abs ?z_len ?z_max ?z_tuple ?z_isinstance ?z_int ?z_str ?z_sum ?z_min TX.law_ok
    (case a__law_stream => k_is)
    (case l__law_stream => k_is)
    (case c__law_stream => k_is)
    (case k__law_stream => k_is)
    (case a__law_draw => k_is)
    (case l__law_draw => k_is)
    (case c__law_draw => k_is)
    (case k__law_draw => k_is)
    (case a__law_nested => k_is)
    (case l__law_nested => k_is)
    (case c__law_nested => k_is)
    (case k__law_nested => k_is)
    (case a__law_tree => k_is)
    (case l__law_tree => k_is)
    (case c__law_tree => k_is)
    (case k__law_tree => k_is)
    (case a__law_odd => k_is)
    (case l__law_odd => k_is)
    (case c__law_odd => k_is)
    (case k__law_odd => k_is)
    (case a__law_pick => k_is)
    (case l__law_pick => k_is)
    (case c__law_pick => k_is)
    (case k__law_pick => k_is)
    (case a__law_bent => k_is)
    (case l__law_bent => k_is)
    (case c__law_bent => k_is)
    (case k__law_bent => k_is)
    (case a__law_edges => k_is)
    (case l__law_edges => k_is)
    (case c__law_edges => k_is)
    (case k__law_edges => k_is)
    (case a_is_tree => k_is)
    (case l_is_tree => k_is)
    (case c_is_tree => k_is)
    (case k_is_tree => k_is)
    (case a__law_size => k_is)
    (case l__law_size => k_is)
    (case c__law_size => k_is)
    (case k__law_size => k_is)
    (case a_law => k_is)
    (case l_law => k_is)
    (case c_law => k_is)
    (case k_law => k_is)
    (case a_MAX_ARITY => k_is)
    (case a_MAX_TOKENS => k_is)
    (case z_range => k_is)
    (case z_list => k_is)
    (case z_repr => k_is)
    (case z_abs => k_is)
    (case z_len => k_is)
    (case z_max => k_is)
    (case z_tuple => k_is)
    (case z_isinstance => k_is)
    (case z_int => k_is)
    (case z_str => k_is)
    (case z_sum => k_is)
    (case z_min => k_is)
