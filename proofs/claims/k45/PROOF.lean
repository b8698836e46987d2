import PyProof.Rows.All
import Wide.All
import OpenK.AllK
import Wide.FinOn
import HandS.ForMost
import HandS.ForExc
import HandS.Star
import HandS.IsInst
import HandS.Flow
import HandS.Wide
import HandS.EndBits
import PyProof.ReprRoads
import HandS.TupAny
import HandS.TupMul
import HandS.Deep
import HandS.More
import HandS.Style
import KE.KTupSum
import PyProof.WalkInts
import HandS.SortInts
import HandS.Zip
import KE.KRevSl
import HandS.ExcCtx
import HandS.RaiseFrom
import KE.KExcInit
import KE.KExcIs
import HandS.ExcIs
import HandS.ExcField
import HandS.TryMany
import HandS.Small
import HandS.HotCalls
import HandS.Conv
import HandS.Iter
import KE.GoesEnum
import PyProof.NeKinds
import KE.DataFind
import KE.KEqDict
import HandS.NoneIn
import PyProof.Rows.IntBool
import HandS.ExcValue
import HandS.Text
import PyProof.StrBlock2
import PyProof.CallStr
import HandS.FStr
import HandS.GenList
import PyProof.RulesMatch
import PyProof.AutoSeq1
import HandS.Dict
import HandS.Property
import PyProof.RulesMatchSeq
import KE.KUnpackStar
import OpenK.KOps
import HandS.SlotsOwn
import KE.KFmtOwn
import HandS.ClsMeth
import OpenK.KMore
import HandS.Finally
import HandS.Defaults
import KE.KSuperObj
import KE.KParC
import HandS.SuiteRaise
import HandS.SetFor
import HandS.Strs
import HandS.TupSets
import KE.KDictDisplayH
import PyProof.Rows.ReprOcc
import PyProof.Rows.StrBin
import PySem.Challenge.RW_ringpostfix_k45_rows_counted
set_option Elab.async false
set_option linter.all false
set_option maxRecDepth 100000
set_option maxHeartbeats 4000000
namespace DL
open PySem PySem.Spec L2
open PyProof.Rows hiding St
/-- a class by its name: of the program, built in -/
inductive Cn where
  | own (n : Str) | blt (n : String)
  deriving DecidableEq
/-- plain data (tuples, frozen lists and dicts by value), defs by name, caught errors, and places of the store -/
inductive D where
  | non | bl (b : Bool) | int (i : Int) | str (x : Str) | ty (n : String) | fn (n : Str)
  | tup (ds : List D) | fl (ds : List D) | kl (ds : List D) | ktp (ds : List D) | ztp (ds : List D) | fd (kvs : List (Key × D)) | exc (c : Cn) (fs : List (Str × D)) | loc (n : Nat)
abbrev Ev := List (Option D)
/-- what a place of the store holds -/
inductive Ob where
  | lst (ds : List D)
  | ins (c : Str) (fs : List (Str × D))
  | dct (kvs : List (Key × D))
  | dtt (kvs : List (Key × D))
  | scr (ds : List D)
  | tpl (ds : List D)
  | dkt (kvs : List (List Key × D))
  | dkl (kvs : List (List Key × D))
abbrev Sto := List Ob
structure Ex where
  cls : Cn
  fs : List (Str × D)
inductive R (α : Type) where
  | ok (a : α) (S : Sto)
  | er (e : Ex) (S : Sto)
  | stuck
inductive SR where
  | nx (ρ : Ev) (S : Sto)
  | rt (d : D) (S : Sto)
  | bk (ρ : Ev) (S : Sto)
  | ct (ρ : Ev) (S : Sto)
  | er (e : Ex) (ρ : Ev) (S : Sto)
  | stuck
/-- a test that no reckoning opens -/
noncomputable def ifp {α : Type} (p : Prop) (a b : α) : α := @ite α p (Classical.propDecidable p) a b
theorem ifp_pos {α : Type} {p : Prop} {a b : α} (h : p) : ifp p a b = a := by unfold ifp; exact if_pos h
theorem ifp_neg {α : Type} {p : Prop} {a b : α} (h : ¬ p) : ifp p a b = b := by unfold ifp; exact if_neg h
theorem ifp_t {α : Type} {a b : α} : ifp True a b = a := ifp_pos trivial
theorem ifp_f {α : Type} {a b : α} : ifp False a b = b := ifp_neg id
def R.bind {α β : Type} (r : R α) (k : α → Sto → R β) : R β := match r with
  | .ok a S => k a S
  | .er e S => .er e S
  | .stuck => .stuck
@[simp] theorem R.bind_ok {α β : Type} (a : α) (S : Sto) (k : α → Sto → R β) : (R.ok a S).bind k = k a S := rfl
@[simp] theorem R.bind_er {α β : Type} (e : Ex) (S : Sto) (k : α → Sto → R β) : (R.er e S : R α).bind k = .er e S := rfl
@[simp] theorem R.bind_stuck {α β : Type} (k : α → Sto → R β) : (R.stuck : R α).bind k = .stuck := rfl
def TupAt (K : PySem.W.Frag) (ι : List Addr) (H : Hp) (a : Addr) (vs : List V) : Prop := (a ∉ ι ∧ H a = some (.tup vs)) ∨ (∃ o, H a = some (.frz o (.tup vs))) ∨ SqT K (fun _ => none) a vs
def LstAt (ι : List Addr) (H : Hp) (a : Addr) (vs : List V) : Prop := a ∉ ι ∧ H a = some (.lst vs)
/-- a list that nobody changes: locked, or of the written part -/
def KlAt (K : PySem.W.Frag) (ι : List Addr) (H : Hp) (a : Addr) (vs : List V) : Prop := (a ∉ ι ∧ ∃ o, H a = some (.frz o (.lst vs))) ∨ SqL K (fun _ => none) a vs
theorem no_rd {a : Addr} {u : HO} (h : Rd (fun _ => none) a u) : False := by
  rcases h with h | ⟨_, h⟩ <;> cases h
theorem TupAt.sq {K : PySem.W.Frag} {ι : List Addr} {H : Hp} {a : Addr} {vs : List V} (h : TupAt K ι H a vs) : SqT K H a vs := by
  rcases h with h | h | h | h
  · exact .inl (.inl h.2)
  · exact .inl (.inr h)
  · exact (no_rd h).elim
  · exact .inr h
theorem KlAt.sq {K : PySem.W.Frag} {ι : List Addr} {H : Hp} {a : Addr} {vs : List V} (h : KlAt K ι H a vs) : SqL K H a vs := by
  rcases h with ⟨_, h⟩ | h | h
  · exact .inl (.inr h)
  · exact (no_rd h).elim
  · exact .inr h
theorem LstAt.sq {K : PySem.W.Frag} {ι : List Addr} {H : Hp} {a : Addr} {vs : List V} (h : LstAt ι H a vs) : SqL K H a vs := SqL.of h.2
def RepC (K : PySem.W.Frag) : Cn → Value → Prop
  | .own n, v => ∃ C, v = .ref C ∧ PySem.W.nsIn K mainGlobals n = some (some (.ref C))
  | .blt n, v => v = .type n
/-- an error that is held as a value: at a, its class, its dict -/
def exv (a : Addr) (cls : Value) (d : Option Addr) : HO := .ext fun h => ∃ (oe : Obj) (vs : Array Value), h.get? a = some oe ∧ oe.cls = cls ∧ oe.dict = d ∧ oe.data = .fields vs
mutual
def RepV (K : PySem.W.Frag) (ι : List Addr) (H : Hp) : D → V → Prop
  | .non, v => v = .non
  | .bl b, v => v = .bl b
  | .int i, v => v = .int i
  | .str x, v => v = .str x
  | .ty n, v => v = .ty n
  | .fn n, v => ∃ a, v = .ref a ∧ PySem.W.nsIn K mainGlobals n = some (some (.ref a))
  | .loc n, v => ∃ a, ι[n]? = some a ∧ v = .ref a
  | .tup ds, v => ∃ a vs, v = .ref a ∧ TupAt K ι H a vs ∧ RepL K ι H ds vs
  | .fl ds, v => ∃ a vs, v = .ref a ∧ LstAt ι H a vs ∧ RepL K ι H ds vs
  | .kl ds, v => ∃ a vs, v = .ref a ∧ KlAt K ι H a vs ∧ RepL K ι H ds vs
  | .ktp ds, v => ∃ a vs, v = .ref a ∧ (a ∉ ι ∧ H a = some (.tup vs)) ∧ RepL K ι H ds vs
  | .ztp ds, v => ∃ a vs, v = .ref a ∧ (∃ o, H a = some (.frz o (.tup vs)) ∧ o.cls = .type "tuple" ∧ o.dict = none) ∧ RepL K ι H ds vs
  | .fd kvs, v => ∃ a ks, v = .ref a ∧ a ∉ ι ∧ H a = some (.dK ks) ∧ RepK K ι H kvs ks
  | .exc c fs, v => ∃ a cls dd, v = .ref a ∧ a ∉ ι ∧ H a = some (exv a cls dd) ∧ RepC K c cls ∧ ((dd = none ∧ fs = []) ∨ ∃ d vs, dd = some d ∧ d ∉ ι ∧ H d = some (.xd vs) ∧ RepF K ι H fs vs)
def RepL (K : PySem.W.Frag) (ι : List Addr) (H : Hp) : List D → List V → Prop
  | [], vs => vs = []
  | d :: ds, vs => ∃ v r, vs = v :: r ∧ RepV K ι H d v ∧ RepL K ι H ds r
def RepK (K : PySem.W.Frag) (ι : List Addr) (H : Hp) : List (Key × D) → List (Key × V) → Prop
  | [], vs => vs = []
  | (k, d) :: ds, vs => ∃ v r, vs = (k, v) :: r ∧ RepV K ι H d v ∧ RepK K ι H ds r
def RepF (K : PySem.W.Frag) (ι : List Addr) (H : Hp) : List (Str × D) → List (Str × V) → Prop
  | [], vs => vs = []
  | (k, d) :: ds, vs => ∃ v r, vs = (k, v) :: r ∧ RepV K ι H d v ∧ RepF K ι H ds r
end
def RepKT (K : PySem.W.Frag) (ι : List Addr) (H : Hp) : List (List Key × D) → List (List Key × V) → Prop
  | [], vs => vs = []
  | (k, d) :: ds, vs => ∃ v r, vs = (k, v) :: r ∧ RepV K ι H d v ∧ RepKT K ι H ds r
def RepO (K : PySem.W.Frag) (ι : List Addr) (H : Hp) (a : Addr) : Ob → Prop
  | .lst ds => ∃ vs, H a = some (.lst vs) ∧ RepL K ι H ds vs
  | .ins c fs => ∃ C dx vs, PySem.W.nsIn K mainGlobals c = some (some (.ref C)) ∧ H a = some (.ins C dx vs) ∧ RepF K ι H fs vs
  | .dct kvs => ∃ ks, H a = some (.dK ks) ∧ RepK K ι H kvs ks
  | .dtt kvs => ∃ o ks, H a = some (.frz o (.dK ks)) ∧ RepK K ι H kvs ks
  | .scr ds => ∃ o vs, H a = some (.frz o (.lst vs)) ∧ RepL K ι H ds vs
  | .tpl ds => ∃ o vs, H a = some (.frz o (.tup vs)) ∧ o.cls = .type "tuple" ∧ o.dict = none ∧ RepL K ι H ds vs
  | .dkt kvs => ∃ ks, H a = some (.dT ks) ∧ RepKT K ι H kvs ks
  | .dkl kvs => ∃ o ks, H a = some (.frz o (.dT ks)) ∧ RepKT K ι H kvs ks
structure Sim (K : PySem.W.Frag) (ι : List Addr) (H : Hp) (S : Sto) : Prop where
  nd : ι.Nodup
  len : ι.length = S.length
  ob : ∀ (n : Nat) (a : Addr) (o : Ob), ι[n]? = some a → S[n]? = some o → RepO K ι H a o
def RepE (K : PySem.W.Frag) (ι : List Addr) (H : Hp) (σ : St) (ρ : Ev) : Prop :=
  σ.length = ρ.length ∧ ∀ (i : Nat) (d : D), ρ[i]? = some (some d) → ∃ v, σ[i]? = some (some v) ∧ RepV K ι H d v
structure Grow (ι : List Addr) (H : Hp) (ι' : List Addr) (H' : Hp) : Prop where
  pre : ι <+: ι'
  keep : ∀ a o, H a = some o → a ∉ ι → H' a = some o
  fresh : ∀ a, a ∈ ι' → a ∉ ι → H a = none
  frz : ∀ a od u, H a = some (.frz od u) → H' a = some (.frz od u)
theorem Grow.refl (ι : List Addr) (H : Hp) : Grow ι H ι H := ⟨List.prefix_rfl, fun _ _ e _ => e, fun _ h n => absurd h n, fun _ _ _ e => e⟩
theorem Grow.trans {ι ι1 ι2 : List Addr} {H H1 H2 : Hp} (a : Grow ι H ι1 H1) (b : Grow ι1 H1 ι2 H2) : Grow ι H ι2 H2 where
  pre := a.pre.trans b.pre
  keep := fun c o e n => b.keep c o (a.keep c o e n) fun z => by
    have := a.fresh c z n
    rw [this] at e; cases e
  fresh := fun c h n => by
    by_cases z : c ∈ ι1
    · exact a.fresh c z n
    · have q := b.fresh c h z
      cases e : H c with
      | none => rfl
      | some o => rw [a.keep c o e n] at q; cases q
  frz := fun c od u e => b.frz c od u (a.frz c od u e)
theorem Grow.rd {ι ι' : List Addr} {H H' : Hp} {a : Addr} {u : HO} (g : Grow ι H ι' H') (n : a ∉ ι) (r : H a = some u) : a ∉ ι' ∧ H' a = some u := by
  refine ⟨fun z => ?_, g.keep _ _ r n⟩
  have q := g.fresh a z n
  rw [q] at r; cases r
theorem TupAt.grow {K : PySem.W.Frag} {ι ι' : List Addr} {H H' : Hp} {a : Addr} {vs : List V} (g : Grow ι H ι' H') (h : TupAt K ι H a vs) : TupAt K ι' H' a vs := by
  rcases h with ⟨n, r⟩ | ⟨o, h⟩ | h
  · exact .inl (g.rd n r)
  · exact .inr (.inl ⟨o, g.frz _ _ _ h⟩)
  · exact .inr (.inr h)
theorem KlAt.grow {K : PySem.W.Frag} {ι ι' : List Addr} {H H' : Hp} {a : Addr} {vs : List V} (g : Grow ι H ι' H') (h : KlAt K ι H a vs) : KlAt K ι' H' a vs := by
  rcases h with ⟨n, o, r⟩ | h
  · exact .inl ⟨(g.rd n r).1, o, (g.rd n r).2⟩
  · exact .inr h
theorem LstAt.grow {ι ι' : List Addr} {H H' : Hp} {a : Addr} {vs : List V} (g : Grow ι H ι' H') (h : LstAt ι H a vs) : LstAt ι' H' a vs := g.rd h.1 h.2
theorem getElem?_pre {ι ι' : List Addr} (p : ι <+: ι') {n : Nat} {a : Addr} (h : ι[n]? = some a) : ι'[n]? = some a := by
  obtain ⟨t, rfl⟩ := p
  have hn : n < ι.length := (List.getElem?_eq_some_iff.mp h).1
  rw [List.getElem?_append_left hn]; exact h
mutual
theorem RepV.grow {K : PySem.W.Frag} {ι ι' : List Addr} {H H' : Hp} (g : Grow ι H ι' H') : ∀ (d : D) (v : V), RepV K ι H d v → RepV K ι' H' d v
  | .non, _, h => by rw [RepV] at h ⊢; exact h
  | .bl _, _, h => by rw [RepV] at h ⊢; exact h
  | .int _, _, h => by rw [RepV] at h ⊢; exact h
  | .str _, _, h => by rw [RepV] at h ⊢; exact h
  | .ty _, _, h => by rw [RepV] at h ⊢; exact h
  | .fn _, _, h => by rw [RepV] at h ⊢; exact h
  | .loc n, _, h => by
    rw [RepV] at h ⊢
    obtain ⟨a, e, r⟩ := h
    exact ⟨a, getElem?_pre g.pre e, r⟩
  | .tup ds, _, h => by
    rw [RepV] at h ⊢
    obtain ⟨a, vs, e, t, r⟩ := h
    exact ⟨a, vs, e, t.grow g, RepL.grow g ds vs r⟩
  | .fl ds, _, h => by
    rw [RepV] at h ⊢
    obtain ⟨a, vs, e, t, r⟩ := h
    exact ⟨a, vs, e, t.grow g, RepL.grow g ds vs r⟩
  | .kl ds, _, h => by
    rw [RepV] at h ⊢
    obtain ⟨a, vs, e, t, r⟩ := h
    exact ⟨a, vs, e, t.grow g, RepL.grow g ds vs r⟩
  | .ktp ds, _, h => by
    rw [RepV] at h ⊢
    obtain ⟨a, vs, e, ⟨n, t⟩, r⟩ := h
    have q := g.rd n t
    exact ⟨a, vs, e, ⟨q.1, g.keep _ _ t n⟩, RepL.grow g ds vs r⟩
  | .ztp ds, _, h => by
    rw [RepV] at h ⊢
    obtain ⟨a, vs, e, ⟨o, t, c1, c2⟩, r⟩ := h
    exact ⟨a, vs, e, ⟨o, g.frz _ _ _ t, c1, c2⟩, RepL.grow g ds vs r⟩
  | .fd kvs, _, h => by
    rw [RepV] at h ⊢
    obtain ⟨a, vs, e, n, t, r⟩ := h
    have q := g.rd n t
    exact ⟨a, vs, e, q.1, g.keep _ _ t n, RepK.grow g kvs vs r⟩
  | .exc c fs, _, h => by
    rw [RepV] at h ⊢
    obtain ⟨a, cls, dd, e, n, t, rc, r⟩ := h
    have q := g.rd n t
    refine ⟨a, cls, dd, e, q.1, q.2, rc, ?_⟩
    rcases r with r | ⟨d, vs, e1, e2, e3, e4⟩
    · exact .inl r
    · have q2 := g.rd e2 e3
      exact .inr ⟨d, vs, e1, q2.1, q2.2, RepF.grow g fs vs e4⟩
theorem RepL.grow {K : PySem.W.Frag} {ι ι' : List Addr} {H H' : Hp} (g : Grow ι H ι' H') : ∀ (ds : List D) (vs : List V), RepL K ι H ds vs → RepL K ι' H' ds vs
  | [], _, h => by rw [RepL] at h ⊢; exact h
  | d :: ds, _, h => by
    rw [RepL] at h ⊢
    obtain ⟨v, r, e, a, b⟩ := h
    exact ⟨v, r, e, RepV.grow g d v a, RepL.grow g ds r b⟩
theorem RepK.grow {K : PySem.W.Frag} {ι ι' : List Addr} {H H' : Hp} (g : Grow ι H ι' H') : ∀ (ds : List (Key × D)) (vs : List (Key × V)), RepK K ι H ds vs → RepK K ι' H' ds vs
  | [], _, h => by rw [RepK] at h ⊢; exact h
  | (k, d) :: ds, _, h => by
    rw [RepK] at h ⊢
    obtain ⟨v, r, e, a, b⟩ := h
    exact ⟨v, r, e, RepV.grow g d v a, RepK.grow g ds r b⟩
theorem RepF.grow {K : PySem.W.Frag} {ι ι' : List Addr} {H H' : Hp} (g : Grow ι H ι' H') : ∀ (ds : List (Str × D)) (vs : List (Str × V)), RepF K ι H ds vs → RepF K ι' H' ds vs
  | [], _, h => by rw [RepF] at h ⊢; exact h
  | (k, d) :: ds, _, h => by
    rw [RepF] at h ⊢
    obtain ⟨v, r, e, a, b⟩ := h
    exact ⟨v, r, e, RepV.grow g d v a, RepF.grow g ds r b⟩
end
theorem RepKT.grow {K : PySem.W.Frag} {ι ι' : List Addr} {H H' : Hp} (g : Grow ι H ι' H') : ∀ (ds : List (List Key × D)) (vs : List (List Key × V)), RepKT K ι H ds vs → RepKT K ι' H' ds vs
  | [], _, h => by rw [RepKT] at h ⊢; exact h
  | (k, d) :: ds, _, h => by
    rw [RepKT] at h ⊢
    obtain ⟨v, r, e, a, b⟩ := h
    exact ⟨v, r, e, RepV.grow g d v a, RepKT.grow g ds r b⟩
theorem RepE.grow {K : PySem.W.Frag} {ι ι' : List Addr} {H H' : Hp} {σ : St} {ρ : Ev} (g : Grow ι H ι' H') (h : RepE K ι H σ ρ) : RepE K ι' H' σ ρ :=
  ⟨h.1, fun i d e => let ⟨v, e', r⟩ := h.2 i d e; ⟨v, e', RepV.grow g d v r⟩⟩
theorem RepE.get {K : PySem.W.Frag} {ι : List Addr} {H : Hp} {σ : St} {ρ : Ev} (h : RepE K ι H σ ρ) {i : Nat} {d : D} (e : ρ[i]? = some (some d)) : ∃ v, σ[i]? = some (some v) ∧ RepV K ι H d v := h.2 i d e
theorem RepE.set {K : PySem.W.Frag} {ι : List Addr} {H : Hp} {σ : St} {ρ : Ev} (h : RepE K ι H σ ρ) {d : D} {v : V} (r : RepV K ι H d v) (i : Nat) : RepE K ι H (σ.set i (some v)) (ρ.set i (some d)) := by
  refine ⟨by simp [h.1], fun j d' e => ?_⟩
  rw [List.getElem?_set] at e ⊢
  by_cases hij : i = j
  · rw [if_pos hij] at e ⊢
    by_cases hl : i < ρ.length
    · rw [if_pos hl] at e
      rw [if_pos (by rw [h.1]; exact hl)]
      cases e
      exact ⟨v, rfl, r⟩
    · rw [if_neg hl] at e; cases e
  · rw [if_neg hij] at e ⊢
    exact h.2 j d' e
theorem RepE.drop {K : PySem.W.Frag} {ι : List Addr} {H : Hp} {σ : St} {ρ : Ev} (h : RepE K ι H σ ρ) (x : Option V) (i : Nat) : RepE K ι H (σ.set i x) (ρ.set i none) := by
  refine ⟨by simp [h.1], fun j d' e => ?_⟩
  rw [List.getElem?_set] at e ⊢
  by_cases hij : i = j
  · rw [if_pos hij] at e
    by_cases hl : i < ρ.length
    · rw [if_pos hl] at e; cases e
    · rw [if_neg hl] at e; cases e
  · rw [if_neg hij] at e ⊢
    exact h.2 j d' e
theorem RepL.length {K : PySem.W.Frag} {ι : List Addr} {H : Hp} : ∀ (ds : List D) (vs : List V), RepL K ι H ds vs → ds.length = vs.length
  | [], _, h => by rw [RepL] at h; subst h; rfl
  | d :: ds, _, h => by
    rw [RepL] at h
    obtain ⟨v, r, rfl, _, b⟩ := h
    simp [RepL.length ds r b]
theorem RepL.get {K : PySem.W.Frag} {ι : List Addr} {H : Hp} : ∀ (ds : List D) (vs : List V), RepL K ι H ds vs → ∀ (i : Nat) (d : D), ds[i]? = some d → ∃ v, vs[i]? = some v ∧ RepV K ι H d v
  | [], _, h, i, d, e => by simp at e
  | d :: ds, _, h, i, d', e => by
    rw [RepL] at h
    obtain ⟨v, r, rfl, a, b⟩ := h
    cases i with
    | zero => simp at e; subst e; exact ⟨v, rfl, a⟩
    | succ i => exact RepL.get ds r b i d' (by simpa using e)
theorem RepL.app {K : PySem.W.Frag} {ι : List Addr} {H : Hp} : ∀ (ds : List D) (vs : List V), RepL K ι H ds vs → ∀ (es : List D) (us : List V), RepL K ι H es us → RepL K ι H (ds ++ es) (vs ++ us)
  | [], _, h, es, us, h' => by rw [RepL] at h; subst h; simpa using h'
  | d :: ds, _, h, es, us, h' => by
    rw [RepL] at h
    obtain ⟨v, r, rfl, a, b⟩ := h
    show RepL K ι H (d :: (ds ++ es)) (v :: (r ++ us))
    rw [RepL]
    exact ⟨v, _, rfl, a, RepL.app ds r b es us h'⟩
theorem RepL.one {K : PySem.W.Frag} {ι : List Addr} {H : Hp} {d : D} {v : V} (h : RepV K ι H d v) : RepL K ι H [d] [v] := by
  rw [RepL]; exact ⟨v, [], rfl, h, by rw [RepL]⟩
theorem RepL.nil {K : PySem.W.Frag} {ι : List Addr} {H : Hp} : RepL K ι H [] [] := by rw [RepL]
theorem RepL.cons {K : PySem.W.Frag} {ι : List Addr} {H : Hp} {d : D} {v : V} {ds : List D} {vs : List V} (h : RepV K ι H d v) (t : RepL K ι H ds vs) : RepL K ι H (d :: ds) (v :: vs) := by
  rw [RepL]; exact ⟨v, vs, rfl, h, t⟩
theorem RepL.take {K : PySem.W.Frag} {ι : List Addr} {H : Hp} : ∀ (ds : List D) (vs : List V) (n : Nat), RepL K ι H ds vs → RepL K ι H (ds.take n) (vs.take n)
  | _, _, 0, _ => by simp [RepL]
  | [], _, n + 1, h => by rw [RepL] at h; subst h; simp [RepL]
  | d :: ds, _, n + 1, h => by
    rw [RepL] at h
    obtain ⟨v, r, rfl, a, b⟩ := h
    exact RepL.cons a (RepL.take ds r n b)
theorem RepL.drop {K : PySem.W.Frag} {ι : List Addr} {H : Hp} : ∀ (ds : List D) (vs : List V) (n : Nat), RepL K ι H ds vs → RepL K ι H (ds.drop n) (vs.drop n)
  | _, _, 0, h => h
  | [], _, n + 1, h => by rw [RepL] at h; subst h; simp [RepL]
  | d :: ds, _, n + 1, h => by
    rw [RepL] at h
    obtain ⟨v, r, rfl, a, b⟩ := h
    exact RepL.drop ds r n b
theorem RepL.set {K : PySem.W.Frag} {ι : List Addr} {H : Hp} {d : D} {v : V} (r : RepV K ι H d v) : ∀ (ds : List D) (vs : List V) (n : Nat), RepL K ι H ds vs → RepL K ι H (ds.set n d) (vs.set n v)
  | [], _, n, h => by rw [RepL] at h; subst h; simp [RepL]
  | d' :: ds, _, 0, h => by
    rw [RepL] at h
    obtain ⟨v', r', rfl, a, b⟩ := h
    exact RepL.cons r b
  | d' :: ds, _, n + 1, h => by
    rw [RepL] at h
    obtain ⟨v', r', rfl, a, b⟩ := h
    exact RepL.cons a (RepL.set r ds r' n b)
theorem RepO.grow {K : PySem.W.Frag} {ι : List Addr} {H H' : Hp} {a : Addr} {o : Ob} {ι' : List Addr} (g : Grow ι H ι' H') (e : H' a = H a) (h : RepO K ι H a o) : RepO K ι' H' a o := by
  cases o with
  | lst ds => obtain ⟨vs, q, r⟩ := h; exact ⟨vs, by rw [e]; exact q, RepL.grow g ds vs r⟩
  | ins C fs => obtain ⟨C', dx, vs, nc, q, r⟩ := h; exact ⟨C', dx, vs, nc, by rw [e]; exact q, RepF.grow g fs vs r⟩
  | dct ks => obtain ⟨vs, q, r⟩ := h; exact ⟨vs, by rw [e]; exact q, RepK.grow g ks vs r⟩
  | dtt ks => obtain ⟨o, vs, q, r⟩ := h; exact ⟨o, vs, by rw [e]; exact q, RepK.grow g ks vs r⟩
  | scr ds => obtain ⟨o, vs, q, r⟩ := h; exact ⟨o, vs, by rw [e]; exact q, RepL.grow g ds vs r⟩
  | tpl ds => obtain ⟨o, vs, q, c1, c2, r⟩ := h; exact ⟨o, vs, by rw [e]; exact q, c1, c2, RepL.grow g ds vs r⟩
  | dkt ks => obtain ⟨vs, q, r⟩ := h; exact ⟨vs, by rw [e]; exact q, RepKT.grow g ks vs r⟩
  | dkl ks => obtain ⟨o, vs, q, r⟩ := h; exact ⟨o, vs, by rw [e]; exact q, RepKT.grow g ks vs r⟩
theorem RepO.some {K : PySem.W.Frag} {ι : List Addr} {H : Hp} {a : Addr} {o : Ob} (h : RepO K ι H a o) : ∃ u, H a = some u := by
  cases o with
  | lst ds => obtain ⟨vs, q, _⟩ := h; exact ⟨_, q⟩
  | ins C fs => obtain ⟨C', dx, vs, _, q, _⟩ := h; exact ⟨_, q⟩
  | dct ks => obtain ⟨vs, q, _⟩ := h; exact ⟨_, q⟩
  | dtt ks => obtain ⟨o, vs, q, _⟩ := h; exact ⟨_, q⟩
  | scr ds => obtain ⟨o, vs, q, _⟩ := h; exact ⟨_, q⟩
  | tpl ds => obtain ⟨o, vs, q, _⟩ := h; exact ⟨_, q⟩
  | dkt ks => obtain ⟨vs, q, _⟩ := h; exact ⟨_, q⟩
  | dkl ks => obtain ⟨o, vs, q, _⟩ := h; exact ⟨_, q⟩
theorem Sim.there {K : PySem.W.Frag} {ι : List Addr} {H : Hp} {S : Sto} (s : Sim K ι H S) {a : Addr} (h : a ∈ ι) : ∃ u, H a = some u := by
  obtain ⟨n, hn, rfl⟩ := List.mem_iff_getElem.mp h
  have hs : n < S.length := by rw [← s.len]; exact hn
  exact (s.ob n ι[n] S[n] (List.getElem?_eq_some_iff.mpr ⟨hn, rfl⟩) (List.getElem?_eq_some_iff.mpr ⟨hs, rfl⟩)).some
theorem Sim.free {K : PySem.W.Frag} {ι : List Addr} {H : Hp} {S : Sto} (s : Sim K ι H S) {p : Addr} (h : H p = none) : p ∉ ι := fun z => by
  obtain ⟨u, e⟩ := s.there z
  rw [h] at e; cases e
/-- a new thing outside of the store -/
theorem Grow.upd {ι : List Addr} {H : Hp} {p : Addr} {o : HO} (h : H p = none) : Grow ι H ι (L2.upd H p o) :=
  ⟨List.prefix_rfl, fun a u e _ => by rw [upd_ne (ne_of_none e h)]; exact e, fun _ z n => absurd z n, fun a od u e => by rw [upd_ne (ne_of_none e h)]; exact e⟩
theorem Sim.upd {K : PySem.W.Frag} {ι : List Addr} {H : Hp} {S : Sto} (s : Sim K ι H S) {p : Addr} {o : HO} (h : H p = none) : Sim K ι (L2.upd H p o) S :=
  ⟨s.nd, s.len, fun n a u e1 e2 => (s.ob n a u e1 e2).grow (Grow.upd h) (by
    have hp := s.free h
    have hne : a ≠ p := fun z => hp (z ▸ List.mem_of_getElem? e1)
    rw [upd_ne hne])⟩
/-- a new place -/
theorem Grow.push {ι : List Addr} {H : Hp} {p : Addr} {o : HO} (h : H p = none) : Grow ι H (ι ++ [p]) (L2.upd H p o) :=
  ⟨List.prefix_append _ _, fun a u e _ => by rw [upd_ne (ne_of_none e h)]; exact e, fun a z n => by
    rcases List.mem_append.mp z with z | z
    · exact absurd z n
    · rw [List.mem_singleton.mp z]; exact h, fun a od u e => by rw [upd_ne (ne_of_none e h)]; exact e⟩
theorem Sim.push {K : PySem.W.Frag} {ι : List Addr} {H : Hp} {S : Sto} (s : Sim K ι H S) {p : Addr} {o : HO} {b : Ob} (h : H p = none) (r : RepO K (ι ++ [p]) (L2.upd H p o) p b) : Sim K (ι ++ [p]) (L2.upd H p o) (S ++ [b]) := by
  have hp := s.free h
  refine ⟨?_, by simp [s.len], fun n a u e1 e2 => ?_⟩
  · exact List.nodup_append.mpr ⟨s.nd, by simp, fun x hx y hy => by rw [List.mem_singleton.mp hy]; exact fun z => hp (z ▸ hx)⟩
  · by_cases hn : n < ι.length
    · rw [List.getElem?_append_left hn] at e1
      rw [List.getElem?_append_left (by rw [← s.len]; exact hn)] at e2
      refine (s.ob n a u e1 e2).grow (Grow.push h) ?_
      have hne : a ≠ p := fun z => hp (z ▸ List.mem_of_getElem? e1)
      rw [upd_ne hne]
    · rw [List.getElem?_append_right (by omega)] at e1
      rw [List.getElem?_append_right (by rw [← s.len]; omega)] at e2
      rw [← s.len] at e2
      have hl := (List.getElem?_eq_some_iff.mp e1).1
      have : n - ι.length = 0 := by simpa using hl
      rw [this] at e1 e2
      simp at e1 e2
      subst e1; subst e2
      exact r
/-- a place changed -/
def NoFrz (u : HO) : Prop := ∀ od v, u ≠ .frz od v
theorem Grow.put {ι : List Addr} {H : Hp} {p : Addr} {o u0 : HO} (h : p ∈ ι) (hu : H p = some u0) (hf : NoFrz u0) : Grow ι H ι (L2.upd H p o) :=
  ⟨List.prefix_rfl, fun a u e n => by
    have hne : a ≠ p := fun z => n (z ▸ h)
    rw [upd_ne hne]; exact e, fun _ z n => absurd z n, fun a od u e => by
    have hne : a ≠ p := fun z => by
      rw [z, hu] at e
      exact hf _ _ (Option.some.inj e)
    rw [upd_ne hne]; exact e⟩
theorem Sim.put {K : PySem.W.Frag} {ι : List Addr} {H : Hp} {S : Sto} (s : Sim K ι H S) {p : Addr} {o u0 : HO} {b : Ob} {m : Nat} (h : ι[m]? = some p) (hu : H p = some u0) (hf : NoFrz u0) (r : RepO K ι (L2.upd H p o) p b) : Sim K ι (L2.upd H p o) (S.set m b) := by
  refine ⟨s.nd, by simp [s.len], fun n a u e1 e2 => ?_⟩
  by_cases hn : n = m
  · subst hn
    rw [h] at e1; cases e1
    have hl : n < S.length := by rw [← s.len]; exact (List.getElem?_eq_some_iff.mp h).1
    rw [List.getElem?_set_self hl] at e2; cases e2
    exact r
  · rw [List.getElem?_set_ne (Ne.symm hn)] at e2
    refine (s.ob n a u e1 e2).grow (Grow.put (List.mem_of_getElem? h) hu hf) ?_
    rw [upd_ne]
    rintro rfl
    obtain ⟨h1, q1⟩ := List.getElem?_eq_some_iff.mp e1
    obtain ⟨h2, q2⟩ := List.getElem?_eq_some_iff.mp h
    exact hn ((List.getElem_inj s.nd).mp (q1.trans q2.symm))
/-- a raised exception: its class, its own dict -/
def RepX (K : PySem.W.Frag) (ι : List Addr) (H : Hp) (e : Ex) (cls : Value) (dd : Option Addr) : Prop :=
  RepC K e.cls cls ∧ ((dd = none ∧ e.fs = []) ∨ ∃ a vs, dd = some a ∧ a ∉ ι ∧ H a = some (.xd vs) ∧ RepF K ι H e.fs vs)
/-- behind a result: what is wanted of a value, W of an exception -/
def Post {α : Type} (K : PySem.W.Frag) (W : WX) (σ : St) (ι : List Addr) (H : Hp) (r : R α) (P : α → Sto → List Addr → Hp → Prop) : Prop := match r with
  | .ok a S' => ∀ ι' H', Grow ι H ι' H' → Sim K ι' H' S' → P a S' ι' H'
  | .er e S' => ∀ ι' H' cls dd, Grow ι H ι' H' → Sim K ι' H' S' → RepX K ι' H' e cls dd → W cls dd σ H'
  | .stuck => False
theorem Post.bind {α β : Type} {K : PySem.W.Frag} {W : WX} {σ : St} {ι : List Addr} {H : Hp} {r : R α} {k : α → Sto → R β} {P : β → Sto → List Addr → Hp → Prop} (h : Post K W σ ι H (r.bind k) P) :
    Post K W σ ι H r fun a S1 ι1 H1 => Post K W σ ι1 H1 (k a S1) P := by
  cases r with
  | stuck => exact h
  | er e S => exact h
  | ok a S =>
    intro ι1 H1 G1 s1
    have h : Post K W σ ι H (k a S) P := h
    show Post K W σ ι1 H1 (k a S) P
    revert h
    cases k a S with
    | stuck => exact fun h => h
    | er e S => exact fun h ι2 H2 cls dd G2 s2 x => h ι2 H2 cls dd (G1.trans G2) s2 x
    | ok b S => exact fun h ι2 H2 G2 s2 => h ι2 H2 (G1.trans G2) s2
theorem Post.mono {α : Type} {K : PySem.W.Frag} {W : WX} {σ : St} {ι : List Addr} {H : Hp} {r : R α} {P P' : α → Sto → List Addr → Hp → Prop} (h : Post K W σ ι H r P)
    (i : ∀ a S' ι' H', Grow ι H ι' H' → Sim K ι' H' S' → P a S' ι' H' → P' a S' ι' H') : Post K W σ ι H r P' := by
  cases r with
  | stuck => exact h
  | er e S => exact h
  | ok a S => exact fun ι' H' G s => i a S ι' H' G s (h ι' H' G s)
theorem Post.here {α : Type} {K : PySem.W.Frag} {W : WX} {σ : St} {ι : List Addr} {H : Hp} {a : α} {S : Sto} {P : α → Sto → List Addr → Hp → Prop} (h : Post K W σ ι H (.ok a S) P) (s : Sim K ι H S) : P a S ι H := h ι H (Grow.refl ι H) s
/-- the world of a piece of code: the store's addresses, the data of the slots, the store -/
def rdE (K : PySem.W.Frag) (W : WX) (f : Ev → Sto → R D) : TE := fun σ H Q => ∃ ι ρ S, RepE K ι H σ ρ ∧ Sim K ι H S ∧ Post K W σ ι H (f ρ S) fun d _ ι' H' => ∀ v, RepV K ι' H' d v → Q v H'
def rdT (K : PySem.W.Frag) (W : WX) (f : Ev → Sto → R Bool) : TT := fun σ H Q => ∃ ι ρ S, RepE K ι H σ ρ ∧ Sim K ι H S ∧ Post K W σ ι H (f ρ S) fun b _ _ H' => Q b H'
def rdA (K : PySem.W.Frag) (W : WX) (f : Ev → Sto → R (List D)) : TA := fun σ H Q => ∃ ι ρ S, RepE K ι H σ ρ ∧ Sim K ι H S ∧ Post K W σ ι H (f ρ S) fun ds _ ι' H' => ∀ vs, RepL K ι' H' ds vs → Q vs H'
/-- behind a statement -/
def PostS (K : PySem.W.Frag) (W : WX) (E : Ends) (ι : List Addr) (H : Hp) (r : SR) : Prop := match r with
  | .nx ρ' S' => ∀ ι' H' σ', Grow ι H ι' H' → Sim K ι' H' S' → RepE K ι' H' σ' ρ' → E.nx σ' H'
  | .rt d S' => ∀ ι' H' v, Grow ι H ι' H' → Sim K ι' H' S' → RepV K ι' H' d v → E.rt v H'
  | .bk ρ' S' => ∀ ι' H' σ', Grow ι H ι' H' → Sim K ι' H' S' → RepE K ι' H' σ' ρ' → E.bk σ' H'
  | .ct ρ' S' => ∀ ι' H' σ', Grow ι H ι' H' → Sim K ι' H' S' → RepE K ι' H' σ' ρ' → E.ct σ' H'
  | .er e ρ' S' => ∀ ι' H' σ' cls dd, Grow ι H ι' H' → Sim K ι' H' S' → RepE K ι' H' σ' ρ' → RepX K ι' H' e cls dd → W cls dd σ' H'
  | .stuck => False
theorem PostS.grow {K : PySem.W.Frag} {W : WX} {E : Ends} {ι ι1 : List Addr} {H H1 : Hp} {r : SR} (h : PostS K W E ι H r) (G : Grow ι H ι1 H1) : PostS K W E ι1 H1 r := by
  cases r with
  | stuck => exact h
  | nx ρ S => exact fun ι' H' σ' G1 => h ι' H' σ' (G.trans G1)
  | bk ρ S => exact fun ι' H' σ' G1 => h ι' H' σ' (G.trans G1)
  | ct ρ S => exact fun ι' H' σ' G1 => h ι' H' σ' (G.trans G1)
  | rt d S => exact fun ι' H' v G1 => h ι' H' v (G.trans G1)
  | er e ρ S => exact fun ι' H' σ' cls dd G1 => h ι' H' σ' cls dd (G.trans G1)
def rdS (K : PySem.W.Frag) (W : WX) (F : Ev → Sto → SR) : TS := fun E σ H => ∃ ι ρ S, RepE K ι H σ ρ ∧ Sim K ι H S ∧ PostS K W E ι H (F ρ S)
abbrev DE (X : Cx) (W : WX) (e : Expr) (f : Ev → Sto → R D) : Prop := PE X e (rdE X.K W f)
abbrev DT (X : Cx) (W : WX) (e : Expr) (f : Ev → Sto → R Bool) : Prop := PT X e (rdT X.K W f)
abbrev DW (X : Cx) (W : WX) (e : Expr) (f : Ev → Sto → R Bool) : Prop := PW X e (rdT X.K W f)
abbrev DA (X : Cx) (W : WX) (es : List Expr) (f : Ev → Sto → R (List D)) : Prop := PA X es (rdA X.K W f)
abbrev DS (X : Cx) (W : WX) (st : Stmt) (F : Ev → Sto → SR) : Prop := PS X st (rdS X.K W F)
abbrev DSs (X : Cx) (W : WX) (st : List Stmt) (F : Ev → Sto → SR) : Prop := PSs X st (rdS X.K W F)
theorem PE.imp {X : Cx} {e : Expr} {t u : TE} (h : PE X e t) (i : ∀ σ H Q, u σ H Q → t σ H Q) : PE X e u := ⟨fun pins s σ H Q I q => h.run pins s σ H Q I (i σ H Q q)⟩
theorem PT.imp {X : Cx} {e : Expr} {t u : TT} (h : PT X e t) (i : ∀ σ H Q, u σ H Q → t σ H Q) : PT X e u := ⟨fun pins s σ H Q I q => h.run pins s σ H Q I (i σ H Q q)⟩
theorem PW.imp {X : Cx} {e : Expr} {t u : TT} (h : PW X e t) (i : ∀ σ H Q, u σ H Q → t σ H Q) : PW X e u := ⟨fun wh pins s σ H Q I q => h.run wh pins s σ H Q I (i σ H Q q)⟩
theorem PA.imp {X : Cx} {e : List Expr} {t u : TA} (h : PA X e t) (i : ∀ σ H Q, u σ H Q → t σ H Q) : PA X e u := ⟨fun p pins s σ H Q I q => h.run p pins s σ H Q I (i σ H Q q)⟩
theorem PS.imp {X : Cx} {e : Stmt} {t u : TS} (h : PS X e t) (i : ∀ D σ H, u D σ H → t D σ H) : PS X e u := ⟨fun pins s σ H D I q => h.run pins s σ H D I (i D σ H q)⟩
theorem PSs.imp {X : Cx} {e : List Stmt} {t u : TS} (h : PSs X e t) (i : ∀ D σ H, u D σ H → t D σ H) : PSs X e u := ⟨fun pins s σ H D I q => h.run pins s σ H D I (i D σ H q)⟩
end DL
namespace DL
open PySem PySem.Spec L2
open PyProof.Rows hiding St
section
variable {X : Cx} {W : WX} {pos : Pos}
def eVar (i : Nat) : Ev → Sto → R D := fun ρ S => match ρ[i]? with
  | some (some d) => .ok d S
  | _ => .stuck
def eC (d : D) : Ev → Sto → R D := fun _ S => .ok d S
theorem de_var (i : Nat) {x : Str} {pos : Pos} (hN : X.N[i]? = some x := by rfl) (hv : Vis X.env.scope x := by first | exact Or.inl rfl | exact Or.inr (Or.inl rfl) | exact Or.inr (Or.inr rfl)) (hd : (x == ("__debug__" : Str)) = false := by decide)
    (hcd : (x == ("__classdict__" : Str)) = false := by decide) : DE X W (.Name x pos) (eVar i) := by
  refine PE.imp (pe_var hN hv hd hcd) fun σ H Q ⟨ι, ρ, S, hE, hS, h⟩ => ?_
  unfold eVar at h
  split at h
  · rename_i d e
    obtain ⟨v, e', r⟩ := hE.get e
    exact ⟨v, e', h.here hS v r⟩
  · exact h.elim
theorem de_c {e : Expr} {d : D} {v : V} (h : PE X e (tC v)) (r : ∀ ι H, RepV X.K ι H d v) : DE X W e (eC d) :=
  PE.imp h fun σ H Q ⟨ι, ρ, S, hE, hS, h⟩ => h.here hS v (r ι H)
theorem de_int {i j pos} : DE X W (.Constant (.int i) j pos) (eC (.int i)) := de_c pe_int fun _ _ => by rw [RepV]
theorem de_bl {b j pos} : DE X W (.Constant (.bool b) j pos) (eC (.bl b)) := de_c pe_bl fun _ _ => by rw [RepV]
def eOp (o : D → D → Sto → R D) (f g : Ev → Sto → R D) : Ev → Sto → R D := fun ρ S => (f ρ S).bind fun a S1 => (g ρ S1).bind fun b S2 => o a b S2
/-- a rule by values keeps the function o -/
def OpK (K : PySem.W.Frag) (r : R2) (o : D → D → Sto → R D) : Prop := ∀ (W : WX) (σ : St) (ι : List Addr) (H : Hp) (S : Sto) (x y : V) (a b : D) (Q : VK), Sim K ι H S → RepV K ι H a x → RepV K ι H b y →
  Post K W σ ι H (o a b S) (fun d _ ι' H' => ∀ v, RepV K ι' H' d v → Q v H') → r x y H Q
theorem op_seq {r : R2} {o : D → D → Sto → R D} {f g : Ev → Sto → R D} (k : OpK X.K r o) : ∀ σ H Q, rdE X.K W (eOp o f g) σ H Q → tOp r (rdE X.K W f) (rdE X.K W g) σ H Q := fun σ H Q ⟨ι, ρ, S, hE, hS, h⟩ => by
  refine ⟨ι, ρ, S, hE, hS, (Post.bind h).mono fun a S1 ι1 H1 G1 s1 h1 x rx => ?_⟩
  refine ⟨ι1, ρ, S1, hE.grow G1, s1, (Post.bind h1).mono fun b S2 ι2 H2 G2 s2 h2 y ry => ?_⟩
  exact k W σ ι2 H2 S2 x y a b Q s2 (RepV.grow G2 a x rx) ry h2
theorem de_op {a b : Expr} {op : Operator} {r : R2} {o : D → D → Sto → R D} {f g : Ev → Sto → R D} (ho : OpR X (binaryOp op) r) (k : OpK X.K r o) (ha : DE X W a f) (hb : DE X W b g) : DE X W (.BinOp a op b pos) (eOp o f g) :=
  PE.imp (pe_op ho ha hb) (op_seq k)
/-- a value's truth where it is a bool -/
def bOf : D → Sto → R Bool := fun d S => match d with
  | .bl b => .ok b S
  | _ => .stuck
def eT (f : Ev → Sto → R D) : Ev → Sto → R Bool := fun ρ S => (f ρ S).bind bOf
theorem bOf_post {K : PySem.W.Frag} {σ : St} {ι : List Addr} {H : Hp} {d : D} {S : Sto} {v : V} {Q : Bool → Hp → Prop} (h : Post K W σ ι H (bOf d S) fun b _ _ H' => Q b H') (s : Sim K ι H S) (r : RepV K ι H d v) : ∃ c, v = .bl c ∧ Q c H := by
  cases d with
  | bl b => rw [RepV] at r; exact ⟨b, r, h.here s⟩
  | _ => exact (show False from h).elim
theorem dt_of_test {e : Expr} {t : TE} {f : Ev → Sto → R D} (h : PT X e (tTest t)) (i : ∀ σ H Q, rdE X.K W f σ H Q → t σ H Q) : DT X W e (eT f) := by
  refine PT.imp h fun σ H Q ⟨ι, ρ, S, hE, hS, q⟩ => i σ H _ ⟨ι, ρ, S, hE, hS, (Post.bind q).mono fun d S1 ι1 H1 G1 s1 h1 v rv => bOf_post h1 s1 rv⟩
theorem dt_cmp {a b : Expr} {op : CmpOp} {r : R2} {o : D → D → Sto → R D} {f g : Ev → Sto → R D} (ho : OpR X (compareOp op) r) (k : OpK X.K r o) (ha : DE X W a f) (hb : DE X W b g) (hm : behindInMarks op b = false) : DT X W (.Compare a [op] [b] pos) (eT (eOp o f g)) :=
  dt_of_test (pt_cmpR ho ha hb hm) (op_seq k)
def eAnd (f g : Ev → Sto → R Bool) : Ev → Sto → R Bool := fun ρ S => (f ρ S).bind fun b S1 => if b = true then g ρ S1 else .ok false S1
def eOr (f g : Ev → Sto → R Bool) : Ev → Sto → R Bool := fun ρ S => (f ρ S).bind fun b S1 => if b = true then .ok true S1 else g ρ S1
def eNot (f : Ev → Sto → R Bool) : Ev → Sto → R Bool := fun ρ S => (f ρ S).bind fun b S1 => .ok (!b) S1
def eIf (c : Ev → Sto → R Bool) (f g : Ev → Sto → R D) : Ev → Sto → R D := fun ρ S => (c ρ S).bind fun b S1 => if b = true then f ρ S1 else g ρ S1
variable {a b c : Expr} {rest : List Expr} {f g : Ev → Sto → R Bool}
theorem dw_and1 (ha : DT X W a f) : DW X W (.BoolOp .And [a] pos) f := pw_and1 ha
theorem dw_or1 (ha : DT X W a f) : DW X W (.BoolOp .Or [a] pos) f := pw_or1 ha
theorem dw_and (ha : DT X W a f) (hb : DW X W (.BoolOp .And (b :: rest) pos) g) : DW X W (.BoolOp .And (a :: b :: rest) pos) (eAnd f g) := by
  refine PW.imp (pw_and ha hb) fun σ H Q ⟨ι, ρ, S, hE, hS, h⟩ => ⟨ι, ρ, S, hE, hS, (Post.bind h).mono fun k S1 ι1 H1 G1 s1 h1 => ?_⟩
  cases k with
  | true => rw [if_pos rfl] at h1 ⊢; exact ⟨ι1, ρ, S1, hE.grow G1, s1, h1⟩
  | false => rw [if_neg (by decide)] at h1 ⊢; exact h1.here s1
theorem dw_or (ha : DT X W a f) (hb : DW X W (.BoolOp .Or (b :: rest) pos) g) : DW X W (.BoolOp .Or (a :: b :: rest) pos) (eOr f g) := by
  refine PW.imp (pw_or ha hb) fun σ H Q ⟨ι, ρ, S, hE, hS, h⟩ => ⟨ι, ρ, S, hE, hS, (Post.bind h).mono fun k S1 ι1 H1 G1 s1 h1 => ?_⟩
  cases k with
  | false => rw [if_neg (by decide)] at h1 ⊢; exact ⟨ι1, ρ, S1, hE.grow G1, s1, h1⟩
  | true => rw [if_pos rfl] at h1 ⊢; exact h1.here s1
theorem dw_t (h : DW X W a f) : DT X W a f := PW.pt h
/-- and, or, not as values: all but the last a bool -/
def eAndV (f g : Ev → Sto → R D) : Ev → Sto → R D := fun ρ S => (f ρ S).bind fun d S1 => (bOf d S1).bind fun b S2 => if b = true then g ρ S2 else .ok (.bl false) S2
def eOrV (f g : Ev → Sto → R D) : Ev → Sto → R D := fun ρ S => (f ρ S).bind fun d S1 => (bOf d S1).bind fun b S2 => if b = true then .ok (.bl true) S2 else g ρ S2
def eNotV (f : Ev → Sto → R D) : Ev → Sto → R D := fun ρ S => (f ρ S).bind fun d S1 => (bOf d S1).bind fun b S2 => .ok (.bl (!b)) S2
end
end DL
namespace DL
open PySem PySem.Spec L2
open PyProof.Rows hiding St
theorem OpR.or {X : Cx} {f : Value → Value → Sem Value} {r r' : R2} (h : OpR X f r) (h' : OpR X f r') : OpR X f (fun x y H Q => r x y H Q ∨ r' x y H Q) := by
  intro pins s σ H x y v u Q I rx ry q
  rcases q with q | q
  · exact h pins s σ H x y v u Q I rx ry q
  · exact h' pins s σ H x y v u Q I rx ry q
/-- a new tuple, a new list that is not changed any more -/
theorem rep_tup {K : PySem.W.Frag} {ι : List Addr} {H : Hp} {S : Sto} {ds : List D} {vs : List V} {p : Addr} (s : Sim K ι H S) (h : H p = none) (r : RepL K ι H ds vs) : RepV K ι (upd H p (.tup vs)) (.tup ds) (.ref p) := by
  rw [RepV]
  exact ⟨p, vs, rfl, .inl ⟨s.free h, upd_same⟩, RepL.grow (Grow.upd h) ds vs r⟩
theorem rep_fl {K : PySem.W.Frag} {ι : List Addr} {H : Hp} {S : Sto} {ds : List D} {vs : List V} {p : Addr} (s : Sim K ι H S) (h : H p = none) (r : RepL K ι H ds vs) : RepV K ι (upd H p (.lst vs)) (.fl ds) (.ref p) := by
  rw [RepV]
  exact ⟨p, vs, rfl, ⟨s.free h, upd_same⟩, RepL.grow (Grow.upd h) ds vs r⟩
theorem new_tup {K : PySem.W.Frag} {W : WX} {σ : St} {ι : List Addr} {H : Hp} {S : Sto} {ds : List D} {vs : List V} {Q : VK} (h : Post K W σ ι H (.ok (.tup ds) S) fun d _ ι' H' => ∀ v, RepV K ι' H' d v → Q v H') (s : Sim K ι H S) (r : RepL K ι H ds vs) :
    ∀ p, H p = none → Q (.ref p) (upd H p (.tup vs)) := fun p hp => h ι _ (Grow.upd hp) (s.upd hp) _ (rep_tup s hp r)
theorem new_fl {K : PySem.W.Frag} {W : WX} {σ : St} {ι : List Addr} {H : Hp} {S : Sto} {ds : List D} {vs : List V} {Q : VK} (h : Post K W σ ι H (.ok (.fl ds) S) fun d _ ι' H' => ∀ v, RepV K ι' H' d v → Q v H') (s : Sim K ι H S) (r : RepL K ι H ds vs) :
    ∀ p, H p = none → Q (.ref p) (upd H p (.lst vs)) := fun p hp => h ι _ (Grow.upd hp) (s.upd hp) _ (rep_fl s hp r)
theorem new_loc {K : PySem.W.Frag} {W : WX} {σ : St} {ι : List Addr} {H : Hp} {S : Sto} {ds : List D} {vs : List V} {Q : VK} (h : Post K W σ ι H (.ok (.loc S.length) (S ++ [.lst ds])) fun d _ ι' H' => ∀ v, RepV K ι' H' d v → Q v H') (s : Sim K ι H S) (r : RepL K ι H ds vs) :
    ∀ p, H p = none → Q (.ref p) (upd H p (.lst vs)) := fun p hp => by
  refine h (ι ++ [p]) _ (Grow.push hp) (s.push hp ⟨vs, upd_same, RepL.grow (Grow.push hp) ds vs r⟩) _ ?_
  rw [RepV]
  exact ⟨p, by rw [← s.len]; simp, rfl⟩
def getL (S : Sto) (n : Nat) : Option (List D) := match S[n]? with
  | some (.lst ds) => some ds
  | _ => none
def getQ (S : Sto) (n : Nat) : Option (List D) := match S[n]? with
  | some (.lst ds) => some ds
  | some (.scr ds) => some ds
  | _ => none
def lstOf (S : Sto) : D → Option (List D)
  | .fl ds => some ds
  | .loc n => getL S n
  | _ => none
def seqOf (S : Sto) : D → Option (List D)
  | .tup ds => some ds
  | .fl ds => some ds
  | .kl ds => some ds
  | .loc n => getQ S n
  | _ => none
theorem getL_some {S : Sto} {n : Nat} {ds : List D} (h : getL S n = some ds) : S[n]? = some (.lst ds) := by
  unfold getL at h
  (try unfold ifp at h); split at h
  · rename_i e; cases h; exact e
  · cases h
theorem getL_of {S : Sto} {n : Nat} {ds : List D} (h : S[n]? = some (.lst ds)) : getL S n = some ds := by unfold getL; rw [h]
theorem getQ_of {S : Sto} {n : Nat} {ds : List D} (h : S[n]? = some (.lst ds)) : getQ S n = some ds := by unfold getQ; rw [h]
theorem lst_at {K : PySem.W.Frag} {ι : List Addr} {H : Hp} {S : Sto} {d : D} {x : V} {ds : List D} (s : Sim K ι H S) (r : RepV K ι H d x) (e : lstOf S d = some ds) : ∃ p vs, x = .ref p ∧ H p = some (.lst vs) ∧ RepL K ι H ds vs := by
  cases d with
  | fl xs => cases e; rw [RepV] at r; obtain ⟨a, vs, rfl, t, q⟩ := r; exact ⟨a, vs, rfl, t.2, q⟩
  | loc n =>
    rw [RepV] at r
    obtain ⟨a, ea, rfl⟩ := r
    obtain ⟨vs, h1, h2⟩ := s.ob _ _ _ ea (getL_some e)
    exact ⟨a, vs, rfl, h1, h2⟩
  | _ => cases e
theorem seq_at {K : PySem.W.Frag} {ι : List Addr} {H : Hp} {S : Sto} {d : D} {x : V} {ds : List D} (s : Sim K ι H S) (r : RepV K ι H d x) (e : seqOf S d = some ds) : ∃ p vs, x = .ref p ∧ (SqL K H p vs ∨ SqT K H p vs) ∧ RepL K ι H ds vs := by
  cases d with
  | tup xs => cases e; rw [RepV] at r; obtain ⟨a, vs, rfl, t, q⟩ := r; exact ⟨a, vs, rfl, .inr t.sq, q⟩
  | fl xs => cases e; rw [RepV] at r; obtain ⟨a, vs, rfl, t, q⟩ := r; exact ⟨a, vs, rfl, .inl t.sq, q⟩
  | kl xs => cases e; rw [RepV] at r; obtain ⟨a, vs, rfl, t, q⟩ := r; exact ⟨a, vs, rfl, .inl t.sq, q⟩
  | loc n =>
    rw [RepV] at r
    obtain ⟨a, ea, rfl⟩ := r
    have e : getQ S n = some ds := e
    unfold getQ at e
    (try unfold ifp at e); split at e
    · rename_i q; cases e
      obtain ⟨vs, h1, h2⟩ := s.ob _ _ _ ea q
      exact ⟨a, vs, rfl, .inl (SqL.of h1), h2⟩
    · rename_i q; cases e
      obtain ⟨o, vs, h1, h2⟩ := s.ob _ _ _ ea q
      exact ⟨a, vs, rfl, .inl (.inl (.inr ⟨o, h1⟩)), h2⟩
    · cases e
  | _ => cases e
theorem tup_at {K : PySem.W.Frag} {ι : List Addr} {H : Hp} {ds : List D} {x : V} (r : RepV K ι H (.tup ds) x) : ∃ p vs, x = .ref p ∧ SqT K H p vs ∧ RepL K ι H ds vs := by
  rw [RepV] at r; obtain ⟨a, vs, rfl, t, q⟩ := r; exact ⟨a, vs, rfl, t.sq, q⟩
theorem int_at {K : PySem.W.Frag} {ι : List Addr} {H : Hp} {i : Int} {x : V} (r : RepV K ι H (.int i) x) : x = .int i := by rw [RepV] at r; exact r
theorem str_at {K : PySem.W.Frag} {ι : List Addr} {H : Hp} {i : Str} {x : V} (r : RepV K ι H (.str i) x) : x = .str i := by rw [RepV] at r; exact r
theorem int_rep {K : PySem.W.Frag} {ι : List Addr} {H : Hp} {i : Int} : RepV K ι H (.int i) (.int i) := by rw [RepV]
theorem bl_rep {K : PySem.W.Frag} {ι : List Addr} {H : Hp} {i : Bool} : RepV K ι H (.bl i) (.bl i) := by rw [RepV]
theorem str_rep {K : PySem.W.Frag} {ι : List Addr} {H : Hp} {i : Str} : RepV K ι H (.str i) (.str i) := by rw [RepV]
theorem non_rep {K : PySem.W.Frag} {ι : List Addr} {H : Hp} : RepV K ι H .non .non := by rw [RepV]
theorem rep_nil {K : PySem.W.Frag} {ι : List Addr} {H : Hp} {ds : List D} (h : RepL K ι H ds []) : ds = [] := by
  cases ds with
  | nil => rfl
  | cons d ds => rw [RepL] at h; obtain ⟨v, r, e, _⟩ := h; cases e
noncomputable def dAdd (a b : D) (S : Sto) : R D := match a, b with
  | .int i, .int j => .ok (.int (i + j)) S
  | .str x, .str y => ifp (x.length + y.length ≤ sizeLine) (.ok (.str (x ++ y)) S) .stuck
  | .tup xs, .tup ys => ifp (xs.length + ys.length ≤ sizeLine) (.ok (.tup (xs ++ ys)) S) .stuck
  | a, b => match lstOf S a, lstOf S b with
    | some xs, some ys => ifp (xs.length + ys.length ≤ sizeLine) (.ok (.fl (xs ++ ys)) S) .stuck
    | _, _ => .stuck
def dSub (a b : D) (S : Sto) : R D := match a, b with
  | .int i, .int j => .ok (.int (i - j)) S
  | _, _ => .stuck
open Classical in
noncomputable def dMul (a b : D) (S : Sto) : R D := match a, b with
  | .int i, .int j => ifp (CMul i j ∨ CMulW i j) (.ok (.int (i * j)) S) .stuck
  | a, .int k => match lstOf S a with
    | some xs => ifp (-(2 ^ 63) ≤ k ∧ k < 2 ^ 63 ∧ xs.length * k.toNat ≤ sizeLine) (.ok (.fl (List.replicate k.toNat xs).flatten) S) .stuck
    | _ => .stuck
  | _, _ => .stuck
noncomputable def dFdiv (a b : D) (S : Sto) : R D := match a, b with
  | .int i, .int j => ifp (0 < j ∧ j.natAbs.log2 < 9000) (.ok (.int (i / j)) S) .stuck
  | _, _ => .stuck
def dMod (a b : D) (S : Sto) : R D := match a, b with
  | .int i, .int j => if 0 < j then .ok (.int (i % j)) S else .stuck
  | _, _ => .stuck
noncomputable def dPow (a b : D) (S : Sto) : R D := match a, b with
  | .int i, .int j => ifp (0 ≤ j ∧ j ≤ 1000000 ∧ i.natAbs < 2 ^ 64) (.ok (.int (i ^ j.toNat)) S) .stuck
  | _, _ => .stuck
def dCmp (p : Int → Int → Bool) (a b : D) (S : Sto) : R D := match a, b with
  | .int i, .int j => .ok (.bl (p i j)) S
  | _, _ => .stuck
section
variable {X : Cx} {K : PySem.W.Frag}
def rAddD (K : PySem.W.Frag) : R2 := fun x y H Q => (∃ i j, x = .int i ∧ y = .int j ∧ Q (.int (i + j)) H) ∨ (∃ i j, x = .str i ∧ y = .str j ∧ i.length + j.length ≤ sizeLine ∧ Q (.str (i ++ j)) H) ∨ rCatA K x y H Q ∨ rCat x y H Q
theorem or_add : OpR X (binaryOp .Add) (rAddD X.K) := OpR.or op_add (OpR.or op_add_str (OpR.or op_catA op_cat))
theorem RepL.replicate {K : PySem.W.Frag} {ι : List Addr} {H : Hp} {ds : List D} {vs : List V} (h : RepL K ι H ds vs) : ∀ n : Nat, RepL K ι H (List.replicate n ds).flatten (List.replicate n vs).flatten
  | 0 => RepL.nil
  | n + 1 => by
    rw [List.replicate_succ, List.replicate_succ, List.flatten_cons, List.flatten_cons]
    exact RepL.app ds vs h _ _ (RepL.replicate h n)
theorem k_cat {W : WX} {σ : St} {ι : List Addr} {H : Hp} {S : Sto} {a b : D} {x y : V} {Q : VK} (s : Sim K ι H S) (rx : RepV K ι H a x) (ry : RepV K ι H b y)
    (h : Post K W σ ι H (match lstOf S a, lstOf S b with
    | some xs, some ys => ifp (xs.length + ys.length ≤ sizeLine) (.ok (.fl (xs ++ ys)) S) .stuck
    | _, _ => .stuck) fun d _ ι' H' => ∀ v, RepV K ι' H' d v → Q v H') : rCat x y H Q := by
  (try unfold ifp at h); split at h
  · rename_i xs ys e1 e2
    (try unfold ifp at h); split at h
    · rename_i hl
      obtain ⟨p, vs, rfl, hp, rp⟩ := lst_at s rx e1
      obtain ⟨q, us, rfl, hq, rq⟩ := lst_at s ry e2
      refine ⟨p, q, vs, us, rfl, rfl, hp, hq, ?_, new_fl h s (RepL.app _ _ rp _ _ rq)⟩
      rw [← RepL.length _ _ rp, ← RepL.length _ _ rq]; exact hl
    · exact h.elim
  · exact h.elim
theorem k_add : OpK K (rAddD K) dAdd := by
  intro W σ ι H S x y a b Q s rx ry h
  unfold dAdd at h
  (try unfold ifp at h); split at h
  · rename_i i j
    exact .inl ⟨i, j, int_at rx, int_at ry, h.here s _ int_rep⟩
  · rename_i i j
    (try unfold ifp at h); split at h
    · rename_i hl
      exact .inr (.inl ⟨i, j, str_at rx, str_at ry, hl, h.here s _ str_rep⟩)
    · exact h.elim
  · rename_i xs ys
    (try unfold ifp at h); split at h
    · rename_i hl
      obtain ⟨p, vs, rfl, hp, rp⟩ := tup_at rx
      obtain ⟨q, us, rfl, hq, rq⟩ := tup_at ry
      refine .inr (.inr (.inl ⟨p, q, vs, us, rfl, rfl, hp, hq, ?_, fun e => ?_, fun e1 e => ?_, fun _ _ => new_tup h s (RepL.app _ _ rp _ _ rq)⟩))
      · rw [← RepL.length _ _ rp, ← RepL.length _ _ rq]; exact hl
      · subst e
        have := rep_nil rp
        subst this
        exact h.here s _ (by simpa using ry)
      · subst e
        have := rep_nil rq
        subst this
        exact h.here s _ (by simpa using rx)
    · exact h.elim
  · exact .inr (.inr (.inr (k_cat s rx ry h)))
theorem k_sub : OpK K (rI0 fun i j => .int (i - j)) dSub := by
  intro W σ ι H S x y a b Q s rx ry h
  unfold dSub at h
  (try unfold ifp at h); split at h
  · rename_i i j
    exact ⟨i, j, int_at rx, int_at ry, h.here s _ int_rep⟩
  · exact h.elim
def rMulD : R2 := fun x y H Q => rI CMul (fun i j => .int (i * j)) x y H Q ∨ rI CMulW (fun i j => .int (i * j)) x y H Q ∨ rRep x y H Q
theorem or_mul : OpR X (binaryOp .Mult) rMulD := OpR.or op_mul (OpR.or op_mulW op_rep)
theorem k_mul : OpK K rMulD dMul := by
  intro W σ ι H S x y a b Q s rx ry h
  unfold dMul at h
  (try unfold ifp at h); split at h
  · rename_i i j
    (try unfold ifp at h); split at h
    · rename_i hl
      rcases hl with hl | hl
      · exact .inl ⟨i, j, int_at rx, int_at ry, hl, h.here s _ int_rep⟩
      · exact .inr (.inl ⟨i, j, int_at rx, int_at ry, hl, h.here s _ int_rep⟩)
    · exact h.elim
  · rename_i k _
    (try unfold ifp at h); split at h
    · rename_i xs e
      (try unfold ifp at h); split at h
      · rename_i hl
        obtain ⟨p, vs, rfl, hp, rp⟩ := lst_at s rx e
        refine .inr (.inr ⟨p, k, vs, rfl, int_at ry, hp, hl.1, hl.2.1, ?_, new_fl h s (RepL.replicate rp _)⟩)
        rw [← RepL.length _ _ rp]; exact hl.2.2
      · exact h.elim
    · exact h.elim
  · exact h.elim
theorem k_fdiv : OpK K (rI CDivW fun i j => .int (i / j)) dFdiv := by
  intro W σ ι H S x y a b Q s rx ry h
  unfold dFdiv at h
  (try unfold ifp at h); split at h
  · rename_i i j
    (try unfold ifp at h); split at h
    · rename_i hl
      exact ⟨i, j, int_at rx, int_at ry, hl, h.here s _ int_rep⟩
    · exact h.elim
  · exact h.elim
theorem k_mod : OpK K (rI (fun _ j => j ≠ 0) fun i j => .int (i.fmod j)) dMod := by
  intro W σ ι H S x y a b Q s rx ry h
  unfold dMod at h
  (try unfold ifp at h); split at h
  · rename_i i j
    (try unfold ifp at h); split at h
    · rename_i hl
      refine ⟨i, j, int_at rx, int_at ry, by omega, ?_⟩
      show Q (V.int (i.fmod j)) H
      rw [Int.fmod_eq_emod_of_nonneg i (by omega)]
      exact h.here s _ int_rep
    · exact h.elim
  · exact h.elim
theorem k_pow : OpK K (rI CPow fun i j => .int (i ^ j.toNat)) dPow := by
  intro W σ ι H S x y a b Q s rx ry h
  unfold dPow at h
  (try unfold ifp at h); split at h
  · rename_i i j
    (try unfold ifp at h); split at h
    · rename_i hl
      exact ⟨i, j, int_at rx, int_at ry, hl, h.here s _ int_rep⟩
    · exact h.elim
  · exact h.elim
theorem k_cmp {p : Int → Int → Bool} : OpK K (rI0 fun i j => .bl (p i j)) (dCmp p) := by
  intro W σ ι H S x y a b Q s rx ry h
  unfold dCmp at h
  (try unfold ifp at h); split at h
  · rename_i i j
    exact ⟨i, j, int_at rx, int_at ry, h.here s _ bl_rep⟩
  · exact h.elim
def dLt : D → D → Sto → R D := dCmp fun i j => decide (i < j)
def dLe : D → D → Sto → R D := dCmp fun i j => decide (i ≤ j)
def dGt : D → D → Sto → R D := dCmp fun i j => decide (j < i)
def dGe : D → D → Sto → R D := dCmp fun i j => decide (j ≤ i)
end
end DL
namespace DL
open PySem PySem.Spec L2
open PyProof.Rows hiding St
section
variable {X : Cx} {W : WX} {pos : Pos} {e : Expr} {es : List Expr}
def aNil : Ev → Sto → R (List D) := fun _ S => .ok [] S
def aCons (f : Ev → Sto → R D) (g : Ev → Sto → R (List D)) : Ev → Sto → R (List D) := fun ρ S => (f ρ S).bind fun d S1 => (g ρ S1).bind fun ds S2 => .ok (d :: ds) S2
def sOf (d : D) (S : Sto) : R (List D) := match seqOf S d with
  | some ds => .ok ds S
  | none => .stuck
def aStar (f : Ev → Sto → R D) (g : Ev → Sto → R (List D)) : Ev → Sto → R (List D) := fun ρ S => (f ρ S).bind fun d S1 => (sOf d S1).bind fun xs S2 => (g ρ S2).bind fun ds S3 => .ok (xs ++ ds) S3
theorem da_nil : DA X W [] aNil := PA.imp pa_nil fun σ H Q ⟨ι, ρ, S, hE, hS, h⟩ => h.here hS [] RepL.nil
theorem da_cons {f : Ev → Sto → R D} {g : Ev → Sto → R (List D)} (ha : DE X W e f) (hr : DA X W es g) (hs : starEach (e :: es) X.env = (false, eval e X.env) :: starEach es X.env := by rfl) : DA X W (e :: es) (aCons f g) := by
  refine PA.imp (pa_cons ha hr hs) fun σ H Q ⟨ι, ρ, S, hE, hS, h⟩ => ⟨ι, ρ, S, hE, hS, (Post.bind h).mono fun d S1 ι1 H1 G1 s1 h1 v rv => ?_⟩
  refine ⟨ι1, ρ, S1, hE.grow G1, s1, (Post.bind h1).mono fun ds S2 ι2 H2 G2 s2 h2 vs rs => ?_⟩
  exact h2.here s2 _ (RepL.cons (RepV.grow G2 d v rv) rs)
noncomputable def eTup (g : Ev → Sto → R (List D)) : Ev → Sto → R D := fun ρ S => (g ρ S).bind fun ds S1 => ifp (ds.length ≤ sizeLine) (.ok (.tup ds) S1) .stuck
noncomputable def eFl (g : Ev → Sto → R (List D)) : Ev → Sto → R D := fun ρ S => (g ρ S).bind fun ds S1 => ifp (ds.length ≤ sizeLine) (.ok (.fl ds) S1) .stuck
noncomputable def eLoc (g : Ev → Sto → R (List D)) : Ev → Sto → R D := fun ρ S => (g ρ S).bind fun ds S1 => ifp (ds.length ≤ sizeLine) (.ok (.loc S1.length) (S1 ++ [.lst ds])) .stuck
theorem de_tup {k} {g : Ev → Sto → R (List D)} (h : DA X W es g) : DE X W (.Tuple es k pos) (eTup g) := by
  refine PE.imp (pe_tup h) fun σ H Q ⟨ι, ρ, S, hE, hS, h⟩ => ⟨ι, ρ, S, hE, hS, (Post.bind h).mono fun ds S1 ι1 H1 G1 s1 h1 vs rs => ?_⟩
  (try unfold ifp at h1); split at h1
  · rename_i hl
    exact ⟨by rw [← RepL.length _ _ rs]; exact hl, new_tup h1 s1 rs⟩
  · exact h1.elim
theorem de_fl {g : Ev → Sto → R (List D)} (h : DA X W es g) : DE X W (.List es pos) (eFl g) := by
  refine PE.imp (pe_lst h) fun σ H Q ⟨ι, ρ, S, hE, hS, h⟩ => ⟨ι, ρ, S, hE, hS, (Post.bind h).mono fun ds S1 ι1 H1 G1 s1 h1 vs rs => ?_⟩
  (try unfold ifp at h1); split at h1
  · rename_i hl
    exact ⟨by rw [← RepL.length _ _ rs]; exact hl, new_fl h1 s1 rs⟩
  · exact h1.elim
theorem de_loc {g : Ev → Sto → R (List D)} (h : DA X W es g) : DE X W (.List es pos) (eLoc g) := by
  refine PE.imp (pe_lst h) fun σ H Q ⟨ι, ρ, S, hE, hS, h⟩ => ⟨ι, ρ, S, hE, hS, (Post.bind h).mono fun ds S1 ι1 H1 G1 s1 h1 vs rs => ?_⟩
  (try unfold ifp at h1); split at h1
  · rename_i hl
    exact ⟨by rw [← RepL.length _ _ rs]; exact hl, new_loc h1 s1 rs⟩
  · exact h1.elim
noncomputable def dIx (a b : D) (S : Sto) : R D := match a, b with
  | .str z, .int i => ifp (z.length ≤ sizeLine) (match atI z.cps.toList i with
    | some c => .ok (.str ⟨#[c]⟩) S
    | none => .stuck) .stuck
  | a, .int i => match seqOf S a with
    | some xs => (match atI xs i with
      | some d => .ok d S
      | none => .stuck)
    | none => .stuck
  | _, _ => .stuck
theorem atI_rep {K : PySem.W.Frag} {ι : List Addr} {H : Hp} {ds : List D} {vs : List V} {i : Int} {d : D} (r : RepL K ι H ds vs) (e : atI ds i = some d) : ∃ v, atI vs i = some v ∧ RepV K ι H d v := by
  unfold atI at e ⊢
  rw [← RepL.length _ _ r]
  cases h : ixN ds.length i with
  | none => rw [h] at e; cases e
  | some j =>
    rw [h] at e
    exact RepL.get _ _ r j d e
theorem k_ix {K : PySem.W.Frag} : OpK K (rIx K) dIx := by
  intro W σ ι H S x y a b Q s rx ry h
  unfold dIx at h
  (try unfold ifp at h); split at h
  · rename_i z i
    (try unfold ifp at h); split at h
    · rename_i hz
      (try unfold ifp at h); split at h
      · rename_i c hc
        exact .inr (.inr ⟨z, i, c, str_at rx, int_at ry, hz, hc, h.here s _ str_rep⟩)
      · exact h.elim
    · exact h.elim
  · rename_i i _
    (try unfold ifp at h); split at h
    · rename_i xs e
      (try unfold ifp at h); split at h
      · rename_i d hd
        obtain ⟨p, vs, rfl, q, rl⟩ := seq_at s rx e
        obtain ⟨v, hv, rv⟩ := atI_rep rl hd
        rcases q with q | q
        · exact .inl ⟨p, vs, i, v, rfl, int_at ry, q, hv, h.here s _ rv⟩
        · exact .inr (.inl ⟨p, vs, i, v, rfl, int_at ry, q, hv, h.here s _ rv⟩)
      · exact h.elim
    · exact h.elim
  · exact h.elim
theorem de_ix {a b : Expr} {f g : Ev → Sto → R D} (ha : DE X W a f) (hb : DE X W b g) (hs : PlainIx b := by exact fun _ _ => rfl) : DE X W (.Subscript a b pos) (eOp dIx f g) :=
  PE.imp (pe_ix ix_seq ha hb hs) (op_seq k_ix)
def rdO (K : PySem.W.Frag) (W : WX) (f : Ev → Sto → R (Option Int)) : TO := fun σ H Q => ∃ ι ρ S, RepE K ι H σ ρ ∧ Sim K ι H S ∧ Post K W σ ι H (f ρ S) fun b _ _ H' => Q b H'
abbrev DO (X : Cx) (W : WX) (e : Option Expr) (f : Ev → Sto → R (Option Int)) : Prop := PO X e (rdO X.K W f)
theorem PO.imp {X : Cx} {e : Option Expr} {t u : TO} (h : PO X e t) (i : ∀ σ H Q, u σ H Q → t σ H Q) : PO X e u := ⟨fun pins s σ H Q I q => h.run pins s σ H Q I (i σ H Q q)⟩
def oNone : Ev → Sto → R (Option Int) := fun _ S => .ok none S
def iOf (d : D) (S : Sto) : R Int := match d with
  | .int i => .ok i S
  | _ => .stuck
def oSome (f : Ev → Sto → R D) : Ev → Sto → R (Option Int) := fun ρ S => (f ρ S).bind fun d S1 => (iOf d S1).bind fun i S2 => .ok (some i) S2
theorem do_none : DO X W none oNone := PO.imp po_none fun σ H Q ⟨ι, ρ, S, hE, hS, h⟩ => h.here hS
theorem do_some {f : Ev → Sto → R D} (h : DE X W e f) : DO X W (some e) (oSome f) := by
  refine PO.imp (po_some h) fun σ H Q ⟨ι, ρ, S, hE, hS, h⟩ => ⟨ι, ρ, S, hE, hS, (Post.bind h).mono fun d S1 ι1 H1 G1 s1 h1 v rv => ?_⟩
  cases d with
  | int i => exact ⟨i, int_at rv, h1.here s1⟩
  | _ => exact (show False from h1).elim
def cut {α : Type} (xs : List α) (lo hi : Option Int) : List α := (xs.drop (HT.sIx xs.length 0 lo)).take (HT.sIx xs.length xs.length hi - HT.sIx xs.length 0 lo)
noncomputable def dSl (mk : List D → Sto → R D) (a : D) (lo hi : Option Int) (S : Sto) : R D := match a with
  | .str z => ifp (z.length ≤ sizeLine) (.ok (.str (cutS z lo hi)) S) .stuck
  | .tup xs => .ok (.tup (cut xs lo hi)) S
  | a => match lstOf S a with
    | some xs => mk (cut xs lo hi) S
    | none => .stuck
def mkFl (ds : List D) (S : Sto) : R D := .ok (.fl ds) S
def mkLoc (ds : List D) (S : Sto) : R D := .ok (.loc S.length) (S ++ [.lst ds])
/-- a new list comes, frozen or into the store -/
def MkOk (mk : List D → Sto → R D) : Prop := ∀ (K : PySem.W.Frag) (W : WX) (σ : St) (ι : List Addr) (H : Hp) (S : Sto) (ds : List D) (vs : List V) (Q : VK), Post K W σ ι H (mk ds S) (fun d _ ι' H' => ∀ v, RepV K ι' H' d v → Q v H') → Sim K ι H S → RepL K ι H ds vs →
  ∀ p, H p = none → Q (.ref p) (upd H p (.lst vs))
theorem mk_fl : MkOk mkFl := fun _ _ _ _ _ _ _ _ _ h s r => new_fl h s r
noncomputable def eSl (mk : List D → Sto → R D) (f : Ev → Sto → R D) (l u : Ev → Sto → R (Option Int)) : Ev → Sto → R D := fun ρ S => (f ρ S).bind fun d S1 => (l ρ S1).bind fun lo S2 => (u ρ S2).bind fun hi S3 => dSl mk d lo hi S3
theorem cut_rep {K : PySem.W.Frag} {ι : List Addr} {H : Hp} {ds : List D} {vs : List V} (r : RepL K ι H ds vs) (lo hi : Option Int) : RepL K ι H (cut ds lo hi) (cutV vs lo hi) := by
  unfold cut cutV
  rw [← RepL.length _ _ r]
  exact RepL.take _ _ _ (RepL.drop _ _ _ r)
theorem cut_whole {α : Type} (xs : List α) (lo hi : Option Int) (h : HT.sIx xs.length 0 lo = 0 ∧ HT.sIx xs.length xs.length hi = xs.length) : cut xs lo hi = xs := by
  unfold cut
  rw [h.1, h.2]
  simp
theorem de_sl {mk : List D → Sto → R D} {lo hi : Option Expr} {p2 : Pos} {f : Ev → Sto → R D} {l u : Ev → Sto → R (Option Int)} (m : MkOk mk) (he : DE X W e f) (hl : DO X W lo l) (hu : DO X W hi u) : DE X W (.Subscript e (.Slice lo hi none p2) pos) (eSl mk f l u) := by
  refine PE.imp (pe_slice (SlR.or sl_str (SlR.or sl_tupA sl_list)) he hl hu) fun σ H Q ⟨ι, ρ, S, hE, hS, h⟩ => ⟨ι, ρ, S, hE, hS, (Post.bind h).mono fun d S1 ι1 H1 G1 s1 h1 v rv => ?_⟩
  refine ⟨ι1, ρ, S1, hE.grow G1, s1, (Post.bind h1).mono fun lo S2 ι2 H2 G2 s2 h2 => ?_⟩
  refine ⟨ι2, ρ, S2, (hE.grow G1).grow G2, s2, (Post.bind h2).mono fun hi S3 ι3 H3 G3 s3 h3 => ?_⟩
  have rv := RepV.grow G3 d v (RepV.grow G2 d v rv)
  unfold dSl at h3
  (try unfold ifp at h3); split at h3
  · (try unfold ifp at h3); split at h3
    · rename_i hz
      exact .inl ⟨_, str_at rv, hz, h3.here s3 _ str_rep⟩
    · exact h3.elim
  · obtain ⟨p, vs, rfl, q, rl⟩ := tup_at rv
    refine .inr (.inl ⟨p, vs, rfl, q, fun e => ?_, fun _ => new_tup h3 s3 (cut_rep rl _ _)⟩)
    rw [← RepL.length _ _ rl] at e
    rw [cut_whole _ _ _ e] at h3
    exact h3.here s3 _ rv
  · (try unfold ifp at h3); split at h3
    · rename_i xs e
      obtain ⟨p, vs, rfl, q, rl⟩ := lst_at s3 rv e
      exact .inr (.inr ⟨p, vs, rfl, SqL.of q, m _ _ _ _ _ _ _ _ _ h3 s3 (cut_rep rl _ _)⟩)
    · exact h3.elim
end
end DL
namespace DL
open PySem PySem.Spec L2
open PyProof.Rows hiding St
def keyPy : Key → PyData
  | .inl i => .int i
  | .inr x => .str x
mutual
def py : D → Option PyData
  | .non => some .none
  | .bl b => some (.bool b)
  | .int i => some (.int i)
  | .str x => some (.str x)
  | .tup ds => (pyL ds).map .tuple
  | .fl ds => (pyL ds).map .list
  | .kl _ => none
  | .ktp _ => none
  | .ztp _ => none
  | .fd kvs => (pyK kvs).map .dict
  | .ty _ => none
  | .fn _ => none
  | .exc _ _ => none
  | .loc _ => none
def pyL : List D → Option (List PyData)
  | [] => some []
  | d :: ds => (py d).bind fun p => (pyL ds).map fun ps => p :: ps
def pyK : List (Key × D) → Option (List (PyData × PyData))
  | [] => some []
  | (k, d) :: ds => (py d).bind fun p => (pyK ds).map fun ps => (keyPy k, p) :: ps
end
def pyS (S : Sto) : D → Option PyData
  | .loc n => (getQ S n).bind fun ds => (pyL ds).map .list
  | d => py d
mutual
theorem py_dp {K : PySem.W.Frag} {ι : List Addr} {H : Hp} : ∀ (d : D) (v : V) (p : PyData), RepV K ι H d v → py d = some p → p.hasDict = false → Dp K H v p
  | .non, v, p, r, e, _ => by rw [RepV] at r; rw [py] at e; cases e; subst r; exact .non
  | .bl b, v, p, r, e, _ => by rw [RepV] at r; rw [py] at e; cases e; subst r; exact .bl b
  | .int i, v, p, r, e, _ => by rw [RepV] at r; rw [py] at e; cases e; subst r; exact .int i
  | .str x, v, p, r, e, _ => by rw [RepV] at r; rw [py] at e; cases e; subst r; exact .str x
  | .tup ds, v, p, r, e, n => by
    rw [RepV] at r
    obtain ⟨a, vs, rfl, t, q⟩ := r
    rw [py] at e
    cases h : pyL ds with
    | none => rw [h] at e; cases e
    | some ps =>
      rw [h] at e; cases e
      exact .tup t.sq (pyL_dp ds vs ps q h (by simpa [PyData.hasDict] using n))
  | .fl ds, v, p, r, e, n => by
    rw [RepV] at r
    obtain ⟨a, vs, rfl, t, q⟩ := r
    rw [py] at e
    cases h : pyL ds with
    | none => rw [h] at e; cases e
    | some ps =>
      rw [h] at e; cases e
      exact .lst t.sq (pyL_dp ds vs ps q h (by simpa [PyData.hasDict] using n))
  | .kl _, v, p, r, e, _ => by rw [py] at e; cases e
  | .ktp _, v, p, r, e, _ => by rw [py] at e; cases e
  | .ztp _, v, p, r, e, _ => by rw [py] at e; cases e
  | .fd kvs, v, p, r, e, n => by
    rw [py] at e
    cases h : pyK kvs with
    | none => rw [h] at e; cases e
    | some ps => rw [h] at e; cases e; simp [PyData.hasDict] at n
  | .ty _, v, p, r, e, _ => by rw [py] at e; cases e
  | .fn _, v, p, r, e, _ => by rw [py] at e; cases e
  | .exc _ _, v, p, r, e, _ => by rw [py] at e; cases e
  | .loc _, v, p, r, e, _ => by rw [py] at e; cases e
theorem pyL_dp {K : PySem.W.Frag} {ι : List Addr} {H : Hp} : ∀ (ds : List D) (vs : List V) (ps : List PyData), RepL K ι H ds vs → pyL ds = some ps → PyData.hasDictAll ps = false → DpAll K H vs ps
  | [], vs, ps, r, e, _ => by rw [RepL] at r; rw [pyL] at e; cases e; subst r; exact .nil
  | d :: ds, vs, ps, r, e, n => by
    rw [RepL] at r
    obtain ⟨v, us, rfl, a, b⟩ := r
    rw [pyL] at e
    cases h : py d with
    | none => rw [h] at e; cases e
    | some p =>
      rw [h] at e
      cases h2 : pyL ds with
      | none => rw [h2] at e; cases e
      | some qs =>
        rw [h2] at e; cases e
        simp only [PyData.hasDictAll, Bool.or_eq_false_iff] at n
        exact .cons (py_dp d v p a h n.1) (pyL_dp ds us qs b h2 n.2)
end
theorem pyS_dp {K : PySem.W.Frag} {ι : List Addr} {H : Hp} {S : Sto} {d : D} {v : V} {p : PyData} (s : Sim K ι H S) (r : RepV K ι H d v) (e : pyS S d = some p) (n : p.hasDict = false) : Dp K H v p := by
  cases d with
  | loc m =>
    have e : (getQ S m).bind (fun ds => (pyL ds).map .list) = some p := e
    cases h : getQ S m with
    | none => rw [h] at e; cases e
    | some ds =>
      rw [h] at e
      have e : (pyL ds).map PyData.list = some p := e
      cases h2 : pyL ds with
      | none => rw [h2] at e; cases e
      | some ps =>
        rw [h2] at e; cases e
        rw [RepV] at r
        obtain ⟨a, ea, rfl⟩ := r
        have n : PyData.hasDictAll ps = false := by simpa [PyData.hasDict] using n
        unfold getQ at h
        split at h
        · rename_i q; cases h
          obtain ⟨vs, h1, h3⟩ := s.ob _ _ _ ea q
          exact .lst (SqL.of h1) (pyL_dp _ _ _ h3 h2 n)
        · rename_i q; cases h
          obtain ⟨o, vs, h1, h3⟩ := s.ob _ _ _ ea q
          exact .lst (.inl (.inr ⟨o, h1⟩)) (pyL_dp _ _ _ h3 h2 n)
        · cases h
  | _ => exact py_dp _ v p r e n
def dEqP (neg : Bool) (a b : D) (S : Sto) : R D := match pyS S a, pyS S b with
  | some p, some q => if SeqAt.shaped p = true ∧ SeqAt.shaped q = true then .ok (.bl (if neg then !PyData.eqv p q else PyData.eqv p q)) S else .stuck
  | _, _ => .stuck
def dEq (neg : Bool) (a b : D) (S : Sto) : R D := match a, b with
  | .str x, .str y => .ok (.bl (if neg then !decide (x = y) else decide (x = y))) S
  | a, b => dEqP neg a b S
theorem noDict_shaped {p : PyData} (h : SeqAt.shaped p = true) : p.hasDict = false := PyData.hasDict_of_canLay p (SeqAt.canLay_of_shaped h)
theorem or_ne {X : Cx} (hu : X.A.units + 64 < cLine) : OpR X (compareOp .NotEq) (fun x y H Q => rNe x y H Q ∨ rNeD X.K x y H Q) := OpR.or op_ne (op_neD hu)
theorem dec_str (x y : Str) : decide ((V.str x) = V.str y) = decide (x = y) := by
  by_cases e : x = y
  · subst e; simp
  · rw [decide_eq_false e, decide_eq_false fun z => e (V.str.inj z)]
theorem k_neD {K : PySem.W.Frag} : OpK K (fun x y H Q => rNe x y H Q ∨ rNeD K x y H Q) (dEq true) := by
  intro W σ ι H S x y a b Q s rx ry h
  unfold dEq at h
  split at h
  · rename_i u v
    rw [str_at rx, str_at ry]
    refine .inl ⟨rfl, ?_⟩
    rw [dec_str]
    exact h.here s _ bl_rep
  · unfold dEqP at h
    split at h
    · rename_i p q e1 e2
      split at h
      · rename_i hl
        exact .inr ⟨p, q, pyS_dp s rx e1 (noDict_shaped hl.1), pyS_dp s ry e2 (noDict_shaped hl.2), hl.1, hl.2, h.here s _ bl_rep⟩
      · exact h.elim
    · exact h.elim
def isN : D → Bool
  | .non => true
  | _ => false
def dIsN (neg : Bool) (a b : D) (S : Sto) : R D := match b with
  | .non => .ok (.bl (if neg then !isN a else isN a)) S
  | _ => .stuck
end DL
namespace DL
open PySem PySem.Spec L2
open PyProof.Rows hiding St
def R.toS {α : Type} (r : R α) (ρ : Ev) (k : α → Sto → SR) : SR := match r with
  | .ok a S => k a S
  | .er e S => .er e ρ S
  | .stuck => .stuck
@[simp] theorem R.toS_ok {α : Type} (a : α) (S : Sto) (ρ : Ev) (k : α → Sto → SR) : (R.ok a S).toS ρ k = k a S := rfl
@[simp] theorem R.toS_er {α : Type} (e : Ex) (S : Sto) (ρ : Ev) (k : α → Sto → SR) : (R.er e S : R α).toS ρ k = .er e ρ S := rfl
@[simp] theorem R.toS_stuck {α : Type} (ρ : Ev) (k : α → Sto → SR) : (R.stuck : R α).toS ρ k = .stuck := rfl
def SR.next (r : SR) (k : Ev → Sto → SR) : SR := match r with
  | .nx ρ S => k ρ S
  | .rt d S => .rt d S
  | .bk ρ S => .bk ρ S
  | .ct ρ S => .ct ρ S
  | .er e ρ S => .er e ρ S
  | .stuck => .stuck
@[simp] theorem SR.next_nx (ρ : Ev) (S : Sto) (k : Ev → Sto → SR) : (SR.nx ρ S).next k = k ρ S := rfl
@[simp] theorem SR.next_rt (d : D) (S : Sto) (k : Ev → Sto → SR) : (SR.rt d S).next k = .rt d S := rfl
@[simp] theorem SR.next_er (e : Ex) (ρ : Ev) (S : Sto) (k : Ev → Sto → SR) : (SR.er e ρ S).next k = .er e ρ S := rfl
@[simp] theorem SR.next_bk (ρ : Ev) (S : Sto) (k : Ev → Sto → SR) : (SR.bk ρ S).next k = .bk ρ S := rfl
@[simp] theorem SR.next_ct (ρ : Ev) (S : Sto) (k : Ev → Sto → SR) : (SR.ct ρ S).next k = .ct ρ S := rfl
@[simp] theorem SR.next_stuck (k : Ev → Sto → SR) : (SR.stuck).next k = .stuck := rfl
theorem PostS.bind {α : Type} {K : PySem.W.Frag} {W : WX} {E : Ends} {σ : St} {ρ : Ev} {ι : List Addr} {H : Hp} {r : R α} {k : α → Sto → SR} (h : PostS K W E ι H (r.toS ρ k)) (hE : RepE K ι H σ ρ) :
    Post K W σ ι H r fun a S1 ι1 H1 => PostS K W E ι1 H1 (k a S1) := by
  cases r with
  | stuck => exact h
  | er e S => exact fun ι' H' cls dd G s x => h ι' H' σ cls dd G s (hE.grow G) x
  | ok a S => exact fun ι1 H1 G1 s1 => PostS.grow h G1
def dCmpI (p : Int → Int → Int) (a b : D) (S : Sto) : R D := match a, b with
  | .int i, .int j => .ok (.int (p i j)) S
  | _, _ => .stuck
def dAddI : D → D → Sto → R D := dCmpI fun i j => i + j
def dSubI : D → D → Sto → R D := dCmpI fun i j => i - j
section
variable {X : Cx} {W : WX} {pos : Pos} {e : Expr} {st : Stmt} {rest : List Stmt}
def sNil : Ev → Sto → SR := fun ρ S => .nx ρ S
def sSeq (F G : Ev → Sto → SR) : Ev → Sto → SR := fun ρ S => (F ρ S).next G
theorem dss_nil : DSs X W [] sNil := PSs.imp pss_nil fun E σ H ⟨ι, ρ, S, hE, hS, h⟩ => h ι H σ (Grow.refl _ _) hS hE
theorem dss_cons {F G : Ev → Sto → SR} (h1 : DS X W st F) (h2 : DSs X W rest G) : DSs X W (st :: rest) (sSeq F G) := by
  refine PSs.imp (pss_cons h1 h2) fun E σ H ⟨ι, ρ, S, hE, hS, h⟩ => ⟨ι, ρ, S, hE, hS, ?_⟩
  unfold sSeq at h
  cases hF : F ρ S with
  | nx ρ1 S1 => rw [hF] at h; exact fun ι1 H1 σ1 G1 s1 e1 => ⟨ι1, ρ1, S1, e1, s1, PostS.grow h G1⟩
  | rt d S1 => rw [hF] at h; exact h
  | bk ρ1 S1 => rw [hF] at h; exact h
  | ct ρ1 S1 => rw [hF] at h; exact h
  | er e ρ1 S1 => rw [hF] at h; exact h
  | stuck => rw [hF] at h; exact h
theorem dss_one {F : Ev → Sto → SR} (h1 : DS X W st F) : DSs X W [st] F := pss_one h1
def sBrk : Ev → Sto → SR := fun ρ S => .bk ρ S
def sCnt : Ev → Sto → SR := fun ρ S => .ct ρ S
def sExp (f : Ev → Sto → R D) : Ev → Sto → SR := fun ρ S => (f ρ S).toS ρ fun _ S1 => .nx ρ S1
def sRet (f : Ev → Sto → R D) : Ev → Sto → SR := fun ρ S => (f ρ S).toS ρ fun d S1 => .rt d S1
theorem ds_expr {f : Ev → Sto → R D} (he : DE X W e f) (hs : swapsWith e none pos.line X.env = pure false := by rfl) : DS X W (.Expr e pos) (sExp f) := by
  refine PS.imp (ps_expr he hs) fun E σ H ⟨ι, ρ, S, hE, hS, h⟩ => ⟨ι, ρ, S, hE, hS, (PostS.bind h hE).mono fun d S1 ι1 H1 G1 s1 h1 v rv => ?_⟩
  exact h1 ι1 H1 σ (Grow.refl _ _) s1 (hE.grow G1)
theorem ds_ret {f : Ev → Sto → R D} (he : DE X W e f) : DS X W (.Return (some e) pos) (sRet f) := by
  refine PS.imp (ps_ret he) fun E σ H ⟨ι, ρ, S, hE, hS, h⟩ => ⟨ι, ρ, S, hE, hS, (PostS.bind h hE).mono fun d S1 ι1 H1 G1 s1 h1 v rv => ?_⟩
  exact h1 ι1 H1 v (Grow.refl _ _) s1 rv
def sRetN : Ev → Sto → SR := fun _ S => .rt .non S
def sIf (c : Ev → Sto → R Bool) (F G : Ev → Sto → SR) : Ev → Sto → SR := fun ρ S => (c ρ S).toS ρ fun b S1 => if b = true then F ρ S1 else G ρ S1
theorem ds_if {c : Expr} {a b : List Stmt} {t : Ev → Sto → R Bool} {F G : Ev → Sto → SR} (hc : DT X W c t) (ha : DSs X W a F) (hb : DSs X W b G) : DS X W (.If c a b pos) (sIf t F G) := by
  refine PS.imp (ps_if hc ha hb) fun E σ H ⟨ι, ρ, S, hE, hS, h⟩ => ⟨ι, ρ, S, hE, hS, (PostS.bind h hE).mono fun b S1 ι1 H1 G1 s1 h1 => ?_⟩
  cases b with
  | true => rw [if_pos rfl] at h1 ⊢; exact ⟨ι1, ρ, S1, hE.grow G1, s1, h1⟩
  | false => rw [if_neg (by decide)] at h1 ⊢; exact ⟨ι1, ρ, S1, hE.grow G1, s1, h1⟩
abbrev Tg := D → Ev → Sto → Option (Ev × Sto)
abbrev Tgs := List D → Ev → Sto → Option (Ev × Sto)
def rdG (K : PySem.W.Frag) (T : Tg) : TG := fun v σ H Q => ∃ ι ρ S d ρ' S', RepE K ι H σ ρ ∧ Sim K ι H S ∧ RepV K ι H d v ∧ T d ρ S = some (ρ', S') ∧ ∀ ι' H' σ', Grow ι H ι' H' → Sim K ι' H' S' → RepE K ι' H' σ' ρ' → Q σ' H'
abbrev DG (X : Cx) (e : Expr) (T : Tg) : Prop := PG X e (rdG X.K T)
theorem PG.imp {X : Cx} {e : Expr} {t u : TG} (h : PG X e t) (i : ∀ v σ H Q, u v σ H Q → t v σ H Q) : PG X e u := ⟨fun pins s σ H v w Q I r q => h.run pins s σ H v w Q I r (i v σ H Q q)⟩
def tN (i : Nat) : Tg := fun d ρ S => some (ρ.set i (some d), S)
theorem dg_name (i : Nat) {x : Str} (hN : X.N.Nodup) (hi : X.N[i]? = some x := by rfl) (hx : Loc X.env.scope x := by first | exact .inl rfl | exact .inr rfl) (hf : X.fn x = true ∨ X.env.scope.names.lookup x = some .local := by first | exact .inl rfl | exact .inr rfl | assumption) : DG X (.Name x pos) (tN i) :=
  PG.imp (pg_name hN hi hx hf) fun v σ H Q ⟨ι, ρ, S, d, ρ', S', hE, hS, r, e, h⟩ => by
    cases e
    exact h ι H _ (Grow.refl _ _) hS (hE.set r i)
def rdGs (K : PySem.W.Frag) (T : Tgs) : TGs := fun vs σ H Q => ∃ ι ρ S ds ρ' S', RepE K ι H σ ρ ∧ Sim K ι H S ∧ RepL K ι H ds vs ∧ T ds ρ S = some (ρ', S') ∧ ∀ ι' H' σ', Grow ι H ι' H' → Sim K ι' H' S' → RepE K ι' H' σ' ρ' → Q σ' H'
abbrev DGs (X : Cx) (e : List Expr) (T : Tgs) : Prop := PGs X e (rdGs X.K T)
theorem PGs.imp {X : Cx} {e : List Expr} {t u : TGs} (h : PGs X e t) (i : ∀ v σ H Q, u v σ H Q → t v σ H Q) : PGs X e u := ⟨fun pins s σ H v w Q I r q => h.run pins s σ H v w Q I r (i v σ H Q q)⟩
def tNil : Tgs := fun ds ρ S => match ds with
  | [] => some (ρ, S)
  | _ => none
def tCons (T : Tg) (U : Tgs) : Tgs := fun ds ρ S => match ds with
  | d :: r => (T d ρ S).bind fun q => U r q.1 q.2
  | [] => none
theorem dgs_nil : DGs X [] tNil := PGs.imp pgs_nil fun v σ H Q ⟨ι, ρ, S, ds, ρ', S', hE, hS, r, e, h⟩ => by
  cases ds with
  | nil => cases e; rw [RepL] at r; exact ⟨r, h ι H σ (Grow.refl _ _) hS hE⟩
  | cons d ds => cases e
theorem dgs_cons {es : List Expr} {T : Tg} {U : Tgs} (h1 : DG X e T) (h2 : DGs X es U) (hs : (assignEach (e :: es) X.env).map (·.2) = assign e X.env :: (assignEach es X.env).map (·.2) := by rfl) : DGs X (e :: es) (tCons T U) :=
  PGs.imp (pgs_cons h1 h2 hs) fun v σ H Q ⟨ι, ρ, S, ds, ρ', S', hE, hS, r, e, h⟩ => by
    cases ds with
    | nil => cases e
    | cons d ds =>
      rw [RepL] at r
      obtain ⟨v, vs, rfl, rv, rl⟩ := r
      have e : (T d ρ S).bind (fun q => U ds q.1 q.2) = some (ρ', S') := e
      cases hT : T d ρ S with
      | none => rw [hT] at e; cases e
      | some q =>
        obtain ⟨ρ1, S1⟩ := q
        rw [hT] at e
        refine ⟨v, vs, rfl, ι, ρ, S, d, ρ1, S1, hE, hS, rv, hT, fun ι1 H1 σ1 G1 s1 e1 => ?_⟩
        exact ⟨ι1, ρ1, S1, ds, ρ', S', e1, s1, RepL.grow G1 _ _ rl, e, fun ι2 H2 σ2 G2 => h ι2 H2 σ2 (G1.trans G2)⟩
def tTup (n : Nat) (U : Tgs) : Tg := fun d ρ S => match d with
  | .tup ds => if ds.length = n then U ds ρ S else none
  | _ => none
theorem dg_tup {es : List Expr} {k : Nat} {U : Tgs} {n : Nat} (hc : X.calm = true) (h : DGs X es U) (hn : (assignEach es X.env).length = n := by rfl) (hst : (assignEach es X.env).findIdx? (·.1) = none := by rfl) : DG X (.Tuple es k pos) (tTup n U) :=
  PG.imp (pg_tup hc h hn hst) fun v σ H Q ⟨ι, ρ, S, d, ρ', S', hE, hS, r, e, h⟩ => by
    cases d with
    | tup ds =>
      have e : (if ds.length = n then U ds ρ S else none) = some (ρ', S') := e
      by_cases hl : ds.length = n
      · rw [if_pos hl] at e
        obtain ⟨p, vs, rfl, q, rl⟩ := tup_at r
        exact ⟨p, vs, rfl, q, by rw [← RepL.length _ _ rl]; exact hl, ι, ρ, S, ds, ρ', S', hE, hS, rl, e, h⟩
      · rw [if_neg hl] at e; cases e
    | _ => cases e
/-- o[i] = v -/
def dSet (o i v : D) (S : Sto) : Option Sto := match o, i with
  | .loc n, .int k => (getL S n).bind fun ds => (ixN ds.length k).map fun j => S.set n (.lst (ds.set j v))
  | _, _ => none
def tSub (f g : Ev → Sto → R D) : Tg := fun v ρ S => match f ρ S with
  | .ok o S1 => (match g ρ S1 with
    | .ok i S2 => (dSet o i v S2).map fun S3 => (ρ, S3)
    | _ => none)
  | _ => none
theorem dSet_some {o i v : D} {S S' : Sto} (h : dSet o i v S = some S') : ∃ n k ds j, o = .loc n ∧ i = .int k ∧ getL S n = some ds ∧ ixN ds.length k = some j ∧ S' = S.set n (.lst (ds.set j v)) := by
  unfold dSet at h
  split at h
  · rename_i n k
    cases hL : getL S n with
    | none => simp [hL] at h
    | some ds =>
      cases hj : ixN ds.length k with
      | none => simp [hL, hj] at h
      | some j =>
        simp [hL, hj] at h
        exact ⟨n, k, ds, j, rfl, rfl, hL, hj, h.symm⟩
  · cases h
theorem dg_sub {o i : Expr} {f g : Ev → Sto → R D} (ho : DE X W o f) (hi : DE X W i g) (ha : ∀ v, assign (.Subscript o i pos) X.env v = (do
      let ov ← holding [v] (eval o X.env)
      let iv ← holding [v, ov] (eval i X.env)
      standAt pos
      holding [v, ov, iv] (setItem ov iv v)
      release [v, ov, iv] []) := by intro _; rfl) : DG X (.Subscript o i pos) (tSub f g) :=
  PG.imp (pg_sub ho hi set_list ha) fun v σ H Q ⟨ι, ρ, S, d, ρ', S', hE, hS, r, e, h⟩ => by
    unfold tSub at e
    cases hf : f ρ S with
    | ok o S1 =>
      simp only [hf] at e
      refine ⟨ι, ρ, S, hE, hS, ?_⟩
      rw [hf]
      intro ι1 H1 G1 s1 x rx
      cases hg : g ρ S1 with
      | ok i S2 =>
        simp only [hg] at e
        refine ⟨ι1, ρ, S1, hE.grow G1, s1, ?_⟩
        rw [hg]
        intro ι2 H2 G2 s2 y ry
        have rx := RepV.grow G2 _ _ rx
        have rv := RepV.grow G2 _ _ (RepV.grow G1 _ _ r)
        have e : (dSet o i d S2).map (fun S3 => (ρ, S3)) = some (ρ', S') := e
        cases hd : dSet o i d S2 with
        | none => rw [hd] at e; cases e
        | some S3 =>
          rw [hd] at e
          cases e
          obtain ⟨n, k, ds, j, rfl, rfl, hL, hj, rfl⟩ := dSet_some hd
          rw [RepV] at rx
          obtain ⟨a, ea, rfl⟩ := rx
          obtain ⟨vs, h1, h3⟩ := s2.ob _ _ _ ea (getL_some hL)
          refine ⟨a, vs, k, j, rfl, int_at ry, h1, by rw [← RepL.length _ _ h3]; exact hj, ?_⟩
          have G3 : Grow ι2 H2 ι2 (upd H2 a (.lst (vs.set j v))) := Grow.put (List.mem_of_getElem? ea) h1 (fun _ _ z => by cases z)
          exact h ι2 _ σ ((G1.trans G2).trans G3) (s2.put ea h1 (fun _ _ z => by cases z) ⟨_, upd_same, RepL.set (RepV.grow G3 _ _ rv) _ _ _ (RepL.grow G3 _ _ h3)⟩) (((hE.grow G1).grow G2).grow G3)
      | er e1 S2 => simp only [hg] at e; cases e
      | stuck => simp only [hg] at e; cases e
    | er e1 S1 => simp only [hf] at e; cases e
    | stuck => simp only [hf] at e; cases e
def sAsg (f : Ev → Sto → R D) (T : Tg) : Ev → Sto → SR := fun ρ S => (f ρ S).toS ρ fun d S1 => match T d ρ S1 with
  | some (ρ', S') => .nx ρ' S'
  | none => .stuck
theorem asg_read {K : PySem.W.Frag} {f : Ev → Sto → R D} {T : Tg} : ∀ E σ H, rdS K W (sAsg f T) E σ H → tAsg (rdE K W f) (rdG K T) E σ H := fun E σ H ⟨ι, ρ, S, hE, hS, h⟩ => by
  refine ⟨ι, ρ, S, hE, hS, (PostS.bind h hE).mono fun d S1 ι1 H1 G1 s1 h1 v rv => ?_⟩
  cases hT : T d ρ S1 with
  | none => simp only [hT] at h1; exact h1.elim
  | some q =>
    obtain ⟨ρ1, S2⟩ := q
    simp only [hT] at h1
    exact ⟨ι1, ρ, S1, d, ρ1, S2, hE.grow G1, s1, rv, hT, fun ι2 H2 σ2 G2 s2 e2 => h1 ι2 H2 σ2 G2 s2 e2⟩
theorem ds_asg {tg : Expr} {f : Ev → Sto → R D} {T : Tg} (he : DE X W e f) (hg : DG X tg T) (hs : swapsWithSole [tg] e pos.line X.env = pure false := by rfl) (hw : swappedStores [tg] e X.env = pure none := by rfl)
    (h1 : (assignEach [tg] X.env).map (·.2) = [assign tg X.env] := by rfl) : DS X W (.Assign [tg] e pos) (sAsg f T) := PS.imp (ps_asg he hg hs hw h1) asg_read
/-- name = e -/
def sSet (i : Nat) (f : Ev → Sto → R D) : Ev → Sto → SR := fun ρ S => (f ρ S).toS ρ fun d S1 => .nx (ρ.set i (some d)) S1
theorem set_read {K : PySem.W.Frag} {f : Ev → Sto → R D} {i : Nat} : ∀ E σ H, rdS K W (sSet i f) E σ H → tAsg (rdE K W f) (gName i) E σ H := fun E σ H ⟨ι, ρ, S, hE, hS, h⟩ => by
  refine ⟨ι, ρ, S, hE, hS, (PostS.bind h hE).mono fun d S1 ι1 H1 G1 s1 h1 v rv => ?_⟩
  exact h1 ι1 H1 _ (Grow.refl _ _) s1 ((hE.grow G1).set rv i)
theorem ds_set (i : Nat) {x : Str} {pos' : Pos} {f : Ev → Sto → R D} (hN : X.N.Nodup) (he : DE X W e f) (hi : X.N[i]? = some x := by rfl) (hx : Loc X.env.scope x := by first | exact .inl rfl | exact .inr rfl)
    (hs : swapsWith e (some (.Name x pos')) pos.line X.env = pure false := by rfl) (hf : X.fn x = true ∨ X.env.scope.names.lookup x = some .local := by first | exact .inl rfl | exact .inr rfl | assumption) :
    DS X W (.Assign [.Name x pos'] e pos) (sSet i f) := PS.imp (ps_set hN hi hx he hs hf) set_read
/-- name op= e -/
def sAug (i : Nat) (o : D → D → Sto → R D) (f : Ev → Sto → R D) : Ev → Sto → SR := fun ρ S => match ρ[i]? with
  | some (some x) => ((f ρ S).bind fun d S1 => o x d S1).toS ρ fun z S2 => .nx (ρ.set i (some z)) S2
  | _ => .stuck
theorem ds_aug (i : Nat) {x : Str} {op : Operator} {r : TIp} {o : D → D → Sto → R D} {pos' : Pos} {f : Ev → Sto → R D} (hN : X.N.Nodup) (he : DE X W e f) (ho : PIp X op r) (k : OpK X.K r o) (hi : X.N[i]? = some x := by rfl) (hx : Loc X.env.scope x := by first | exact .inl rfl | exact .inr rfl)
    (hf : X.fn x = true ∨ X.env.scope.names.lookup x = some .local := by first | exact .inl rfl | exact .inr rfl | assumption) : DS X W (.AugAssign (.Name x pos') op e pos) (sAug i o f) := by
  refine PS.imp (ps_aug hN hi hx he ho hf) fun E σ H ⟨ι, ρ, S, hE, hS, h⟩ => ?_
  unfold sAug at h
  split at h
  · rename_i d hd
    obtain ⟨v, hv, rv⟩ := hE.get hd
    refine ⟨v, hv, ι, ρ, S, hE, hS, ((PostS.bind h hE).bind).mono fun b S1 ι1 H1 G1 s1 h1 y ry => ?_⟩
    refine k W σ ι1 H1 S1 v y d b _ s1 (RepV.grow G1 _ _ rv) ry (h1.mono fun z S2 ι2 H2 G2 s2 h2 u ru => ?_)
    exact h2 ι2 H2 _ (Grow.refl _ _) s2 (((hE.grow G1).grow G2).set ru i)
  · exact h.elim
theorem k_ipadd {K : PySem.W.Frag} : OpK K (ipI fun i j => i + j) dAddI := by
  intro W σ ι H S x y a b Q s rx ry h
  unfold dAddI dCmpI at h
  split at h
  · rename_i i j
    exact ⟨i, j, int_at rx, int_at ry, h.here s _ int_rep⟩
  · exact h.elim
/-- a, b = x, y and a, b, c = x, y, z with plain locals -/
def sPar2 (i j : Nat) (g : Ev → Sto → R (List D)) : Ev → Sto → SR := fun ρ S => (g ρ S).toS ρ fun ds S1 => match ds with
  | [a, b] => .nx ((ρ.set i (some a)).set j (some b)) S1
  | _ => .stuck
theorem ds_par2 (i j : Nat) {x y : Str} {a b : Expr} {g : Ev → Sto → R (List D)} {px py pt : Pos} {kt k2 pt2} (hc : X.calm = true) (hN : X.N.Nodup) (ha : DA X W [a, b] g) (hij : i ≠ j := by decide) (hi : X.N[i]? = some x := by rfl) (hj : X.N[j]? = some y := by rfl)
    (hx : X.env.scope.names.lookup x = some .local := by rfl) (hy : X.env.scope.names.lookup y = some .local := by rfl)
    (hw : swappedStores [.Tuple [.Name x px, .Name y py] kt pt] (.Tuple [a, b] k2 pt2) X.env = pure (some [x, y]) := by rfl)
    (hs : swapsWithSole [.Tuple [.Name x px, .Name y py] kt pt] (.Tuple [a, b] k2 pt2) pos.line X.env = pure false := by rfl) :
    DS X W (.Assign [.Tuple [.Name x px, .Name y py] kt pt] (.Tuple [a, b] k2 pt2) pos) (sPar2 i j g) := by
  refine PS.imp (ps_par hc hN hi hj hij hx hy ha hw hs) fun E σ H ⟨ι, ρ, S, hE, hS, h⟩ => ⟨ι, ρ, S, hE, hS, (PostS.bind h hE).mono fun ds S1 ι1 H1 G1 s1 h1 vs rs => ?_⟩
  split at h1
  · rw [RepL] at rs
    obtain ⟨v, r, rfl, rv, rs⟩ := rs
    rw [RepL] at rs
    obtain ⟨u, r, rfl, ru, rs⟩ := rs
    rw [RepL] at rs
    subst rs
    exact ⟨v, u, rfl, h1 ι1 H1 _ (Grow.refl _ _) s1 (((hE.grow G1).set rv i).set ru j)⟩
  · exact h1.elim
end
end DL
namespace DL
open PySem PySem.Spec L2
open PyProof.Rows hiding St
abbrev Src := List D × (Sto → Prop)
def ItOk (K : PySem.W.Frag) (J : It) (ι : List Addr) (H : Hp) (q : Src) : Prop := ∀ ι1 H1 S1, Grow ι H ι1 H1 → Sim K ι1 H1 S1 → q.2 S1 →
  (∀ i, q.1.length ≤ i → J.stop i H1) ∧ ∀ i d, q.1[i]? = some d → J.go i H1 ∧ ∀ x H2, J.yld i H1 x H2 → Grow ι1 H1 ι1 H2 ∧ Sim K ι1 H2 S1 ∧ RepV K ι1 H2 d x
def rdI (K : PySem.W.Frag) (W : WX) (f : Ev → Sto → R Src) : TI := fun σ H Rr => ∃ ι ρ S, RepE K ι H σ ρ ∧ Sim K ι H S ∧ Post K W σ ι H (f ρ S) fun q _ ι' H' => ∀ J, ItOk K J ι' H' q → Rr J H'
abbrev DI (X : Cx) (W : WX) (tg iter : Expr) (f : Ev → Sto → R Src) : Prop := PI X tg iter (rdI X.K W f)
theorem PI.imp {X : Cx} {tg e : Expr} {t u : TI} (h : PI X tg e t) (i : ∀ σ H Q, u σ H Q → t σ H Q) : PI X tg e u := ⟨fun pins s σ H Q I q => h.run pins s σ H Q I (i σ H Q q)⟩
theorem PI.or {X : Cx} {tg e : Expr} {t u : TI} (h : PI X tg e t) (h' : PI X tg e u) : PI X tg e (fun σ H Q => t σ H Q ∨ u σ H Q) := ⟨fun pins s σ H Q I q => by
  rcases q with q | q
  · exact h.run pins s σ H Q I q
  · exact h'.run pins s σ H Q I q⟩
def yes : Sto → Prop := fun _ => True
def srcOf (d : D) (S : Sto) : R Src := match d with
  | .tup ds => .ok (ds, yes) S
  | .fl ds => .ok (ds, yes) S
  | .kl ds => .ok (ds, yes) S
  | .loc n => (match getQ S n with
    | some ds => .ok (ds, fun S => getQ S n = some ds) S
    | none => .stuck)
  | _ => .stuck
def iSeq (f : Ev → Sto → R D) : Ev → Sto → R Src := fun ρ S => (f ρ S).bind srcOf
theorem itl_ok {K : PySem.W.Frag} {ι : List Addr} {H : Hp} {ds : List D} {a : Addr} {g : Sto → Prop} (h : ∀ ι1 H1 S1, Grow ι H ι1 H1 → Sim K ι1 H1 S1 → g S1 → ∃ vs, SqL K H1 a vs ∧ RepL K ι1 H1 ds vs) : ItOk K (Itl K a) ι H (ds, g) := fun ι1 H1 S1 G s gs => by
  obtain ⟨vs, q, r⟩ := h ι1 H1 S1 G s gs
  refine ⟨fun i hi => ⟨vs, q, by rw [← RepL.length _ _ r]; exact hi⟩, fun i d e => ?_⟩
  obtain ⟨v, hv, rv⟩ := RepL.get _ _ r i d e
  refine ⟨⟨vs, v, q, hv⟩, fun x H2 y => ?_⟩
  obtain ⟨rfl, y⟩ := y
  have := y vs q
  rw [hv] at this; cases this
  exact ⟨Grow.refl _ _, s, rv⟩
theorem itt_ok {K : PySem.W.Frag} {ι : List Addr} {H : Hp} {ds : List D} {a : Addr} {g : Sto → Prop} (h : ∀ ι1 H1 S1, Grow ι H ι1 H1 → Sim K ι1 H1 S1 → g S1 → ∃ vs, SqT K H1 a vs ∧ RepL K ι1 H1 ds vs) : ItOk K (Itt K a) ι H (ds, g) := fun ι1 H1 S1 G s gs => by
  obtain ⟨vs, q, r⟩ := h ι1 H1 S1 G s gs
  refine ⟨fun i hi => ⟨vs, q, by rw [← RepL.length _ _ r]; exact hi⟩, fun i d e => ?_⟩
  obtain ⟨v, hv, rv⟩ := RepL.get _ _ r i d e
  refine ⟨⟨vs, v, q, hv⟩, fun x H2 y => ?_⟩
  obtain ⟨rfl, y⟩ := y
  have := y vs q
  rw [hv] at this; cases this
  exact ⟨Grow.refl _ _, s, rv⟩
theorem loc_at {K : PySem.W.Frag} {ι : List Addr} {H : Hp} {S : Sto} {n : Nat} {a : Addr} {ds : List D} (s : Sim K ι H S) (ea : ι[n]? = some a) (e : getQ S n = some ds) : ∃ vs, SqL K H a vs ∧ RepL K ι H ds vs := by
  unfold getQ at e
  (try unfold ifp at e); split at e
  · rename_i q; cases e
    obtain ⟨vs, h1, h2⟩ := s.ob _ _ _ ea q
    exact ⟨vs, SqL.of h1, h2⟩
  · rename_i q; cases e
    obtain ⟨o, vs, h1, h2⟩ := s.ob _ _ _ ea q
    exact ⟨vs, .inl (.inr ⟨o, h1⟩), h2⟩
  · cases e
/-- what a list or tuple that is walked gives, whatever turns behind it -/
theorem src_stands {K : PySem.W.Frag} {ι : List Addr} {H : Hp} {S : Sto} {d : D} {q : Src} {S' : Sto} {v : V} (e : srcOf d S = .ok q S') (s : Sim K ι H S) (r : RepV K ι H d v) : S' = S ∧ ∃ a, v = .ref a ∧
    ((∀ ι1 H1 S1, Grow ι H ι1 H1 → Sim K ι1 H1 S1 → q.2 S1 → ∃ vs, SqT K H1 a vs ∧ RepL K ι1 H1 q.1 vs) ∨ (∀ ι1 H1 S1, Grow ι H ι1 H1 → Sim K ι1 H1 S1 → q.2 S1 → ∃ vs, SqL K H1 a vs ∧ RepL K ι1 H1 q.1 vs)) ∧ q.2 S := by
  cases d with
  | tup ds =>
    cases e
    rw [RepV] at r
    obtain ⟨a, vs, rfl, t, rl⟩ := r
    exact ⟨rfl, a, rfl, .inl fun ι1 H1 S1 G s1 _ => ⟨vs, (t.grow G).sq, RepL.grow G _ _ rl⟩, True.intro⟩
  | fl ds =>
    cases e
    rw [RepV] at r
    obtain ⟨a, vs, rfl, t, rl⟩ := r
    exact ⟨rfl, a, rfl, .inr fun ι1 H1 S1 G s1 _ => ⟨vs, (t.grow G).sq, RepL.grow G _ _ rl⟩, True.intro⟩
  | kl ds =>
    cases e
    rw [RepV] at r
    obtain ⟨a, vs, rfl, t, rl⟩ := r
    exact ⟨rfl, a, rfl, .inr fun ι1 H1 S1 G s1 _ => ⟨vs, (t.grow G).sq, RepL.grow G _ _ rl⟩, True.intro⟩
  | loc n =>
    have e : (match getQ S n with
      | some ds => R.ok (ds, fun S => getQ S n = some ds) S
      | none => .stuck) = .ok q S' := e
    cases hq : getQ S n with
    | none => rw [hq] at e; cases e
    | some ds =>
      rw [hq] at e
      cases e
      rw [RepV] at r
      obtain ⟨a, ea, rfl⟩ := r
      refine ⟨rfl, a, rfl, .inr fun ι1 H1 S1 G s1 g1 => ?_, hq⟩
      exact loc_at s1 (getElem?_pre G.pre ea) g1
  | _ => cases e
section
variable {X : Cx} {W : WX} {pos : Pos} {e tg : Expr}
theorem di_seq {f : Ev → Sto → R D} (h : DE X W e f) : DI X W tg e (iSeq f) := by
  refine PI.imp (PI.or (pi_tup h) (pi_list h)) fun σ H Rr ⟨ι, ρ, S, hE, hS, q⟩ => ?_
  unfold iSeq at q
  cases hf : f ρ S with
  | stuck => rw [hf] at q; exact q.elim
  | er x S1 =>
    rw [hf] at q
    refine .inl ⟨ι, ρ, S, hE, hS, ?_⟩
    rw [hf]; exact q
  | ok d S1 =>
    rw [hf] at q
    replace q : Post X.K W σ ι H (srcOf d S1) fun q _ ι' H' => ∀ J, ItOk X.K J ι' H' q → Rr J H' := q
    cases hs : srcOf d S1 with
    | stuck => rw [hs] at q; exact q.elim
    | er x S2 => exfalso; unfold srcOf at hs; split at hs <;> first | cases hs | (split at hs <;> cases hs)
    | ok c S2 =>
      rw [hs] at q
      have kind : (∃ ds, d = .tup ds) ∨ (∃ ds, d = .fl ds ∨ d = .kl ds) ∨ ∃ n, d = .loc n := by
        cases d with
        | tup ds => exact .inl ⟨ds, rfl⟩
        | fl ds => exact .inr (.inl ⟨ds, .inl rfl⟩)
        | kl ds => exact .inr (.inl ⟨ds, .inr rfl⟩)
        | loc n => exact .inr (.inr ⟨n, rfl⟩)
        | _ => cases hs
      rcases kind with ⟨ds, rfl⟩ | kind
      · refine .inl ⟨ι, ρ, S, hE, hS, ?_⟩
        rw [hf]
        intro ι1 H1 G1 s1 v rv
        obtain ⟨rfl, a, rfl, st, g0⟩ := src_stands hs s1 rv
        rw [RepV] at rv
        obtain ⟨b, vs, eb, t, rl⟩ := rv
        cases eb
        cases hs
        exact ⟨a, rfl, ⟨vs, t.sq⟩, q ι1 H1 G1 s1 _ (itt_ok fun ι2 H2 S2 G s2 _ => ⟨vs, (t.grow G).sq, RepL.grow G _ _ rl⟩)⟩
      · refine .inr ⟨ι, ρ, S, hE, hS, ?_⟩
        rw [hf]
        intro ι1 H1 G1 s1 v rv
        rcases kind with ⟨ds, rfl | rfl⟩ | ⟨n, rfl⟩
        · rw [RepV] at rv
          obtain ⟨b, vs, rfl, t, rl⟩ := rv
          cases hs
          exact ⟨b, rfl, ⟨vs, t.sq⟩, q ι1 H1 G1 s1 _ (itl_ok fun ι2 H2 S2 G s2 _ => ⟨vs, (t.grow G).sq, RepL.grow G _ _ rl⟩)⟩
        · rw [RepV] at rv
          obtain ⟨b, vs, rfl, t, rl⟩ := rv
          cases hs
          exact ⟨b, rfl, ⟨vs, t.sq⟩, q ι1 H1 G1 s1 _ (itl_ok fun ι2 H2 S2 G s2 _ => ⟨vs, (t.grow G).sq, RepL.grow G _ _ rl⟩)⟩
        · rw [RepV] at rv
          obtain ⟨b, eb, rfl⟩ := rv
          have hs' : (match getQ S1 n with
            | some ds => R.ok (ds, fun S => getQ S n = some ds) S1
            | none => .stuck) = .ok c S2 := hs
          cases hq : getQ S1 n with
          | none => rw [hq] at hs'; cases hs'
          | some ds =>
            rw [hq] at hs'
            cases hs'
            obtain ⟨vs, z, _⟩ := loc_at s1 eb hq
            exact ⟨b, rfl, ⟨vs, z⟩, q ι1 H1 G1 s1 _ (itl_ok fun ι2 H2 S2 G s2 g2 => loc_at s2 (getElem?_pre G.pre eb) g2)⟩
def rangeD (lo : Int) (n : Nat) : List D := (List.range n).map fun k => .int (lo + (k : Nat))
theorem rangeD_get {lo : Int} {n i : Nat} {d : D} (h : (rangeD lo n)[i]? = some d) : i < n ∧ d = .int (lo + (i : Nat)) := by
  unfold rangeD at h
  rw [List.getElem?_map] at h
  cases e : (List.range n)[i]? with
  | none => rw [e] at h; cases h
  | some k =>
    rw [e] at h; cases h
    have := List.getElem?_eq_some_iff.mp e
    obtain ⟨h1, h2⟩ := this
    simp at h1 h2
    subst h2
    exact ⟨h1, rfl⟩
theorem rangeD_len (lo : Int) (n : Nat) : (rangeD lo n).length = n := by simp [rangeD]
theorem itr_ok {K : PySem.W.Frag} {ι : List Addr} {H : Hp} {lo : Int} {n : Nat} {g : Sto → Prop} : ItOk K (Itr lo n) ι H (rangeD lo n, g) := fun ι1 H1 S1 G s gs => by
  refine ⟨fun i hi => by rw [rangeD_len] at hi; exact hi, fun i d e => ?_⟩
  obtain ⟨hi, rfl⟩ := rangeD_get e
  refine ⟨hi, fun x H2 y => ?_⟩
  obtain ⟨rfl, rfl⟩ := y
  exact ⟨Grow.refl _ _, s, int_rep⟩
noncomputable def iRange1 (g : Ev → Sto → R (List D)) : Ev → Sto → R Src := fun ρ S => (g ρ S).bind fun ds S1 => match ds with
  | [.int j] => ifp (-(2 ^ 62) ≤ j ∧ j < 2 ^ 62) (.ok (rangeD 0 j.toNat, yes) S1) .stuck
  | _ => .stuck
noncomputable def iRange2 (g : Ev → Sto → R (List D)) : Ev → Sto → R Src := fun ρ S => (g ρ S).bind fun ds S1 => match ds with
  | [.int i, .int j] => ifp (-(2 ^ 62) ≤ i ∧ i < 2 ^ 62 ∧ -(2 ^ 62) ≤ j ∧ j < 2 ^ 62) (.ok (rangeD i (j - i).toNat, yes) S1) .stuck
  | _ => .stuck
theorem RepL.one_inv {K : PySem.W.Frag} {ι : List Addr} {H : Hp} {d : D} {vs : List V} (h : RepL K ι H [d] vs) : ∃ v, vs = [v] ∧ RepV K ι H d v := by
  rw [RepL] at h
  obtain ⟨v, r, rfl, rv, rs⟩ := h
  rw [RepL] at rs
  subst rs
  exact ⟨v, rfl, rv⟩
theorem RepL.two_inv {K : PySem.W.Frag} {ι : List Addr} {H : Hp} {d e : D} {vs : List V} (h : RepL K ι H [d, e] vs) : ∃ v u, vs = [v, u] ∧ RepV K ι H d v ∧ RepV K ι H e u := by
  rw [RepL] at h
  obtain ⟨v, r, rfl, rv, rs⟩ := h
  obtain ⟨u, rfl, ru⟩ := RepL.one_inv rs
  exact ⟨v, u, rfl, rv, ru⟩
theorem di_range1 {a : Expr} {g : Ev → Sto → R (List D)} {p pos : Pos} (hg : Gl X "range") (hm : X.mg "range" = none) (ha : DA X W [a] g) (hs : starEach [a] X.env = [(false, eval a X.env)] := by rfl) : DI X W tg (.Call (.Name "range" p) [a] [] pos) (iRange1 g) := by
  refine PI.imp (pi_range1 hg hm ha hs) fun σ H Rr ⟨ι, ρ, S, hE, hS, q⟩ => ⟨ι, ρ, S, hE, hS, (Post.bind q).mono fun ds S1 ι1 H1 G1 s1 h1 vs rs => ?_⟩
  (try unfold ifp at h1); split at h1
  · obtain ⟨v, rfl, rv⟩ := RepL.one_inv rs
    (try unfold ifp at h1); split at h1
    · rename_i hj
      exact ⟨_, by rw [int_at rv], hj.1, hj.2, h1.here s1 _ itr_ok⟩
    · exact h1.elim
  · exact h1.elim
open Classical in
noncomputable def forD (g : Sto → Prop) (T : Tg) (B Z : Ev → Sto → SR) : List D → Ev → Sto → SR
  | [], ρ, S => if g S then Z ρ S else .stuck
  | d :: ds, ρ, S => if g S then (match T d ρ S with
    | none => .stuck
    | some (ρ1, S1) => match B ρ1 S1 with
      | .nx ρ2 S2 => forD g T B Z ds ρ2 S2
      | .ct ρ2 S2 => forD g T B Z ds ρ2 S2
      | .bk ρ2 S2 => .nx ρ2 S2
      | .rt d S2 => .rt d S2
      | .er e ρ2 S2 => .er e ρ2 S2
      | .stuck => .stuck) else .stuck
noncomputable def sFor (f : Ev → Sto → R Src) (T : Tg) (B Z : Ev → Sto → SR) : Ev → Sto → SR := fun ρ S => (f ρ S).toS ρ fun q S1 => forD q.2 T B Z q.1 ρ S1
theorem for_read {K : PySem.W.Frag} {f : Ev → Sto → R Src} {T : Tg} {B Z : Ev → Sto → SR} : ∀ E σ H, rdS K W (sFor f T B Z) E σ H → tForE (rdI K W f) (rdG K T) (rdS K W B) (rdS K W Z) E σ H := fun E σ H ⟨ι, ρ, S, hE, hS, h⟩ => by
  refine ⟨ι, ρ, S, hE, hS, (PostS.bind h hE).mono fun q S1 ι1 H1 G1 s1 h1 J hJ => ?_⟩
  obtain ⟨ds, g⟩ := q
  refine ⟨fun i m σ' H' => m = ds.length - i ∧ i ≤ ds.length ∧ ∃ ι' ρ' S', Grow ι1 H1 ι' H' ∧ RepE K ι' H' σ' ρ' ∧ Sim K ι' H' S' ∧ PostS K W E ι' H' (forD g T B Z (ds.drop i) ρ' S'), ⟨_, rfl, Nat.zero_le _, ι1, ρ, S1, Grow.refl _ _, hE.grow G1, s1, h1⟩, ?_⟩
  rintro i m σ' H' ⟨rfl, hi, ι', ρ', S', G', e', s', h'⟩
  by_cases hlt : i < ds.length
  · rw [List.drop_eq_getElem_cons hlt] at h'
    unfold forD at h'
    (try unfold ifp at h'); split at h'
    · rename_i hg
      obtain ⟨-, item⟩ := hJ ι' H' S' G' s' hg
      obtain ⟨go, yl⟩ := item i ds[i] (List.getElem?_eq_some_iff.mpr ⟨hlt, rfl⟩)
      refine .inr ⟨go, fun σ2 H2 => ∃ ι2 ρ2 S2, Grow ι1 H1 ι2 H2 ∧ RepE K ι2 H2 σ2 ρ2 ∧ Sim K ι2 H2 S2 ∧ PostS K W E ι2 H2 (forD g T B Z (ds.drop (i + 1)) ρ2 S2), fun σ2 H2 hh => ⟨ds.length - (i + 1), by omega, rfl, hlt, hh⟩, fun x H2 y => ?_⟩
      obtain ⟨G2, s2, rx⟩ := yl x H2 y
      cases hT : T ds[i] ρ' S' with
      | none => simp only [hT] at h'; exact h'.elim
      | some q =>
        obtain ⟨ρ1, S2⟩ := q
        simp only [hT] at h'
        refine ⟨ι', ρ', S', ds[i], ρ1, S2, e'.grow G2, s2, rx, hT, fun ι3 H3 σ3 G3 s3 e3 => ⟨ι3, ρ1, S2, e3, s3, ?_⟩⟩
        have G13 := (G'.trans G2).trans G3
        have h3 := PostS.grow h' (G2.trans G3)
        cases hB : B ρ1 S2 with
        | nx ρ2 S3 => simp only [hB] at h3; exact fun ι4 H4 σ4 G4 s4 e4 => ⟨ι4, ρ2, S3, G13.trans G4, e4, s4, PostS.grow h3 G4⟩
        | ct ρ2 S3 => simp only [hB] at h3; exact fun ι4 H4 σ4 G4 s4 e4 => ⟨ι4, ρ2, S3, G13.trans G4, e4, s4, PostS.grow h3 G4⟩
        | bk ρ2 S3 => simp only [hB] at h3; exact h3
        | rt d S3 => simp only [hB] at h3; exact h3
        | er x ρ2 S3 => simp only [hB] at h3; exact h3
        | stuck => simp only [hB] at h3; exact h3
    · exact h'.elim
  · have e : i = ds.length := by omega
    subst e
    rw [List.drop_length] at h'
    unfold forD at h'
    (try unfold ifp at h'); split at h'
    · rename_i hg
      obtain ⟨stop, -⟩ := hJ ι' H' S' G' s' hg
      exact .inl ⟨stop _ (Nat.le_refl _), ι', ρ', S', e', s', h'⟩
    · exact h'.elim
theorem ds_for {iter : Expr} {body orelse : List Stmt} {f : Ev → Sto → R Src} {T : Tg} {B Z : Ev → Sto → SR} (hp : PassesOwn (model X.prog X.w) X.A X.env X.xe) (hc : X.calm = true) (hi : DI X W tg iter f) (hg : DG X tg T) (hb : DSs X W body B) (ho : DSs X W orelse Z)
    (hs : ∀ x, foldedSetIterable iter X.env x = pure x := by intro _; rfl) : DS X W (.For tg iter body orelse pos) (sFor f T B Z) := PS.imp (ps_forE hp hc hi hg hb ho hs) for_read
def whileD (c : Ev → Sto → R Bool) (B : Ev → Sto → SR) : Nat → Ev → Sto → SR
  | 0, _, _ => .stuck
  | n + 1, ρ, S => (c ρ S).toS ρ fun b S1 => if b = true then (match B ρ S1 with
      | .nx ρ2 S2 => whileD c B n ρ2 S2
      | .ct ρ2 S2 => whileD c B n ρ2 S2
      | .bk ρ2 S2 => .nx ρ2 S2
      | .rt d S2 => .rt d S2
      | .er e ρ2 S2 => .er e ρ2 S2
      | .stuck => .stuck) else .nx ρ S1
theorem ds_while (n : Nat) {c : Expr} {body : List Stmt} {t : Ev → Sto → R Bool} {B : Ev → Sto → SR} (hp : PassesOwn (model X.prog X.w) X.A X.env X.xe) (hc : DT X W c t) (hb : DSs X W body B) : DS X W (.While c body [] pos) (whileD t B n) := by
  refine PS.imp (ps_while hp hc hb) fun E σ H ⟨ι, ρ, S, hE, hS, h⟩ => ?_
  refine ⟨fun m σ' H' => ∃ ι' ρ' S', RepE X.K ι' H' σ' ρ' ∧ Sim X.K ι' H' S' ∧ PostS X.K W E ι' H' (whileD t B m ρ' S'), ⟨n, ι, ρ, S, hE, hS, h⟩, ?_⟩
  rintro m σ' H' ⟨ι', ρ', S', e', s', h'⟩
  cases m with
  | zero => exact h'.elim
  | succ m =>
    refine ⟨ι', ρ', S', e', s', (PostS.bind h' e').mono fun b S1 ι1 H1 G1 s1 h1 => ?_⟩
    cases b with
    | false => rw [if_neg (by decide)] at h1 ⊢; exact h1 ι1 H1 σ' (Grow.refl _ _) s1 (e'.grow G1)
    | true =>
      rw [if_pos rfl] at h1 ⊢
      refine ⟨fun σ2 H2 => ∃ ι2 ρ2 S2, RepE X.K ι2 H2 σ2 ρ2 ∧ Sim X.K ι2 H2 S2 ∧ PostS X.K W E ι2 H2 (whileD t B m ρ2 S2), fun σ2 H2 hh => ⟨m, Nat.lt_succ_self _, hh⟩, ι1, ρ', S1, e'.grow G1, s1, ?_⟩
      cases hB : B ρ' S1 with
      | nx ρ2 S3 => simp only [hB] at h1; exact fun ι4 H4 σ4 G4 s4 e4 => ⟨ι4, ρ2, S3, e4, s4, PostS.grow h1 G4⟩
      | ct ρ2 S3 => simp only [hB] at h1; exact fun ι4 H4 σ4 G4 s4 e4 => ⟨ι4, ρ2, S3, e4, s4, PostS.grow h1 G4⟩
      | bk ρ2 S3 => simp only [hB] at h1; exact h1
      | rt d S3 => simp only [hB] at h1; exact h1
      | er x ρ2 S3 => simp only [hB] at h1; exact h1
      | stuck => simp only [hB] at h1; exact h1
end
end DL
namespace DL
open PySem PySem.Spec L2
open PyProof.Rows hiding St
mutual
def low (n : Nat) : D → Bool
  | .loc m => decide (m < n)
  | .tup ds => lowL n ds
  | .fl ds => lowL n ds
  | .kl ds => lowL n ds
  | .ktp ds => lowL n ds
  | .ztp ds => lowL n ds
  | .fd kvs => lowK n kvs
  | .exc _ fs => lowF n fs
  | .non => true
  | .bl _ => true
  | .int _ => true
  | .str _ => true
  | .ty _ => true
  | .fn _ => true
def lowL (n : Nat) : List D → Bool
  | [] => true
  | d :: ds => low n d && lowL n ds
def lowK (n : Nat) : List (Key × D) → Bool
  | [] => true
  | (_, d) :: ds => low n d && lowK n ds
def lowF (n : Nat) : List (Str × D) → Bool
  | [] => true
  | (_, d) :: ds => low n d && lowF n ds
end
def lowKT (n : Nat) : List (List Key × D) → Bool
  | [] => true
  | (_, d) :: ds => low n d && lowKT n ds
def lowO (n : Nat) : Ob → Bool
  | .lst ds => lowL n ds
  | .ins _ fs => lowF n fs
  | .dct kvs => lowK n kvs
  | .dtt kvs => lowK n kvs
  | .scr ds => lowL n ds
  | .tpl ds => lowL n ds
  | .dkt kvs => lowKT n kvs
  | .dkl kvs => lowKT n kvs
section
variable {K : PySem.W.Frag} {ι : List Addr} {H : Hp}
theorem take_out {a : Addr} {n : Nat} (h : a ∉ ι) : a ∉ ι.take n := fun z => h (List.mem_of_mem_take z)
mutual
theorem RepV.low (n : Nat) : ∀ (d : D) (v : V), RepV K ι H d v → DL.low n d = true → RepV K (ι.take n) H d v
  | .non, _, h, _ => by rw [RepV] at h ⊢; exact h
  | .bl _, _, h, _ => by rw [RepV] at h ⊢; exact h
  | .int _, _, h, _ => by rw [RepV] at h ⊢; exact h
  | .str _, _, h, _ => by rw [RepV] at h ⊢; exact h
  | .ty _, _, h, _ => by rw [RepV] at h ⊢; exact h
  | .fn _, _, h, _ => by rw [RepV] at h ⊢; exact h
  | .loc m, _, h, l => by
    rw [RepV] at h ⊢
    obtain ⟨a, e, r⟩ := h
    have l : m < n := by simpa [DL.low] using l
    exact ⟨a, by rw [List.getElem?_take_of_lt l]; exact e, r⟩
  | .tup ds, _, h, l => by
    rw [RepV] at h ⊢
    obtain ⟨a, vs, e, t, r⟩ := h
    refine ⟨a, vs, e, ?_, RepL.low n ds vs r (by simpa [DL.low] using l)⟩
    rcases t with ⟨t1, t2⟩ | t
    · exact .inl ⟨take_out t1, t2⟩
    · exact .inr t
  | .fl ds, _, h, l => by
    rw [RepV] at h ⊢
    obtain ⟨a, vs, e, t, r⟩ := h
    exact ⟨a, vs, e, ⟨take_out t.1, t.2⟩, RepL.low n ds vs r (by simpa [DL.low] using l)⟩
  | .kl ds, _, h, l => by
    rw [RepV] at h ⊢
    obtain ⟨a, vs, e, t, r⟩ := h
    refine ⟨a, vs, e, ?_, RepL.low n ds vs r (by simpa [DL.low] using l)⟩
    rcases t with ⟨t1, t2⟩ | t
    · exact .inl ⟨take_out t1, t2⟩
    · exact .inr t
  | .ktp ds, _, h, l => by
    rw [RepV] at h ⊢
    obtain ⟨a, vs, e, t, r⟩ := h
    exact ⟨a, vs, e, ⟨take_out t.1, t.2⟩, RepL.low n ds vs r (by simpa [DL.low] using l)⟩
  | .ztp ds, _, h, l => by
    rw [RepV] at h ⊢
    obtain ⟨a, vs, e, t, r⟩ := h
    exact ⟨a, vs, e, t, RepL.low n ds vs r (by simpa [DL.low] using l)⟩
  | .fd kvs, _, h, l => by
    rw [RepV] at h ⊢
    obtain ⟨a, vs, e, m, t, r⟩ := h
    exact ⟨a, vs, e, take_out m, t, RepK.low n kvs vs r (by simpa [DL.low] using l)⟩
  | .exc c fs, _, h, l => by
    rw [RepV] at h ⊢
    obtain ⟨a, cls, dd, e, m, t, rc, r⟩ := h
    refine ⟨a, cls, dd, e, take_out m, t, rc, ?_⟩
    rcases r with r | ⟨d, vs, e1, e2, e3, e4⟩
    · exact .inl r
    · exact .inr ⟨d, vs, e1, take_out e2, e3, RepF.low n fs vs e4 (by simpa [DL.low] using l)⟩
theorem RepL.low (n : Nat) : ∀ (ds : List D) (vs : List V), RepL K ι H ds vs → DL.lowL n ds = true → RepL K (ι.take n) H ds vs
  | [], _, h, _ => by rw [RepL] at h ⊢; exact h
  | d :: ds, _, h, l => by
    rw [RepL] at h ⊢
    obtain ⟨v, r, e, a, b⟩ := h
    simp only [DL.lowL, Bool.and_eq_true] at l
    exact ⟨v, r, e, RepV.low n d v a l.1, RepL.low n ds r b l.2⟩
theorem RepK.low (n : Nat) : ∀ (ds : List (Key × D)) (vs : List (Key × V)), RepK K ι H ds vs → DL.lowK n ds = true → RepK K (ι.take n) H ds vs
  | [], _, h, _ => by rw [RepK] at h ⊢; exact h
  | (k, d) :: ds, _, h, l => by
    rw [RepK] at h ⊢
    obtain ⟨v, r, e, a, b⟩ := h
    simp only [DL.lowK, Bool.and_eq_true] at l
    exact ⟨v, r, e, RepV.low n d v a l.1, RepK.low n ds r b l.2⟩
theorem RepF.low (n : Nat) : ∀ (ds : List (Str × D)) (vs : List (Str × V)), RepF K ι H ds vs → DL.lowF n ds = true → RepF K (ι.take n) H ds vs
  | [], _, h, _ => by rw [RepF] at h ⊢; exact h
  | (k, d) :: ds, _, h, l => by
    rw [RepF] at h ⊢
    obtain ⟨v, r, e, a, b⟩ := h
    simp only [DL.lowF, Bool.and_eq_true] at l
    exact ⟨v, r, e, RepV.low n d v a l.1, RepF.low n ds r b l.2⟩
end
theorem RepKT.low (n : Nat) : ∀ (ds : List (List Key × D)) (vs : List (List Key × V)), RepKT K ι H ds vs → DL.lowKT n ds = true → RepKT K (ι.take n) H ds vs
  | [], _, h, _ => by rw [RepKT] at h ⊢; exact h
  | (k, d) :: ds, _, h, l => by
    rw [RepKT] at h ⊢
    obtain ⟨v, r, e, a, b⟩ := h
    simp only [DL.lowKT, Bool.and_eq_true] at l
    exact ⟨v, r, e, RepV.low n d v a l.1, RepKT.low n ds r b l.2⟩
theorem RepO.low {a : Addr} {o : Ob} (n : Nat) (h : RepO K ι H a o) (l : DL.lowO n o = true) : RepO K (ι.take n) H a o := by
  cases o with
  | lst ds => obtain ⟨vs, q, r⟩ := h; exact ⟨vs, q, RepL.low n ds vs r l⟩
  | ins C fs => obtain ⟨C', dx, vs, nc, q, r⟩ := h; exact ⟨C', dx, vs, nc, q, RepF.low n fs vs r l⟩
  | dct ks => obtain ⟨vs, q, r⟩ := h; exact ⟨vs, q, RepK.low n ks vs r l⟩
  | dtt ks => obtain ⟨o, vs, q, r⟩ := h; exact ⟨o, vs, q, RepK.low n ks vs r l⟩
  | scr ds => obtain ⟨o, vs, q, r⟩ := h; exact ⟨o, vs, q, RepL.low n ds vs r l⟩
  | tpl ds => obtain ⟨o, vs, q, c1, c2, r⟩ := h; exact ⟨o, vs, q, c1, c2, RepL.low n ds vs r l⟩
  | dkt ks => obtain ⟨vs, q, r⟩ := h; exact ⟨vs, q, RepKT.low n ks vs r l⟩
  | dkl ks => obtain ⟨o, vs, q, r⟩ := h; exact ⟨o, vs, q, RepKT.low n ks vs r l⟩
mutual
theorem RepV.isLow : ∀ (d : D) (v : V), RepV K ι H d v → DL.low ι.length d = true
  | .non, _, _ => rfl
  | .bl _, _, _ => rfl
  | .int _, _, _ => rfl
  | .str _, _, _ => rfl
  | .ty _, _, _ => rfl
  | .fn _, _, _ => rfl
  | .loc m, _, h => by
    rw [RepV] at h
    obtain ⟨a, e, _⟩ := h
    simpa [DL.low] using (List.getElem?_eq_some_iff.mp e).1
  | .tup ds, _, h => by
    rw [RepV] at h
    obtain ⟨a, vs, e, t, r⟩ := h
    simpa [DL.low] using RepL.isLow ds vs r
  | .fl ds, _, h => by
    rw [RepV] at h
    obtain ⟨a, vs, e, t, r⟩ := h
    simpa [DL.low] using RepL.isLow ds vs r
  | .kl ds, _, h => by
    rw [RepV] at h
    obtain ⟨a, vs, e, t, r⟩ := h
    simpa [DL.low] using RepL.isLow ds vs r
  | .ktp ds, _, h => by
    rw [RepV] at h
    obtain ⟨a, vs, e, t, r⟩ := h
    simpa [DL.low] using RepL.isLow ds vs r
  | .ztp ds, _, h => by
    rw [RepV] at h
    obtain ⟨a, vs, e, t, r⟩ := h
    simpa [DL.low] using RepL.isLow ds vs r
  | .fd ds, _, h => by
    rw [RepV] at h
    obtain ⟨a, vs, e, m, t, r⟩ := h
    simpa [DL.low] using RepK.isLow ds vs r
  | .exc c ds, _, h => by
    rw [RepV] at h
    obtain ⟨a, cls, dd, e, m, t, rc, r⟩ := h
    rcases r with ⟨_, rfl⟩ | ⟨d, vs, e1, e2, e3, e4⟩
    · rfl
    · simpa [DL.low] using RepF.isLow ds vs e4
theorem RepL.isLow : ∀ (ds : List D) (vs : List V), RepL K ι H ds vs → DL.lowL ι.length ds = true
  | [], _, _ => rfl
  | d :: ds, _, h => by
    rw [RepL] at h
    obtain ⟨v, r, e, a, b⟩ := h
    simp only [DL.lowL, Bool.and_eq_true]
    exact ⟨RepV.isLow d v a, RepL.isLow ds r b⟩
theorem RepK.isLow : ∀ (ds : List (Key × D)) (vs : List (Key × V)), RepK K ι H ds vs → DL.lowK ι.length ds = true
  | [], _, _ => rfl
  | (k, d) :: ds, _, h => by
    rw [RepK] at h
    obtain ⟨v, r, e, a, b⟩ := h
    simp only [DL.lowK, Bool.and_eq_true]
    exact ⟨RepV.isLow d v a, RepK.isLow ds r b⟩
theorem RepF.isLow : ∀ (ds : List (Str × D)) (vs : List (Str × V)), RepF K ι H ds vs → DL.lowF ι.length ds = true
  | [], _, _ => rfl
  | (k, d) :: ds, _, h => by
    rw [RepF] at h
    obtain ⟨v, r, e, a, b⟩ := h
    simp only [DL.lowF, Bool.and_eq_true]
    exact ⟨RepV.isLow d v a, RepF.isLow ds r b⟩
end
theorem RepKT.isLow : ∀ (ds : List (List Key × D)) (vs : List (List Key × V)), RepKT K ι H ds vs → DL.lowKT ι.length ds = true
  | [], _, _ => rfl
  | (k, d) :: ds, _, h => by
    rw [RepKT] at h
    obtain ⟨v, r, e, a, b⟩ := h
    simp only [DL.lowKT, Bool.and_eq_true]
    exact ⟨RepV.isLow d v a, RepKT.isLow ds r b⟩
theorem RepO.isLow {a : Addr} {o : Ob} (h : RepO K ι H a o) : DL.lowO ι.length o = true := by
  cases o with
  | lst ds => obtain ⟨vs, q, r⟩ := h; exact RepL.isLow ds vs r
  | ins C fs => obtain ⟨C', dx, vs, nc, q, r⟩ := h; exact RepF.isLow fs vs r
  | dct ks => obtain ⟨vs, q, r⟩ := h; exact RepK.isLow ks vs r
  | dtt ks => obtain ⟨o, vs, q, r⟩ := h; exact RepK.isLow ks vs r
  | scr ds => obtain ⟨o, vs, q, r⟩ := h; exact RepL.isLow ds vs r
  | tpl ds => obtain ⟨o, vs, q, c1, c2, r⟩ := h; exact RepL.isLow ds vs r
  | dkt ks => obtain ⟨vs, q, r⟩ := h; exact RepKT.isLow ks vs r
  | dkl ks => obtain ⟨o, vs, q, r⟩ := h; exact RepKT.isLow ks vs r
end
/-- the elder places hold what they held, or nothing that points to a younger one -/
def Trunc (S S' : Sto) : Prop := S.length ≤ S'.length ∧ ∀ k o, k < S.length → S'[k]? = some o → S[k]? = some o ∨ lowO S.length o = true
theorem Trunc.same (S l : Sto) : Trunc S (S ++ l) := ⟨by simp, fun k o h e => .inl (by rw [List.getElem?_append_left h] at e; exact e)⟩
theorem Sim.trunc {K : PySem.W.Frag} {ι ι' : List Addr} {H H' : Hp} {S S' : Sto} (s : Sim K ι H S) (s' : Sim K ι' H' S') (G : Grow ι H ι' H') (t : Trunc S S') : Sim K ι H' (S'.take S.length) ∧ Grow ι H ι H' := by
  have hp : ι'.take ι.length = ι := by
    obtain ⟨r, e⟩ := G.pre
    rw [← e, List.take_left]
  refine ⟨⟨s.nd, by rw [s.len, List.length_take]; have := t.1; omega, fun n a o e1 e2 => ?_⟩, List.prefix_rfl, G.keep, fun _ z n => absurd z n, G.frz⟩
  have hn : n < S.length := by rw [← s.len]; exact (List.getElem?_eq_some_iff.mp e1).1
  rw [List.getElem?_take_of_lt hn] at e2
  have e1' := getElem?_pre G.pre e1
  have r' := s'.ob n a o e1' e2
  have l : lowO S.length o = true := by
    rcases t.2 n o hn e2 with h | h
    · have := (s.ob n a o e1 h).isLow
      rw [s.len] at this; exact this
    · exact h
  have := r'.low S.length l
  rw [← s.len, hp] at this
  exact this
theorem RepV.trunc {K : PySem.W.Frag} {ι ι' : List Addr} {H H' : Hp} {S : Sto} {d : D} {v : V} (s : Sim K ι H S) (G : Grow ι H ι' H') (r : RepV K ι' H' d v) (l : DL.low S.length d = true) : RepV K ι H' d v := by
  have hp : ι'.take S.length = ι := by
    obtain ⟨r, e⟩ := G.pre
    rw [← s.len, ← e, List.take_left]
  have := RepV.low S.length d v r l
  rw [hp] at this; exact this
theorem RepL.trunc {K : PySem.W.Frag} {ι ι' : List Addr} {H H' : Hp} {S : Sto} {ds : List D} {vs : List V} (s : Sim K ι H S) (G : Grow ι H ι' H') (r : RepL K ι' H' ds vs) (l : lowL S.length ds = true) : RepL K ι H' ds vs := by
  have hp : ι'.take S.length = ι := by
    obtain ⟨r, e⟩ := G.pre
    rw [← s.len, ← e, List.take_left]
  have := RepL.low S.length ds vs r l
  rw [hp] at this; exact this
theorem RepF.trunc {K : PySem.W.Frag} {ι ι' : List Addr} {H H' : Hp} {S : Sto} {ds : List (Str × D)} {vs : List (Str × V)} (s : Sim K ι H S) (G : Grow ι H ι' H') (r : RepF K ι' H' ds vs) (l : lowF S.length ds = true) : RepF K ι H' ds vs := by
  have hp : ι'.take S.length = ι := by
    obtain ⟨r, e⟩ := G.pre
    rw [← s.len, ← e, List.take_left]
  have := RepF.low S.length ds vs r l
  rw [hp] at this; exact this
abbrev W0 : WX := fun _ _ _ _ => False
open Classical in
noncomputable def compD (g : Sto → Prop) (T : Tg) (c : Ev → Sto → R Bool) (f : Ev → Sto → R D) (n : Nat) (ρ : Ev) : List D → Sto → Option Sto
  | [], S => if g S then some S else none
  | d :: ds, S => if g S then (match T d ρ S with
    | none => none
    | some (ρ1, S1) => match c ρ1 S1 with
      | .ok b S2 => if b = true then (match f ρ1 S2 with
          | .ok y S3 => (match getL S3 n with
            | some acc => ifp (acc.length < sizeLine) (compD g T c f n ρ ds (S3.set n (.lst (acc ++ [y])))) none
            | none => none)
          | _ => none) else compD g T c f n ρ ds S2
      | _ => none) else none
def cYes : Ev → Sto → R Bool := fun _ S => .ok true S
/-- how the list stays: in the store, or frozen -/
def finLoc (S : Sto) (S' : Sto) : R D := .ok (.loc S.length) S'
open Classical in
noncomputable def finFl (S : Sto) (S' : Sto) : R D := match getL S' S.length with
  | some acc => if Trunc S S' ∧ S'.length = S.length + 1 ∧ lowL S.length acc = true then .ok (.fl acc) (S'.take S.length) else .stuck
  | none => .stuck
def FinOk (fin : Sto → Sto → R D) : Prop := ∀ (K : PySem.W.Frag) (W : WX) (σ : St) (ι ι' : List Addr) (H H0 H' : Hp) (S S' : Sto) (Da : Addr) (Q : VK), Sim K ι H S → H Da = none → Grow ι H ι H0 → (∀ b, b ≠ Da → H0 b = H b) → Sim K ι' H' S' → Grow (ι ++ [Da]) H0 ι' H' →
  Post K W σ ι H (fin S S') (fun d _ ι' H' => ∀ v, RepV K ι' H' d v → Q v H') → Q (.ref Da) H'
theorem fin_grow {ι ι' : List Addr} {H H0 H' : Hp} {Da : Addr} (n : H Da = none) (hb : ∀ b, b ≠ Da → H0 b = H b) (G : Grow (ι ++ [Da]) H0 ι' H') : Grow ι H ι' H' where
  pre := (List.prefix_append _ _).trans G.pre
  keep := fun a o e na => by
    have hne : a ≠ Da := ne_of_none e n
    refine G.keep a o (by rw [hb a hne]; exact e) fun z => ?_
    rcases List.mem_append.mp z with z | z
    · exact na z
    · exact hne (List.mem_singleton.mp z)
  fresh := fun a z na => by
    by_cases hne : a = Da
    · rw [hne]; exact n
    · have := G.fresh a z fun y => by
        rcases List.mem_append.mp y with y | y
        · exact na y
        · exact hne (List.mem_singleton.mp y)
      rw [hb a hne] at this; exact this
  frz := fun a od u e => G.frz a od u (by rw [hb a (ne_of_none e n)]; exact e)
theorem fin_loc : FinOk finLoc := fun K W σ ι ι' H H0 H' S S' Da Q s n G0 hb s' G h => by
  refine h ι' H' (fin_grow n hb G) s' _ ?_
  rw [RepV]
  exact ⟨Da, getElem?_pre G.pre (by rw [← s.len]; simp), rfl⟩
theorem fin_fl : FinOk finFl := fun K W σ ι ι' H H0 H' S S' Da Q s n G0 hb s' G h => by
  unfold finFl at h
  (try unfold ifp at h); split at h
  · rename_i acc ha
    (try unfold ifp at h); split at h
    · rename_i hh
      obtain ⟨t, hl, hlow⟩ := hh
      have G1 := fin_grow n hb G
      obtain ⟨s2, G2⟩ := s.trunc s' G1 t
      have ea : ι'[S.length]? = some Da := getElem?_pre G.pre (by rw [← s.len]; simp)
      obtain ⟨vs, h1, h2⟩ := s'.ob _ _ _ ea (getL_some ha)
      refine h ι H' G2 s2 _ ?_
      rw [RepV]
      refine ⟨Da, vs, rfl, ⟨fun z => ?_, h1⟩, RepL.trunc s G1 h2 hlow⟩
      obtain ⟨u, e⟩ := s.there z
      rw [n] at e; cases e
    · exact h.elim
  · exact h.elim
/-- the target of a comprehension: its own slots, its store, by the very slots -/
structure CT (K : PySem.W.Frag) (vs : List Nat) (g : TG) (T : Tg) : Prop where
  wipeE : ∀ (ι : List Addr) (H : Hp) (σ : St) (ρ : Ev), RepE K ι H σ ρ → RepE K ι H (wipe σ vs) (ρ.mapIdx fun i d => if i ∈ vs then none else d)
  run : ∀ (ι : List Addr) (H : Hp) (S S' : Sto) (σ : St) (ρ ρ' : Ev) (d : D) (v : V) (Q : St → Hp → Prop), RepE K ι H (wipe σ vs) ρ → Sim K ι H S → RepV K ι H d v → T d ρ S = some (ρ', S') → S' = S ∧
    ((∀ σ', wipe σ' vs = wipe σ vs → RepE K ι H σ' ρ' → Q σ' H) → g v (wipe σ vs) H Q)
def wipeD (ρ : Ev) (vs : List Nat) : Ev := ρ.mapIdx fun i d => if i ∈ vs then none else d
noncomputable def eLc (fin : Sto → Sto → R D) (src : Ev → Sto → R Src) (T : Tg) (vs : List Nat) (c : Ev → Sto → R Bool) (f : Ev → Sto → R D) : Ev → Sto → R D := fun ρ S => (src ρ S).bind fun q S1 => match compD q.2 T c f S1.length (wipeD ρ vs) q.1 (S1 ++ [.lst []]) with
  | some S2 => fin S1 S2
  | none => .stuck
section
variable {X : Cx} {W : WX} {pos : Pos}
theorem lc_read {fin : Sto → Sto → R D} {K : PySem.W.Frag} {src : Ev → Sto → R Src} {g : TG} {T : Tg} {vs : List Nat} {c : Ev → Sto → R Bool} {f : Ev → Sto → R D} (hfin : FinOk fin) (ct : CT K vs g T) :
    ∀ σ H Q, rdE K W (eLc fin src T vs c f) σ H Q → tLc (rdI K W src) g (rdT K W0 c) (rdE K W0 f) vs σ H Q := fun σ H Q ⟨ι, ρ, S, hE, hS, h⟩ => by
  refine ⟨ι, ρ, S, hE, hS, (Post.bind h).mono fun q S1 ι1 H1 G1 s1 h1 J hJ Da hDa => ?_⟩
  obtain ⟨ds, gd⟩ := q
  cases hc : compD gd T c f S1.length (wipeD ρ vs) ds (S1 ++ [.lst []]) with
  | none => simp only [hc] at h1; exact h1.elim
  | some S2 =>
    simp only [hc] at h1
    have G0 : Grow ι1 H1 (ι1 ++ [Da]) (upd H1 Da (.lst [])) := Grow.push hDa
    have hE1 := ct.wipeE _ _ _ _ (hE.grow G1)
    refine ⟨fun i m H' => m = ds.length - i ∧ i ≤ ds.length ∧ ∃ ι' S', Grow (ι1 ++ [Da]) (upd H1 Da (.lst [])) ι' H' ∧ Sim K ι' H' S' ∧ compD gd T c f S1.length (wipeD ρ vs) (ds.drop i) S' = some S2,
      ⟨_, rfl, Nat.zero_le _, ι1 ++ [Da], (S1 ++ [Ob.lst []] : Sto), Grow.refl _ _, s1.push (b := Ob.lst []) hDa ⟨[], upd_same, RepL.nil⟩, hc⟩, ?_⟩
    rintro i m H' ⟨rfl, hi, ι', S', G', s', h'⟩
    have Gt : Grow ι1 H1 ι' H' := G0.trans G'
    have hE' : RepE K ι' H' (wipe σ vs) (wipeD ρ vs) := hE1.grow Gt
    have eD : ι'[S1.length]? = some Da := getElem?_pre G'.pre (by rw [← s1.len]; simp)
    by_cases hlt : i < ds.length
    · rw [List.drop_eq_getElem_cons hlt] at h'
      unfold compD at h'
      (try unfold ifp at h'); split at h'
      · rename_i hg
        obtain ⟨-, item⟩ := hJ ι' H' S' Gt s' hg
        obtain ⟨go, yl⟩ := item i ds[i] (List.getElem?_eq_some_iff.mpr ⟨hlt, rfl⟩)
        refine .inr ⟨go, fun H2 => ∃ ι2 S2', Grow (ι1 ++ [Da]) (upd H1 Da (.lst [])) ι2 H2 ∧ Sim K ι2 H2 S2' ∧ compD gd T c f S1.length (wipeD ρ vs) (ds.drop (i + 1)) S2' = some S2, fun H2 hh => ⟨ds.length - (i + 1), by omega, rfl, hlt, hh⟩, fun x H2 y => ?_⟩
        obtain ⟨G2, s2, rx⟩ := yl x H2 y
        cases hT : T ds[i] (wipeD ρ vs) S' with
        | none => simp only [hT] at h'; cases h'
        | some q =>
          obtain ⟨ρ1, S3⟩ := q
          simp only [hT] at h'
          obtain ⟨e3, run⟩ := ct.run ι' H2 S' S3 σ _ ρ1 ds[i] x (fun σ2 H2 => wipe σ2 vs = wipe σ vs ∧ rdT K W0 c σ2 H2 fun b H3 =>
            if b = true then rdE K W0 f σ2 H3 fun y H4 => ∃ acc, H4 Da = some (.lst acc) ∧ acc.length < sizeLine ∧ ∃ ι2 S2', Grow (ι1 ++ [Da]) (upd H1 Da (.lst [])) ι2 (upd H4 Da (.lst (acc ++ [y]))) ∧ Sim K ι2 (upd H4 Da (.lst (acc ++ [y]))) S2' ∧ compD gd T c f S1.length (wipeD ρ vs) (ds.drop (i + 1)) S2' = some S2
            else ∃ ι2 S2', Grow (ι1 ++ [Da]) (upd H1 Da (.lst [])) ι2 H3 ∧ Sim K ι2 H3 S2' ∧ compD gd T c f S1.length (wipeD ρ vs) (ds.drop (i + 1)) S2' = some S2) (hE'.grow G2) s2 rx hT
          subst e3
          refine run fun σ2 hw e2 => ⟨hw, ι', ρ1, S3, e2, s2, ?_⟩
          cases hcc : c ρ1 S3 with
          | stuck => simp only [hcc] at h'; cases h'
          | er x S4 => simp only [hcc] at h'; cases h'
          | ok b S4 =>
            simp only [hcc] at h'
            intro ι3 H3 G3 s3
            cases b with
            | false =>
              rw [if_neg (by decide)] at h' ⊢
              exact ⟨ι3, S4, (G'.trans G2).trans G3, s3, h'⟩
            | true =>
              rw [if_pos rfl] at h' ⊢
              refine ⟨ι3, ρ1, S4, e2.grow G3, s3, ?_⟩
              cases hf : f ρ1 S4 with
              | stuck => simp only [hf] at h'; cases h'
              | er x S5 => simp only [hf] at h'; cases h'
              | ok z S5 =>
                simp only [hf] at h'
                intro ι4 H4 G4 s4 v rv
                cases hL : getL S5 S1.length with
                | none => simp only [hL] at h'; cases h'
                | some acc =>
                  simp only [hL] at h'
                  (try unfold ifp at h'); split at h'
                  · rename_i hz
                    have e4 : ι4[S1.length]? = some Da := getElem?_pre G4.pre (getElem?_pre G3.pre eD)
                    obtain ⟨us, h5, h6⟩ := s4.ob _ _ _ e4 (getL_some hL)
                    have G5 : Grow ι4 H4 ι4 (upd H4 Da (.lst (us ++ [v]))) := Grow.put (List.mem_of_getElem? e4) h5 (fun _ _ z => by cases z)
                    refine ⟨us, h5, by rw [← RepL.length _ _ h6]; exact hz, ι4, _, (((G'.trans G2).trans G3).trans G4).trans G5, s4.put (b := .lst (acc ++ [z])) e4 h5 (fun _ _ z => by cases z) ⟨_, upd_same, ?_⟩, h'⟩
                    exact RepL.app _ _ (RepL.grow G5 _ _ h6) _ _ (RepL.one (RepV.grow G5 _ _ rv))
                  · cases h'
      · cases h'
    · have e : i = ds.length := by omega
      subst e
      rw [List.drop_length] at h'
      unfold compD at h'
      (try unfold ifp at h'); split at h'
      · rename_i hg
        cases h'
        obtain ⟨stop, -⟩ := hJ ι' H' S2 Gt s' hg
        exact .inl ⟨stop _ (Nat.le_refl _), hfin K W σ ι1 ι' H1 _ H' S1 S2 Da Q s1 hDa (Grow.upd hDa) (fun b hb => upd_ne hb) s' G' h1⟩
      · cases h'
theorem getElem?_wipe {ρ : Ev} {vs : List Nat} {i : Nat} {d : D} (h : (wipeD ρ vs)[i]? = some (some d)) : i ∉ vs ∧ ρ[i]? = some (some d) := by
  unfold wipeD at h
  rw [List.getElem?_mapIdx] at h
  cases e : ρ[i]? with
  | none => rw [e] at h; cases h
  | some x =>
    rw [e] at h
    simp only [Option.map_some, Option.some.injEq] at h
    by_cases hi : i ∈ vs
    · rw [if_pos hi] at h; cases h
    · rw [if_neg hi] at h; exact ⟨hi, by rw [h]⟩
theorem wipe_get (σ : St) : ∀ (vs : List Nat) (i : Nat), i ∉ vs → (wipe σ vs)[i]? = σ[i]?
  | [], _, _ => rfl
  | v :: vs, i, h => by
    unfold wipe
    rw [List.getElem?_set_ne (fun e => h (by rw [← e]; exact List.mem_cons_self))]
    exact wipe_get σ vs i fun z => h (List.mem_cons_of_mem _ z)
theorem wipe_rep {K : PySem.W.Frag} (vs : List Nat) : ∀ (ι : List Addr) (H : Hp) (σ : St) (ρ : Ev), RepE K ι H σ ρ → RepE K ι H (wipe σ vs) (wipeD ρ vs) := fun ι H σ ρ h => by
  refine ⟨by rw [wipe_length]; simp [wipeD, h.1], fun i d e => ?_⟩
  obtain ⟨hi, e⟩ := getElem?_wipe e
  obtain ⟨v, e', r⟩ := h.2 i d e
  exact ⟨v, by rw [wipe_get σ vs i hi]; exact e', r⟩
theorem ct_name {K : PySem.W.Frag} (i : Nat) : CT K [i] (gName i) (tN i) where
  wipeE := wipe_rep [i]
  run := fun ι H S S' σ ρ ρ' d v Q hE s r e => by
    cases e
    refine ⟨rfl, fun h => ?_⟩
    refine h ((wipe σ [i]).set i (some v)) ?_ (hE.set r i)
    simp [wipe]
theorem ct_pair {K : PySem.W.Frag} (i j : Nat) (hij : i ≠ j) : CT K [i, j] (gTup K 2 (gCons (gName i) (gCons (gName j) gNil))) (tTup 2 (tCons (tN i) (tCons (tN j) tNil))) where
  wipeE := wipe_rep [i, j]
  run := fun ι H S S' σ ρ ρ' d v Q hE s r e => by
    cases d with
    | tup ds =>
      match ds, r, e with
      | [a, b], r, e =>
        have e : some ((ρ.set i (some a)).set j (some b), S) = some (ρ', S') := e
        cases e
        refine ⟨rfl, fun h => ?_⟩
        obtain ⟨p, vs, rfl, q, rl⟩ := tup_at r
        obtain ⟨x, y, rfl, rx, ry⟩ := RepL.two_inv rl
        refine ⟨p, [x, y], rfl, q, rfl, x, [y], rfl, y, [], rfl, rfl, ?_⟩
        refine h _ ?_ ((hE.set rx i).set ry j)
        apply List.ext_getElem?
        intro k
        simp only [wipe, List.getElem?_set]
        by_cases h1 : i = k <;> by_cases h2 : j = k <;> simp [h1, h2]
      | [], r, e => cases e
      | [_], r, e => cases e
      | _ :: _ :: _ :: _, r, e => simp [tTup] at e
    | _ => cases e
theorem de_lc {fin : Sto → Sto → R D} {elt tg iter : Expr} {ifs : List Expr} {scope : Scope} {own : List (Str × Nat)} {src : Ev → Sto → R Src} {g : TG} {T : Tg} {c : Ev → Sto → R Bool} {f : Ev → Sto → R D} (hfin : FinOk fin) (ct : CT X.K (own.map (·.2)) g T) (hc : X.calm = true) (hN : X.N.Nodup) (hi : DI X W tg iter src) (ok : BlkOk X.N X.env.scope scope own)
    (hg : ∀ (s : Shared) (H : Hp) (C : Addr) (cl : List (Str × Addr)) (fp : List Addr), PG (X.blk s H scope (compEnvC scope cl C X.env) fp) tg g) (ht : ∀ (s : Shared) (H : Hp) (C : Addr) (cl : List (Str × Addr)) (fp : List Addr), PTs (X.blk s H scope (compEnvC scope cl C X.env) fp) ifs (rdT X.K W0 c))
    (he : ∀ (s : Shared) (H : Hp) (C : Addr) (cl : List (Str × Addr)) (fp : List Addr), DE (X.blk s H scope (compEnvC scope cl C X.env) fp) W0 elt f) (hs : ∀ x, foldedSetIterable iter X.env x = pure x := by intro _; rfl) :
    DE X W (.ListComp elt [⟨tg, iter, ifs, 0⟩] scope pos) (eLc fin src T (own.map (·.2)) c f) := PE.imp (pe_lc hc hN hi ok hg ht he hs) (lc_read hfin ct)
/-- name = [..] -/
theorem ds_setLc (i : Nat) {y : Str} {py spos : Pos} {fin : Sto → Sto → R D} {elt tg iter : Expr} {ifs : List Expr} {scope : Scope} {own : List (Str × Nat)} {src : Ev → Sto → R Src} {g : TG} {T : Tg} {c : Ev → Sto → R Bool} {f : Ev → Sto → R D} (hfin : FinOk fin) (ct : CT X.K (own.map (·.2)) g T) (hc : X.calm = true) (hN : X.N.Nodup) (hi : DI X W tg iter src) (ok : BlkOk X.N X.env.scope scope own)
    (hg : ∀ (s : Shared) (H : Hp) (C : Addr) (cl : List (Str × Addr)) (fp : List Addr), PG (X.blk s H scope (compEnvC scope cl C X.env) fp) tg g) (ht : ∀ (s : Shared) (H : Hp) (C : Addr) (cl : List (Str × Addr)) (fp : List Addr), PTs (X.blk s H scope (compEnvC scope cl C X.env) fp) ifs (rdT X.K W0 c))
    (he : ∀ (s : Shared) (H : Hp) (C : Addr) (cl : List (Str × Addr)) (fp : List Addr), DE (X.blk s H scope (compEnvC scope cl C X.env) fp) W0 elt f) (hy : X.N[i]? = some y := by rfl) (hyl : X.env.scope.names.lookup y = some .local := by rfl)
    (hsw : swapsWith (.ListComp elt [⟨tg, iter, ifs, 0⟩] scope pos) (some (.Name y py)) spos.line X.env = pure true := by exact sw_true rfl rfl rfl (by decide +kernel)) (hs : ∀ x, foldedSetIterable iter X.env x = pure x := by intro _; rfl) :
    DS X W (.Assign [.Name y py] (.ListComp elt [⟨tg, iter, ifs, 0⟩] scope pos) spos) (sSet i (eLc fin src T (own.map (·.2)) c f)) :=
  PS.imp (ps_setLc hc hN hy hyl hsw hi ok hg ht he hs) fun E σ H q => by
    obtain ⟨ι, ρ, S, hE, hS, h⟩ := q
    refine lc_read (W := W) hfin ct σ H _ ⟨ι, ρ, S, hE, hS, (PostS.bind h hE).mono fun d S1 ι1 H1 G1 s1 h1 v rv => ?_⟩
    exact h1 ι1 H1 _ (Grow.refl _ _) s1 ((hE.grow G1).set rv i)
theorem dts_nil : PTs X [] (rdT X.K W0 cYes) := ⟨fun pins s σ H Q I ⟨ι, ρ, S, hE, hS, h⟩ => pts_nil.run pins s σ H Q I (h.here hS)⟩
theorem dts_one {c : Expr} {t : Ev → Sto → R Bool} (h : DT X W0 c t) : PTs X [c] (rdT X.K W0 t) := pts_one h
end
end DL
namespace DL
open PySem PySem.Spec L2
open PyProof.Rows hiding St
abbrev Fn := List D → Sto → R D
def PostX (K : PySem.W.Frag) (E : XK) (ι : List Addr) (H : Hp) (r : R D) (Q : VK) : Prop := match r with
  | .ok d S' => ∀ ι' H' v, Grow ι H ι' H' → Sim K ι' H' S' → RepV K ι' H' d v → Q v H'
  | .er e S' => ∀ ι' H' cls dd, Grow ι H ι' H' → Sim K ι' H' S' → RepX K ι' H' e cls dd → E cls dd H'
  | .stuck => False
def spD (K : PySem.W.Frag) (F : Fn) : Sp := fun vs H Q E => ∃ ι S ds, RepL K ι H ds vs ∧ Sim K ι H S ∧ PostX K E ι H (F ds S) Q
/-- the def at f does what F says, called by position -/
def FnD (gd : Bool) (P : Program) (w : World) (K : PySem.W.Frag) (mg : Str → Option Value) (base : Heap) (k : Nat) (f : Addr) (F : Fn) : Prop :=
  ∀ (A : Around) (outer : List Env) (s : Shared) (H : Hp) (us : List Value) (vs : List V) (Q : VK) (E : XK), Room k A → (gd = true → A.guards = some []) → Env0 P w K mg base A outer s H → Vals vs us → spD K F vs H Q E →
    codeAny (model P w) A (.call (.ref f) ⟨us, []⟩) (CR (L2.CX P w) outer P w H s Q E) s
theorem FnD.mono {gd : Bool} {P : Program} {w : World} {K : PySem.W.Frag} {mg : Str → Option Value} {base : Heap} {j k : Nat} {f : Addr} {F : Fn} (h : FnD gd P w K mg base j f F) (hj : j ≤ k) : FnD gd P w K mg base k f F :=
  fun A outer s H us vs Q E hr => h A outer s H us vs Q E (hr.mono hj)
open Classical in
noncomputable def close (S : Sto) (d : D) (S' : Sto) : R D :=
  if S'.length = S.length then .ok d S' else if Trunc S S' ∧ low S.length d = true then .ok d (S'.take S.length) else match d with
    | .loc m => (match getL S' m with
      | some ds => if Trunc S S' ∧ lowL S.length ds = true then .ok (.fl ds) (S'.take S.length) else .stuck
      | none => .stuck)
    | _ => .stuck
open Classical in
noncomputable def closeE (S : Sto) (e : Ex) (S' : Sto) : R D := if S'.length = S.length then .er e S' else if Trunc S S' ∧ lowF S.length e.fs = true then .er e (S'.take S.length) else .stuck
/-- nothing is dropped -/
def closeK (_ : Sto) (d : D) (S' : Sto) : R D := .ok d S'
def ClOk (cl : Sto → D → Sto → R D) : Prop := ∀ (K : PySem.W.Frag) (E : XK) (ι ι' : List Addr) (H H' : Hp) (S S' : Sto) (d : D) (v : V) (Q : VK), Sim K ι H S → Sim K ι' H' S' → Grow ι H ι' H' → RepV K ι' H' d v → PostX K E ι H (cl S d S') Q → Q v H'
theorem cl_keep : ClOk closeK := fun K E ι ι' H H' S S' d v Q s s' G r h => h ι' H' v G s' r
theorem cl_drop : ClOk close := fun K E ι ι' H H' S S' d v Q s s' G r h => by
  unfold close at h
  split at h
  · exact h ι' H' v G s' r
  · rename_i hl
    split at h
    · rename_i hh
      obtain ⟨s2, G2⟩ := s.trunc s' G hh.1
      exact h ι H' v G2 s2 (RepV.trunc s G r hh.2)
    · rename_i hlow
      split at h
      · rename_i m
        split at h
        · rename_i ds hd
          split at h
          · rename_i hh
            obtain ⟨s2, G2⟩ := s.trunc s' G hh.1
            refine h ι H' v G2 s2 ?_
            rw [RepV] at r
            obtain ⟨a, ea, rfl⟩ := r
            obtain ⟨vs, h1, h2⟩ := s'.ob _ _ _ ea (getL_some hd)
            have hm : ¬ m < S.length := fun z => hlow ⟨hh.1, by simpa [low] using z⟩
            rw [RepV]
            refine ⟨a, vs, rfl, ⟨fun z => ?_, h1⟩, RepL.trunc s G h2 hh.2⟩
            obtain ⟨n, hn, en⟩ := List.mem_iff_getElem.mp z
            have e1 : ι'[n]? = some a := getElem?_pre G.pre (List.getElem?_eq_some_iff.mpr ⟨hn, en⟩)
            obtain ⟨q1, q2⟩ := List.getElem?_eq_some_iff.mp e1
            obtain ⟨q3, q4⟩ := List.getElem?_eq_some_iff.mp ea
            have : n = m := (List.getElem_inj s'.nd).mp (q2.trans q4.symm)
            rw [← s.len] at hm
            omega
          · exact h.elim
        · exact h.elim
      · exact h.elim
theorem cl_err {K : PySem.W.Frag} {E : XK} {ι ι' : List Addr} {H H' : Hp} {S S' : Sto} {e : Ex} {cls : Value} {dd : Option Addr} {Q : VK} (s : Sim K ι H S) (s' : Sim K ι' H' S') (G : Grow ι H ι' H') (r : RepX K ι' H' e cls dd) (h : PostX K E ι H (closeE S e S') Q) : E cls dd H' := by
  unfold closeE at h
  split at h
  · exact h ι' H' cls dd G s' r
  · split at h
    · rename_i hh
      obtain ⟨s2, G2⟩ := s.trunc s' G hh.1
      refine h ι H' cls dd G2 s2 ⟨r.1, ?_⟩
      rcases r.2 with r2 | ⟨a, vs, e1, e2, e3, e4⟩
      · exact .inl r2
      · refine .inr ⟨a, vs, e1, fun z => e2 ?_, e3, RepF.trunc s G e4 hh.2⟩
        obtain ⟨t, rfl⟩ := G.pre
        exact List.mem_append_left _ z
    · exact h.elim
def startD (n : Nat) (ds : List D) : Ev := ds.map some ++ List.replicate (n - ds.length) none
noncomputable def fnC (cl : Sto → D → Sto → R D) (n : Nat) (m : Nat) (B : Ev → Sto → SR) : Fn := fun ds S => if ds.length = m then (match B (startD n ds) S with
  | .nx _ S' => cl S .non S'
  | .rt d S' => cl S d S'
  | .er e _ S' => closeE S e S'
  | _ => .stuck) else .stuck
theorem start_rep {K : PySem.W.Frag} {ι : List Addr} {H : Hp} {ds : List D} {vs : List V} (N : List Str) (r : RepL K ι H ds vs) : RepE K ι H (start N vs) (startD N.length ds) := by
  have hl := RepL.length _ _ r
  refine ⟨by simp [L2.start, startD, hl], fun i d e => ?_⟩
  unfold startD at e
  by_cases hi : i < ds.length
  · rw [List.getElem?_append_left (by simpa using hi), List.getElem?_map] at e
    cases q : ds[i]? with
    | none => rw [q] at e; cases e
    | some x =>
      rw [q] at e; cases e
      obtain ⟨v, hv, rv⟩ := RepL.get _ _ r i d q
      refine ⟨v, ?_, rv⟩
      unfold L2.start
      rw [List.getElem?_append_left (by simp [← hl]; exact hi), List.getElem?_map, hv]
      rfl
  · rw [List.getElem?_append_right (by simpa using hi), List.getElem?_replicate] at e
    split at e <;> cases e
/-- how the body's reading gives the def's -/
theorem body_read {K : PySem.W.Frag} {cl : Sto → D → Sto → R D} (hcl : ClOk cl) {N : List Str} {m : Nat} {B : Ev → Sto → SR} {vs : List V} {H : Hp} {Q : VK} {E : XK} (h : spD K (fnC cl N.length m B) vs H Q E) :
    vs.length = m ∧ rdS K (fun cls d _ H' => E cls d H') B { nx := fun _ H' => Q .non H', rt := Q } (start N vs) H := by
  obtain ⟨ι, S, ds, rl, s, h⟩ := h
  unfold fnC at h
  split at h
  · rename_i hm
    refine ⟨by rw [← RepL.length _ _ rl]; exact hm, ι, startD N.length ds, S, start_rep N rl, s, ?_⟩
    cases hB : B (startD N.length ds) S with
    | nx ρ S' => simp only [hB] at h; exact fun ι' H' σ' G s' e => hcl K E ι ι' H H' S S' .non .non Q s s' G non_rep h
    | rt d S' => simp only [hB] at h; exact fun ι' H' v G s' r => hcl K E ι ι' H H' S S' d v Q s s' G r h
    | er e ρ S' => simp only [hB] at h; exact fun ι' H' σ' cls dd G s' _ r => cl_err s s' G r h
    | bk ρ S' => simp only [hB] at h; exact h.elim
    | ct ρ S' => simp only [hB] at h; exact h.elim
    | stuck => simp only [hB] at h; exact h.elim
  · exact h.elim
section
variable {gd : Bool} {P : Program} {w : World} {K : PySem.W.Frag} {mg : Str → Option Value} {base : Heap} {k : Nat} {f : Addr} {fd : FuncData} {N ps : List Str}
/-- a def by its body -/
theorem fnD_of {x qual : Str} {st : Stmt} {cl : Sto → D → Sto → R D} {B : Ev → Sto → SR} (F : Fun K x qual st f fd) (sc : FnScope N ps (defScope st)) (hb : Binds K fd ps []) (hcl : ClOk cl)
    (hbody : ∀ (cdv : Value) (A : Around) (outer : List Env) (s : Shared) (H : Hp) (E : XK), Room k (A.deeper (envOfC qual (defScope st) s.heap.objs.size f cdv)) → (gd = true → A.guards = some []) →
      Takes (cxOf (L2.CX P w) P w K mg base N qual (defScope st) f cdv A outer s H E) (fun cls d _ H' => E cls d H') →
      PassesOwn (model P w) (A.deeper (envOfC qual (defScope st) s.heap.objs.size f cdv)) (envOfC qual (defScope st) s.heap.objs.size f cdv) (cxOf (L2.CX P w) P w K mg base N qual (defScope st) f cdv A outer s H E).xe →
      DSs (cxOf (L2.CX P w) P w K mg base N qual (defScope st) f cdv A outer s H E) (fun cls d _ H' => E cls d H') (defBody st) B) : FnD gd P w K mg base (k + 1) f (fnC cl N.length ps.length B) := by
  intro A outer s H us vs Q E hr hgd e0 rv hsp
  obtain ⟨oc, od, kV, doc, pm, an, cdv, ct, osl, efd, lk, hcd⟩ := F.ex
  obtain ⟨hl, rd⟩ := body_read (N := N) hcl hsp
  have hlu : us.length = ps.length := by rw [← rv.length]; exact hl
  have kept : ∀ b o, base.get? b = some o → s.heap.get? b = some o := fun b o e => (e0.bs b o e).1
  have KX : K.In s.heap := e0.mod.kin.keeps kept
  have bd := hb s us KX (by rw [List.append_nil]; exact hlu)
  rw [List.append_nil, efd] at bd
  rw [efd] at lk
  have hkind : ∀ y ∈ ps.zip us, (defScope st).names.lookup y.1 = some .local ∨ ((defScope st).names.lookup y.1 = some .cell ∧
      ((cellsFrom (s.heap.objs.size + 1) (defScope st).names []).lookup y.1).isSome = true) := by
    rintro ⟨n, v⟩ hy
    exact (sc.par n (List.of_mem_zip hy).1).imp id fun q => ⟨q, PySem.W.cellsFrom_some _ _ _ (.inl q)⟩
  refine codeAny_call_function hr.depth (KX _ _ lk) rfl sc.co sc.gen rfl
    (PySem.W.codeRec_of KX hcd) (bd _ _ _ _ (wpAny_newFunctionEnv_cells sc.kind hkind fun env he s1 ic => ?_))
  subst he
  refine ⟨(e0.mod.nolimit.keeps kept).keeps ic.toInCall.keep, codeAny_func ?_⟩
  have I := inv_start (CX := L2.CX P w) (P := P) (w := w) (E := E) sc hr.hd e0 hl rv ic
  have body := hbody cdv A outer s H E (hr.deeper _) hgd (takes_of rfl rfl rfl rfl) (passes_of rfl)
  refine wpAny_mono (body.run [] s1 (start N vs) H _ I rd) (fun fl s' hs => ?_) fun e s' hs => hs
  cases fl with
  | ret u =>
    obtain ⟨v, σ', H', J, r', q⟩ := hs
    exact ⟨v, H', J.os, J.bare, J.base, J.hok, r', q⟩
  | next =>
    obtain ⟨σ', H', J, q⟩ := hs
    exact ⟨V.non, H', J.os, J.bare, J.base, J.hok, rfl, q⟩
  | brk => obtain ⟨_, _, _, q⟩ := hs; exact False.elim q
  | cont => obtain ⟨_, _, _, q⟩ := hs; exact False.elim q
end
def eCall (F : Fn) (g : Ev → Sto → R (List D)) : Ev → Sto → R D := fun ρ S => (g ρ S).bind fun ds S1 => F ds S1
theorem PostX.of {K : PySem.W.Frag} {W : WX} {σ : St} {ι : List Addr} {H : Hp} {r : R D} {Q : VK} (h : Post K W σ ι H r fun d _ ι' H' => ∀ v, RepV K ι' H' d v → Q v H') : PostX K (WE W σ) ι H r Q := by
  cases r with
  | ok d S => exact fun ι' H' v G s r => h ι' H' G s v r
  | er e S => exact h
  | stuck => exact h
section
variable {X : Cx} {W : WX} {gd : Bool} {k : Nat} {f : Addr} {F : Fn} {x : Str} {p pos : Pos} {e : Expr} {es : List Expr} {g : Ev → Sto → R (List D)}
theorem run_fnD {pins : List (Addr × Obj)} {σ : St} {H : Hp} {s : Shared} {Q : VK} {us : List Value} {vs : List V} (hF : FnD gd X.prog X.w X.K X.mg X.base k f F) (hr : Room k X.A) (hG : gd = true → X.A.guards = some []) (tk : Takes X W)
    (I : Inv X pins σ H s) (r : Vals vs us) (h : spD X.K F vs H Q (WE W σ)) : wpAny (model X.prog X.w) X.A (call (.ref f) us) (EP X pins σ Q) X.xe s := by
  refine wpAny_call (codeAny_mono (hF X.A X.stack s H us vs Q (WE W σ) hr hG I.env0 r h) fun res s' hq => ?_)
  cases res with
  | error er => exact passAt tk σ pins H s er s' I hq
  | ok fl =>
    cases fl with
    | ret u => exact I.after hq
    | next => exact False.elim hq
    | brk => exact False.elim hq
    | cont => exact False.elim hq
theorem de_callD (hF : FnD gd X.prog X.w X.K X.mg X.base k f F) (hr : Room k X.A) (hG : gd = true → X.A.guards = some []) (tk : Takes X W) (hm : X.mg x = some (.ref f)) (hk : PySem.W.keepIn X.K (.ref f) = true) (ha : DA X W (e :: es) g) (hg : Gl X x := by rfl) (hdb : (x == ("__debug__" : Str)) = false := by decide)
    (he : starEach (e :: es) X.env = (false, eval e X.env) :: starEach es X.env := by rfl) (hpl : (backTo pos (starEach es X.env)).any (·.1) = false := by rfl) : DE X W (.Call (.Name x p) (e :: es) [] pos) (eCall F g) := by
  refine ⟨fun pins s σ H Q I ⟨ι, ρ, S, hE, hS, h⟩ => ?_⟩
  refine wpAny_Call_Name_kw (ld_glob I hg hm ?_ hdb)
  have rd : rdA X.K W g σ H fun vs H1 => spD X.K F vs H1 Q (WE W σ) := ⟨ι, ρ, S, hE, hS, (Post.bind h).mono fun ds S1 ι1 H1 G1 s1 h1 vs rs => ⟨ι1, S1, ds, rs, s1, PostX.of h1⟩⟩
  exact PySem.W.callWith_K (h₀ := X.base) I.ok.mod.kin hk (thn (ha.run pos pins s σ H _ I rd) fun us s1 ⟨vs, H1, I1, r1, q1⟩ => ⟨I1.kIn, run_fnD hF hr hG tk I1 r1 q1⟩) he hpl
end
end DL
namespace DL
open PySem PySem.Spec L2
open PyProof.Rows hiding St
def CallK (K : PySem.W.Frag) (r : List V → Hp → VK → Prop) (b : Fn) : Prop := ∀ (W : WX) (σ : St) (ι : List Addr) (H : Hp) (S : Sto) (vs : List V) (ds : List D) (Q : VK), Sim K ι H S → RepL K ι H ds vs →
  Post K W σ ι H (b ds S) (fun d _ ι' H' => ∀ v, RepV K ι' H' d v → Q v H') → r vs H Q
theorem CallR.or {X : Cx} {f : Value} {r r' : List V → Hp → VK → Prop} (h : CallR X f r) (h' : CallR X f r') : CallR X f (fun vs H Q => r vs H Q ∨ r' vs H Q) := by
  intro pins s σ H vs us Q I rv q
  rcases q with q | q
  · exact h pins s σ H vs us Q I rv q
  · exact h' pins s σ H vs us Q I rv q
section
variable {X : Cx} {W : WX} {x : Str} {p pos : Pos} {e : Expr} {es : List Expr} {g : Ev → Sto → R (List D)} {id T : String} {r : List V → Hp → VK → Prop} {b : Fn}
theorem cb_read {K : PySem.W.Frag} (k : CallK K r b) : ∀ σ H Q, rdE K W (eCall b g) σ H Q → tCB r (rdA K W g) σ H Q := fun σ H Q ⟨ι, ρ, S, hE, hS, h⟩ =>
  ⟨ι, ρ, S, hE, hS, (Post.bind h).mono fun ds S1 ι1 H1 G1 s1 h1 vs rs => k W σ ι1 H1 S1 vs ds Q s1 rs h1⟩
theorem de_callB (hc : CallR X (.builtin id) r) (k : CallK X.K r b) (hm : X.mg x = none) (hv : bootBuiltins x = some (.builtin id)) (ha : DA X W (e :: es) g) (hg : Gl X x := by rfl) (hn : x ≠ "__name__" := by decide) (hdb : (x == ("__debug__" : Str)) = false := by decide)
    (he : starEach (e :: es) X.env = (false, eval e X.env) :: starEach es X.env := by rfl) (hpl : (backTo pos (starEach es X.env)).any (·.1) = false := by rfl) : DE X W (.Call (.Name x p) (e :: es) [] pos) (eCall b g) :=
  PE.imp (pe_callB hc hg hm hv ha hn hdb he hpl) (cb_read k)
theorem de_callTy (hc : CallR X (.type T) r) (k : CallK X.K r b) (hm : X.mg x = none) (hv : bootBuiltins x = some (.type T)) (ha : DA X W (e :: es) g) (hg : Gl X x := by rfl) (hn : x ≠ "__name__" := by decide) (hdb : (x == ("__debug__" : Str)) = false := by decide)
    (he : starEach (e :: es) X.env = (false, eval e X.env) :: starEach es X.env := by rfl) (hpl : (backTo pos (starEach es X.env)).any (·.1) = false := by rfl) : DE X W (.Call (.Name x p) (e :: es) [] pos) (eCall b g) :=
  PE.imp (pe_callTy hc hg hm hv ha hn hdb he hpl) (cb_read k)
end
section
variable {X : Cx} {K : PySem.W.Frag}
noncomputable def bLen : Fn := fun ds S => match ds with
  | [.str z] => ifp (z.length ≤ sizeLine) (.ok (.int z.length) S) .stuck
  | [d] => (match seqOf S d with
    | some xs => .ok (.int xs.length) S
    | none => .stuck)
  | _ => .stuck
theorem c_len : CallR X (.builtin "len") (fun xs H Q => (∃ z, xs = [.str z] ∧ z.length ≤ sizeLine ∧ Q (.int z.length) H) ∨ ∃ p ys, xs = [.ref p] ∧ (SqL X.K H p ys ∨ SqT X.K H p ys) ∧ Q (.int ys.length) H) := CallR.or call_len_str call_len_seq
theorem k_len : CallK K (fun xs H Q => (∃ z, xs = [.str z] ∧ z.length ≤ sizeLine ∧ Q (.int z.length) H) ∨ ∃ p ys, xs = [.ref p] ∧ (SqL K H p ys ∨ SqT K H p ys) ∧ Q (.int ys.length) H) bLen := by
  intro W σ ι H S vs ds Q s rl h
  unfold bLen at h
  (try unfold ifp at h); split at h
  · obtain ⟨v, rfl, rv⟩ := RepL.one_inv rl
    (try unfold ifp at h); split at h
    · rename_i hz
      exact .inl ⟨_, by rw [str_at rv], hz, h.here s _ int_rep⟩
    · exact h.elim
  · obtain ⟨v, rfl, rv⟩ := RepL.one_inv rl
    (try unfold ifp at h); split at h
    · rename_i xs hx
      obtain ⟨p, vs, rfl, q, rq⟩ := seq_at s rv hx
      refine .inr ⟨p, vs, rfl, q, ?_⟩
      rw [← RepL.length _ _ rq]
      exact h.here s _ int_rep
    · exact h.elim
  · exact h.elim
def bAbs : Fn := fun ds S => match ds with
  | [.int i] => .ok (.int (if i < 0 then -i else i)) S
  | _ => .stuck
theorem k_abs : CallK K (fun xs H Q => ∃ i, xs = [.int i] ∧ Q (.int (if i < 0 then -i else i)) H) bAbs := by
  intro W σ ι H S vs ds Q s rl h
  unfold bAbs at h
  (try unfold ifp at h); split at h
  · obtain ⟨v, rfl, rv⟩ := RepL.one_inv rl
    exact ⟨_, by rw [int_at rv], h.here s _ int_rep⟩
  · exact h.elim
def intsOf : List D → Option (List Int)
  | [] => some []
  | .int i :: ds => (intsOf ds).map fun is => i :: is
  | _ => none
theorem intsOf_rep {ι : List Addr} {H : Hp} : ∀ (ds : List D) (vs : List V) (is : List Int), RepL K ι H ds vs → intsOf ds = some is → vs = is.map V.int
  | [], vs, is, r, e => by rw [RepL] at r; cases e; subst r; rfl
  | d :: ds, vs, is, r, e => by
    rw [RepL] at r
    obtain ⟨v, us, rfl, a, b⟩ := r
    cases d with
    | int i =>
      have e : (intsOf ds).map (fun is => i :: is) = some is := e
      cases h : intsOf ds with
      | none => rw [h] at e; cases e
      | some js =>
        rw [h] at e; cases e
        rw [int_at a, intsOf_rep ds us js b h]; rfl
    | _ => cases e
theorem intsOf_map (is : List Int) : intsOf (is.map D.int) = some is := by
  induction is with
  | nil => rfl
  | cons i is ih => simp [intsOf, ih]
def maxL : List Int → Int
  | [] => 0
  | i :: is => is.foldl max i
def minL : List Int → Int
  | [] => 0
  | i :: is => is.foldl min i
def bMax : Fn := fun ds S => match ds with
  | [.int i, .int j] => .ok (.int (max i j)) S
  | [d] => (match (lstOf S d).bind intsOf with
    | some is => if is = [] then .stuck else .ok (.int (maxL is)) S
    | none => .stuck)
  | _ => .stuck
def bMin : Fn := fun ds S => match ds with
  | [.int i, .int j] => .ok (.int (min i j)) S
  | [d] => (match (lstOf S d).bind intsOf with
    | some is => if is = [] then .stuck else .ok (.int (minL is)) S
    | none => .stuck)
  | _ => .stuck
theorem foldl_max_ge (l : List Int) : ∀ i : Int, i ≤ l.foldl max i ∧ ∀ x ∈ l, x ≤ l.foldl max i := by
  induction l with
  | nil => intro i; simp
  | cons a l ih =>
    intro i
    obtain ⟨h1, h2⟩ := ih (max i a)
    refine ⟨by simp only [List.foldl_cons]; omega, fun x hx => ?_⟩
    simp only [List.foldl_cons]
    rcases List.mem_cons.mp hx with rfl | hx
    · omega
    · exact h2 x hx
theorem foldl_max_mem (l : List Int) : ∀ i : Int, l.foldl max i = i ∨ l.foldl max i ∈ l := by
  induction l with
  | nil => intro i; simp
  | cons a l ih =>
    intro i
    simp only [List.foldl_cons]
    rcases ih (max i a) with h | h
    · rw [h]
      by_cases hia : i ≤ a
      · exact .inr (by rw [Int.max_eq_right hia]; exact List.mem_cons_self)
      · exact .inl (by omega)
    · exact .inr (List.mem_cons_of_mem _ h)
theorem maxL_spec {is : List Int} (h : is ≠ []) : maxL is ∈ is ∧ ∀ x ∈ is, x ≤ maxL is := by
  cases is with
  | nil => exact absurd rfl h
  | cons i l =>
    obtain ⟨h1, h2⟩ := foldl_max_ge l i
    refine ⟨?_, fun x hx => ?_⟩
    · rcases foldl_max_mem l i with e | e
      · show l.foldl max i ∈ i :: l
        rw [e]; exact List.mem_cons_self
      · exact List.mem_cons_of_mem _ e
    · rcases List.mem_cons.mp hx with rfl | hx
      · exact h1
      · exact h2 x hx
theorem lst_ints {ι : List Addr} {H : Hp} {S : Sto} {d : D} {v : V} {is : List Int} (s : Sim K ι H S) (r : RepV K ι H d v) (e : (lstOf S d).bind intsOf = some is) : ∃ p, v = .ref p ∧ SqL K H p (is.map V.int) := by
  cases h : lstOf S d with
  | none => rw [h] at e; cases e
  | some ds =>
    rw [h] at e
    obtain ⟨p, vs, rfl, q, rl⟩ := lst_at s r h
    rw [intsOf_rep _ _ _ rl e] at q
    exact ⟨p, rfl, SqL.of q⟩
theorem c_max (hc : X.calm = true) : CallR X (.builtin "max") (fun xs H Q => (∃ i j, xs = [.int i, .int j] ∧ Q (.int (if j > i then j else i)) H) ∨ rMax X.K xs H Q) := CallR.or (call_max2 hc) (cr_max hc)
theorem k_max : CallK K (fun xs H Q => (∃ i j, xs = [.int i, .int j] ∧ Q (.int (if j > i then j else i)) H) ∨ rMax K xs H Q) bMax := by
  intro W σ ι H S vs ds Q s rl h
  unfold bMax at h
  (try unfold ifp at h); split at h
  · rename_i i j
    obtain ⟨v, u, rfl, rv, ru⟩ := RepL.two_inv rl
    refine .inl ⟨i, j, by rw [int_at rv, int_at ru], ?_⟩
    have : (if j > i then j else i) = max i j := by split <;> omega
    rw [this]
    exact h.here s _ int_rep
  · obtain ⟨v, rfl, rv⟩ := RepL.one_inv rl
    (try unfold ifp at h); split at h
    · rename_i is hi
      (try unfold ifp at h); split at h
      · exact h.elim
      · rename_i hne
        obtain ⟨p, rfl, q⟩ := lst_ints s rv hi
        obtain ⟨m1, m2⟩ := maxL_spec hne
        refine .inr ⟨p, is, rfl, q, List.length_pos_iff.mpr hne, fun m hm hle => ?_⟩
        have : m = maxL is := by have := hle _ m1; have := m2 _ hm; omega
        rw [this]
        exact h.here s _ int_rep
    · exact h.elim
  · exact h.elim
end
section
variable {X : Cx} {W : WX} {pos : Pos} {a b c : Expr}
def eNeg (f : Ev → Sto → R D) : Ev → Sto → R D := fun ρ S => (f ρ S).bind fun d S1 => (iOf d S1).bind fun i S2 => .ok (.int (-i)) S2
def eChain (o o' : D → D → Sto → R D) (f g h : Ev → Sto → R D) : Ev → Sto → R D := fun ρ S => (f ρ S).bind fun x S1 => (g ρ S1).bind fun y S2 => (o x y S2).bind fun z S3 => (bOf z S3).bind fun k S4 => if k = true then (h ρ S4).bind fun w S5 => o' y w S5 else .ok (.bl false) S4
end
end DL
namespace DL
open PySem PySem.Spec L2
open PyProof.Rows hiding St
abbrev Mt := D → List D → Sto → R D
def MtK (K : PySem.W.Frag) (r : V → List V → Hp → VK → Prop) (m : Mt) : Prop := ∀ (W : WX) (σ : St) (ι : List Addr) (H : Hp) (S : Sto) (x : V) (vs : List V) (a : D) (ds : List D) (Q : VK), Sim K ι H S → RepV K ι H a x → RepL K ι H ds vs →
  Post K W σ ι H (m a ds S) (fun d _ ι' H' => ∀ v, RepV K ι' H' d v → Q v H') → r x vs H Q
def isLst (S : Sto) (d : D) : Bool := (lstOf S d).isSome
def eMt (c : Sto → D → Bool) (m : Mt) (f : Ev → Sto → R D) (g : Ev → Sto → R (List D)) : Ev → Sto → R D := fun ρ S => (f ρ S).bind fun a S1 => if c S1 a = true then (g ρ S1).bind fun ds S2 => m a ds S2 else .stuck
def ChkOk (T : String) (c : Sto → D → Bool) : Prop := ∀ (K : PySem.W.Frag) (ι : List Addr) (H : Hp) (S : Sto) (d : D) (x : V), Sim K ι H S → RepV K ι H d x → c S d = true → tyV K T x H
theorem chk_lst : ChkOk "list" isLst := fun K ι H S d x s r h => by
  unfold isLst at h
  cases e : lstOf S d with
  | none => rw [e] at h; cases h
  | some ds =>
    obtain ⟨p, vs, rfl, q, _⟩ := lst_at s r e
    exact .inl ⟨rfl, vs, SqL.of q⟩
section
variable {X : Cx} {W : WX} {o e : Expr} {es : List Expr} {apos cpos : Pos} {T id : String} {name : Str} {r : V → List V → Hp → VK → Prop} {c : Sto → D → Bool} {m : Mt} {f : Ev → Sto → R D} {g : Ev → Sto → R (List D)}
theorem de_bm (pa : PlainAttrs T) (slot : Slot T name id) (hty : typeOf (.builtin id) = pure (.type "method_descriptor")) (hm : MtR X id r) (k : MtK X.K r m) (hc : ChkOk T c) (ho : DE X W o f) (ha : DA X W (e :: es) g)
    (hbase : attributeBase o name X.env (eval o X.env) = eval o X.env := by rfl)
    (hfew : ((backTo cpos (starEach (e :: es) X.env)).all (fun x => !x.1) && (backToKw cpos (keywordEach [] X.env)).all (fun x => x.1.isSome)
      && decide ((e :: es).length + ([] : List Keyword).length + (if ([] : List Keyword).isEmpty then 0 else 1) < 30)) = true := by rfl)
    (hline : (apos.endLine == cpos.line) = true := by rfl) (hs : starEach (e :: es) X.env = (false, eval e X.env) :: starEach es X.env := by rfl)
    (hplain : (backTo cpos (starEach es X.env)).any (·.1) = false := by rfl) : DE X W (.Call (.Attribute o name apos) (e :: es) [] cpos) (eMt c m f g) := by
  refine PE.imp (pe_bm pa slot hty hm ho ha hbase hfew hline hs hplain) fun σ H Q ⟨ι, ρ, S, hE, hS, h⟩ => ⟨ι, ρ, S, hE, hS, (Post.bind h).mono fun a S1 ι1 H1 G1 s1 h1 x rx => ?_⟩
  (try unfold ifp at h1); split at h1
  · rename_i hh
    refine ⟨hc _ _ _ _ _ _ s1 rx hh, ι1, ρ, S1, hE.grow G1, s1, (Post.bind h1).mono fun ds S2 ι2 H2 G2 s2 h2 vs rs => ?_⟩
    exact k W σ ι2 H2 S2 x vs a ds Q s2 (RepV.grow G2 _ _ rx) rs h2
  · exact h1.elim
end
section
variable {X : Cx} {K : PySem.W.Frag}
/-- a list of the store is changed -/
theorem loc_put {W : WX} {σ : St} {ι : List Addr} {H : Hp} {S : Sto} {n : Nat} {a : Addr} {xs : List D} {ys : List D} {us : List V} {d : D} {Q : VK} {v : V} (h : Post K W σ ι H (.ok d (S.set n (.lst ys))) fun d _ ι' H' => ∀ v, RepV K ι' H' d v → Q v H') (s : Sim K ι H S) (ea : ι[n]? = some a)
    {u0 : List V} (hu : H a = some (.lst u0)) (rl : RepL K ι H ys us) (rv : RepV K ι H d v) : Q v (upd H a (.lst us)) :=
  have G := Grow.put (H := H) (o := .lst us) (List.mem_of_getElem? ea) hu (fun _ _ z => by cases z)
  h ι _ G (s.put (b := .lst ys) ea hu (fun _ _ z => by cases z) ⟨us, upd_same, RepL.grow G _ _ rl⟩) v (RepV.grow G _ _ rv)
theorem RepL.dropLast {ι : List Addr} {H : Hp} {ds : List D} {vs : List V} (h : RepL K ι H ds vs) : RepL K ι H ds.dropLast vs.dropLast := by
  rw [List.dropLast_eq_take, List.dropLast_eq_take, ← RepL.length _ _ h]
  exact RepL.take _ _ _ h
noncomputable def mPopAt : Mt := fun o ds S => match o, ds with
  | .loc n, [.int i] => (match getL S n with
    | some xs => ifp (-(2 ^ 63) ≤ i ∧ i < 2 ^ 63) (match seqIndex? i xs.length with
        | some k => (match xs[k]? with
          | some y => .ok y (S.set n (.lst (xs.eraseIdx k)))
          | none => .stuck)
        | none => .stuck) .stuck
    | none => .stuck)
  | _, _ => .stuck
theorem RepL.erase {ι : List Addr} {H : Hp} : ∀ (ds : List D) (vs : List V) (k : Nat), RepL K ι H ds vs → RepL K ι H (ds.eraseIdx k) (vs.eraseIdx k)
  | [], _, k, h => by rw [RepL] at h; subst h; simp [RepL]
  | d :: ds, _, 0, h => by
    rw [RepL] at h
    obtain ⟨v, r, rfl, a, b⟩ := h
    exact b
  | d :: ds, _, k + 1, h => by
    rw [RepL] at h
    obtain ⟨v, r, rfl, a, b⟩ := h
    exact RepL.cons a (RepL.erase ds r k b)
theorem k_popAt : MtK K rPopAt mPopAt := by
  intro W σ ι H S x vs a ds Q s rx rl h
  unfold mPopAt at h
  (try unfold ifp at h); split at h
  · rename_i n i
    (try unfold ifp at h); split at h
    · rename_i xs hL
      (try unfold ifp at h); split at h
      · rename_i hi
        (try unfold ifp at h); split at h
        · rename_i k hk
          (try unfold ifp at h); split at h
          · rename_i y hy
            obtain ⟨u, rfl, ru⟩ := RepL.one_inv rl
            rw [RepV] at rx
            obtain ⟨p, ea, rfl⟩ := rx
            obtain ⟨us, h1, h2⟩ := s.ob _ _ _ ea (getL_some hL)
            obtain ⟨v, hv, rv⟩ := RepL.get _ _ h2 _ _ hy
            refine ⟨p, us, i, k, v, rfl, by rw [int_at ru], h1, hi.1, hi.2, by rw [← RepL.length _ _ h2]; exact hk, hv, loc_put (xs := xs) h s ea h1 (RepL.erase _ _ _ h2) rv⟩
          · exact h.elim
        · exact h.elim
      · exact h.elim
    · exact h.elim
  · exact h.elim
end
section
variable {X : Cx} {pins : List (Addr × Obj)} {σ : St} {ι : List Addr} {H : Hp} {s : Shared}
theorem no_sys (I : Inv X pins σ H s) (hb : ∃ o, X.base.get? sysModules = some o) {a : Addr} {u : HO} (e : H a = some u) : sysModules ≠ a := by
  rintro rfl
  obtain ⟨o, h⟩ := hb
  have := (I.bs _ _ h).2
  rw [this] at e; cases e
theorem pairs_reads {P : Program} {w : World} {h : Heap} : ∀ (kvs : List (Key × V)) (vs : List (Key × Value)) (es : List DictEntry), KV kvs vs → Pairs (mixKind P w) es vs → ∃ ks, ks = es.map (·.key) ∧ ReadsAll h ks (kvs.map fun q => keyPy q.1) [] ∧ Vals (kvs.map (·.2)) (es.map (·.val))
  | [], _, _, .nil, .nil => ⟨_, rfl, .nil, .nil⟩
  | (k, x) :: kvs, _, _, .cons r rs, .cons (e := e) h1 h2 h3 => by
    obtain ⟨ks, rfl, h4, h5⟩ := pairs_reads (h := h) kvs _ _ rs h3
    obtain ⟨r1, r2⟩ := r
    refine ⟨_, rfl, ?_, .cons (show L2.RelV x e.val by rw [h2]; exact r2) h5⟩
    rw [← r1] at h1
    rcases keyIs_shape h1 with ⟨i, t, e1, e2⟩ | ⟨z, t, e1, e2⟩
    · cases e1
      show ReadsAll h (e.key :: _) (PyData.int i :: _) ([] ++ [])
      rw [e2]
      exact .cons (Reads.int i t) h4
    · cases e1
      show ReadsAll h (e.key :: _) (PyData.str z :: _) ([] ++ [])
      rw [e2]
      exact .cons (Reads.str z t) h4
theorem repK_fst {K : PySem.W.Frag} : ∀ (kvs : List (Key × D)) (ks : List (Key × V)), RepK K ι H kvs ks → ks.map (fun q => keyPy q.1) = kvs.map (fun q => keyPy q.1) ∧ RepL K ι H (kvs.map (·.2)) (ks.map (·.2))
  | [], _, h => by rw [RepK] at h; subst h; exact ⟨rfl, RepL.nil⟩
  | (k, d) :: kvs, _, h => by
    rw [RepK] at h
    obtain ⟨v, r, rfl, a, b⟩ := h
    obtain ⟨h1, h2⟩ := repK_fst kvs r b
    exact ⟨by simp [h1], RepL.cons a h2⟩
theorem pyK_split : ∀ (kvs : List (Key × D)) (ps : List (PyData × PyData)), pyK kvs = some ps → ps.map (·.1) = kvs.map (fun q => keyPy q.1) ∧ pyL (kvs.map (·.2)) = some (ps.map (·.2))
  | [], ps, h => by rw [pyK] at h; cases h; exact ⟨rfl, rfl⟩
  | (k, d) :: kvs, ps, h => by
    rw [pyK] at h
    cases h1 : py d with
    | none => rw [h1] at h; cases h
    | some p =>
      rw [h1] at h
      cases h2 : pyK kvs with
      | none => rw [h2] at h; cases h
      | some qs =>
        rw [h2] at h; cases h
        obtain ⟨a, b⟩ := pyK_split kvs qs h2
        refine ⟨by simp [a], ?_⟩
        show pyL (d :: kvs.map (·.2)) = _
        rw [pyL, h1, b]; rfl
mutual
theorem py_reads (I : Inv X pins σ H s) (hb : ∃ o, X.base.get? sysModules = some o) : ∀ (d : D) (v : V) (u : Value) (p : PyData), RepV X.K ι H d v → RelV v u → py d = some p → ∃ as, Reads s.heap u p as ∧ sysModules ∉ as
  | .non, v, u, p, r, q, e => by rw [RepV] at r; rw [py] at e; cases e; subst r; cases q; exact ⟨_, .none, by simp⟩
  | .bl b, v, u, p, r, q, e => by rw [RepV] at r; rw [py] at e; cases e; subst r; cases q; exact ⟨_, .bool b, by simp⟩
  | .int i, v, u, p, r, q, e => by rw [RepV] at r; rw [py] at e; cases e; subst r; obtain ⟨t, rfl⟩ := q; exact ⟨_, .int i t, by simp⟩
  | .str x, v, u, p, r, q, e => by rw [RepV] at r; rw [py] at e; cases e; subst r; obtain ⟨t, rfl⟩ := q; exact ⟨_, .str x t, by simp⟩
  | .tup ds, v, u, p, r, q, e => by
    rw [RepV] at r
    obtain ⟨a, vs, rfl, t, rl⟩ := r
    cases q
    rw [py] at e
    cases h : pyL ds with
    | none => rw [h] at e; cases e
    | some ps =>
      rw [h] at e; cases e
      obtain ⟨its, rv, ⟨o, ho, hc, n, hd⟩, _⟩ := I.tuple t.sq
      obtain ⟨as, h1, h2⟩ := pyL_reads I hb ds vs its ps rl rv h
      exact ⟨as, .tuple ho hc hd h1, h2⟩
  | .fl ds, v, u, p, r, q, e => by
    rw [RepV] at r
    obtain ⟨a, vs, rfl, t, rl⟩ := r
    cases q
    rw [py] at e
    cases h : pyL ds with
    | none => rw [h] at e; cases e
    | some ps =>
      rw [h] at e; cases e
      obtain ⟨its, rv, ⟨o, n, ho, hc, _, hd⟩, _⟩ := I.list t.sq
      obtain ⟨as, h1, h2⟩ := pyL_reads I hb ds vs its ps rl rv h
      exact ⟨a :: as, .list ho hc hd h1, by simp [h2, no_sys I hb t.2]⟩
  | .fd kvs, v, u, p, r, q, e => by
    rw [RepV] at r
    obtain ⟨a, ks, rfl, na, ha, rk⟩ := r
    cases q
    rw [py] at e
    cases h : pyK kvs with
    | none => rw [h] at e; cases e
    | some ps =>
      rw [h] at e; cases e
      obtain ⟨_, _, vs, kv, o, es, ep, ho, hx, hd, _, hp, _⟩ := I.hok a _ ha
      obtain ⟨e1, rl⟩ := repK_fst kvs ks rk
      obtain ⟨e2, e3⟩ := pyK_split kvs ps h
      obtain ⟨_, rfl, h4, h5⟩ := pairs_reads (h := s.heap) ks vs es.toList kv hp
      obtain ⟨as, h6, h7⟩ := pyLK_reads I hb kvs _ _ (ps.map (·.2)) rl h5 e3
      refine ⟨a :: [] ++ as, .dict ho hx.1 hd (by rw [e2, ← e1]; exact h4) h6, ?_⟩
      simp [h7, no_sys I hb ha]
  | .ty _, v, u, p, r, q, e => by rw [py] at e; cases e
  | .kl _, v, u, p, r, q, e => by rw [py] at e; cases e
  | .ktp _, v, u, p, r, q, e => by rw [py] at e; cases e
  | .ztp _, v, u, p, r, q, e => by rw [py] at e; cases e
  | .fn _, v, u, p, r, q, e => by rw [py] at e; cases e
  | .exc _ _, v, u, p, r, q, e => by rw [py] at e; cases e
  | .loc _, v, u, p, r, q, e => by rw [py] at e; cases e
theorem pyL_reads (I : Inv X pins σ H s) (hb : ∃ o, X.base.get? sysModules = some o) : ∀ (ds : List D) (vs : List V) (us : List Value) (ps : List PyData), RepL X.K ι H ds vs → Vals vs us → pyL ds = some ps → ∃ as, ReadsAll s.heap us ps as ∧ sysModules ∉ as
  | [], vs, us, ps, r, q, e => by rw [RepL] at r; rw [pyL] at e; cases e; subst r; cases q; exact ⟨_, .nil, by simp⟩
  | d :: ds, vs, us, ps, r, q, e => by
    rw [RepL] at r
    obtain ⟨v, ws, rfl, a, b⟩ := r
    rw [pyL] at e
    cases h : py d with
    | none => rw [h] at e; cases e
    | some p =>
      rw [h] at e
      cases h2 : pyL ds with
      | none => rw [h2] at e; cases e
      | some qs =>
        rw [h2] at e; cases e
        cases q with
        | cons q1 q2 =>
          obtain ⟨as, r1, n1⟩ := py_reads I hb d v _ p a q1 h
          obtain ⟨bs, r2, n2⟩ := pyL_reads I hb ds ws _ qs b q2 h2
          exact ⟨as ++ bs, .cons r1 r2, by simp [n1, n2]⟩
theorem pyLK_reads (I : Inv X pins σ H s) (hb : ∃ o, X.base.get? sysModules = some o) : ∀ (ds : List (Key × D)) (vs : List V) (us : List Value) (ps : List PyData), RepL X.K ι H (ds.map (·.2)) vs → Vals vs us → pyL (ds.map (·.2)) = some ps → ∃ as, ReadsAll s.heap us ps as ∧ sysModules ∉ as
  | [], vs, us, ps, r, q, e => by
    have r : RepL X.K ι H [] vs := r
    have e : pyL [] = some ps := e
    rw [RepL] at r; rw [pyL] at e; cases e; subst r; cases q; exact ⟨_, .nil, by simp⟩
  | (k, d) :: ds, vs, us, ps, r, q, e => by
    have r : RepL X.K ι H (d :: ds.map (·.2)) vs := r
    have e : pyL (d :: ds.map (·.2)) = some ps := e
    rw [RepL] at r
    obtain ⟨v, ws, rfl, a, b⟩ := r
    rw [pyL] at e
    cases h : py d with
    | none => rw [h] at e; cases e
    | some p =>
      rw [h] at e
      cases h2 : pyL (ds.map (·.2)) with
      | none => rw [h2] at e; cases e
      | some qs =>
        rw [h2] at e; cases e
        cases q with
        | cons q1 q2 =>
          obtain ⟨as, r1, n1⟩ := py_reads I hb d v _ p a q1 h
          obtain ⟨bs, r2, n2⟩ := pyLK_reads I hb ds ws _ qs b q2 h2
          exact ⟨as ++ bs, .cons r1 r2, by simp [n1, n2]⟩
end
theorem pyS_reads {S : Sto} (I : Inv X pins σ H s) (hb : ∃ o, X.base.get? sysModules = some o) (sm : Sim X.K ι H S) {d : D} {v : V} {u : Value} {p : PyData} (r : RepV X.K ι H d v) (q : RelV v u) (e : pyS S d = some p) : ∃ as, Reads s.heap u p as ∧ sysModules ∉ as := by
  cases d with
  | loc m =>
    have e : (getQ S m).bind (fun ds => (pyL ds).map .list) = some p := e
    cases h : getQ S m with
    | none => rw [h] at e; cases e
    | some ds =>
      rw [h] at e
      have e : (pyL ds).map PyData.list = some p := e
      cases h2 : pyL ds with
      | none => rw [h2] at e; cases e
      | some ps =>
        rw [h2] at e; cases e
        rw [RepV] at r
        obtain ⟨a, ea, rfl⟩ := r
        cases q
        obtain ⟨vs, h3, h4⟩ := loc_at sm ea h
        obtain ⟨w, hw⟩ := sm.there (List.mem_of_getElem? ea)
        obtain ⟨its, rv, ⟨o, n, ho, hc, _, hd⟩, _⟩ := I.list h3
        obtain ⟨as, h5, h6⟩ := pyL_reads I hb ds vs its ps h4 rv h2
        exact ⟨a :: as, .list ho hc hd h5, by simp [h6, no_sys I hb hw]⟩
  | _ => exact py_reads I hb _ v u p r q e
end
def showOk (p : PyData) : Prop := p.showable = true ∧ p.shown.length ≤ sizeLine ∧ p.depth ≤ 60
open Classical in
noncomputable def bRepr : Fn := fun ds S => match ds with
  | [d] => (match pyS S d with
    | some p => if showOk p then .ok (.str p.shown) S else .stuck
    | none => .stuck)
  | _ => .stuck
def rRepr (K : PySem.W.Frag) : List V → Hp → VK → Prop := fun xs H Q => ∃ ι S d x p, xs = [x] ∧ Sim K ι H S ∧ RepV K ι H d x ∧ pyS S d = some p ∧ showOk p ∧ Q (.str p.shown) H
theorem c_repr {X : Cx} {k : Nat} (hr : Room k X.A) (hg : X.A.guards = some []) (hb : ∃ o, X.base.get? sysModules = some o) : CallR X (.builtin "repr") (rRepr X.K) := by
  intro pins s σ H xs us Q I rv h
  obtain ⟨ι, S, d, x, p, rfl, sm, r, e, ⟨h1, h2, h3⟩, q⟩ := h
  cases rv with
  | cons r1 r2 =>
    cases r2
    rename_i u
    obtain ⟨as, rd, na⟩ := pyS_reads I hb sm r r1 e
    show wpAny _ _ (call (.builtin "repr") [u]) _ _ _
    have hu := hr.units
    have fin : ∀ (h' : Heap) (t : Tok) (tk : Nat), (∀ b o, s.heap.get? b = some o → h'.get? b = some o) → EP X pins σ Q (.str p.shown t) { s with heap := h', toks := tk } := fun h' t tk hk => ⟨.str p.shown, H, I.kept hk, ⟨_, rfl⟩, q⟩
    cases rd with
    | none => exact P.repr_of_none (fin _ _ _ fun _ _ e => e)
    | bool b => exact P.repr_of_bool (fin _ _ _ fun _ _ e => e)
    | int i t => exact P.repr_of_int (by simpa [PyData.showable] using h1) (fin _ _ _ fun _ _ e => e)
    | str z t => exact P.repr_of_str (fin _ _ _ fun _ _ e => e) h2
    | list a1 a2 a3 a4 => exact repr_of_reads' (.list a1 a2 a3 a4) h1 (fun _ => na) hg (by omega) (fun _ _ e => e) (fun h' t tk hk => fin h' t tk hk) h2
    | tuple a1 a2 a3 a4 => exact repr_of_reads' (.tuple a1 a2 a3 a4) h1 (fun _ => na) hg (by omega) (fun _ _ e => e) (fun h' t tk hk => fin h' t tk hk) h2
    | dict a1 a2 a3 a4 a5 => exact repr_of_reads' (.dict a1 a2 a3 a4 a5) h1 (fun _ => na) hg (by omega) (fun _ _ e => e) (fun h' t tk hk => fin h' t tk hk) h2
theorem k_repr {K : PySem.W.Frag} : CallK K (rRepr K) bRepr := by
  intro W σ ι H S vs ds Q s rl h
  unfold bRepr at h
  (try unfold ifp at h); split at h
  · obtain ⟨v, rfl, rv⟩ := RepL.one_inv rl
    (try unfold ifp at h); split at h
    · rename_i p hp
      (try unfold ifp at h); split at h
      · rename_i hs
        exact ⟨ι, S, _, v, p, rfl, s, rv, hp, hs, h.here s _ str_rep⟩
      · exact h.elim
    · exact h.elim
  · exact h.elim
end DL
namespace DL
open PySem PySem.Spec L2
open PyProof.Rows hiding St
/-- what a law's function must give -/
def LawOk (F : Fn) : Prop := ∀ ns : List Int, ns.length ≤ 63 → (∀ z ∈ ns, Builtin.Int.intBits z ≤ 1048576) → ∃ S', F [.kl (ns.map D.int)] [] = .ok (.bl true) S'
theorem repL_ints {K : PySem.W.Frag} {ι : List Addr} {H : Hp} (ns : List Int) : RepL K ι H (ns.map D.int) (ns.map V.int) := by
  induction ns with
  | nil => exact RepL.nil
  | cons n ns ih => exact RepL.cons int_rep ih
theorem law_run {P : Program} {w : World} {K : PySem.W.Frag} {mg mb : Str → Option Value} {k : Nat} {fa a : Addr} {F : Fn} {s₁ : Shared} {vs : List Value} {ns : List Int}
    (KX : K.In s₁.heap) (hns : s₁.heap.Ns mainGlobals mg) (hb : s₁.heap.Ns builtinsNs mb) (hbb : ∀ x : Str, x ≠ "__name__" → mb x = bootBuiltins x) (hlim : s₁.heap.NoLimit) (hsy : s₁.heap.NoSeer) (hg : s₁.gens = #[])
    (ha : s₁.heap.get? a = some { cls := .type "list", data := .seq vs.toArray }) (hi : IntsAre vs ns) (hl : ns.length ≤ 63) (hbit : ∀ z ∈ ns, Builtin.Int.intBits z ≤ 1048576) (hr : Room k callerA)
    (hF : ∀ base : Heap, K.In base → base.Ns mainGlobals mg → (∃ o, base.get? sysModules = some o) → FnD true P w K mg base k fa F) (hlaw : LawOk F) :
    codeAny (model P w) callerA (.call (.ref fa) ⟨[.ref a], []⟩) (fun r s' => r = .ok (.ret (.bool true)) ∧ OldK s₁.heap s'.heap ∧ s'.os = s₁.os ∧ AllBare s'.gens) s₁ := by
  have rvs := vals_ints hi
  have hz : ns.length ≤ sizeLine := Nat.le_trans hl (by decide)
  have hlv := hi.length
  have go : ∀ H : Hp, (∀ b u, H b = some u → b = a ∧ K.lookup a = none ∧ ∃ o, u = .frz o (.lst (ns.map V.int))) → KlAt K [] H a (ns.map V.int) → HOk P w H s₁.heap →
      codeAny (model P w) callerA (.call (.ref fa) ⟨[.ref a], []⟩) (fun r s' => r = .ok (.ret (.bool true)) ∧ OldK s₁.heap s'.heap ∧ s'.os = s₁.os ∧ AllBare s'.gens) s₁ := by
    intro H only kl hok
    have free : ∀ {b : Addr} {o : Obj}, s₁.heap.get? b = some o → (b = a → K.lookup a ≠ none ∨ ∃ es ep, o.data = .dict es ep) → H b = none := by
      intro b o e1 e2
      cases q : H b with
      | none => rfl
      | some u =>
        obtain ⟨rfl, n1, _⟩ := only b u q
        rcases e2 rfl with z | ⟨es, ep, z⟩
        · exact absurd n1 z
        · rw [ha] at e1; cases e1; cases z
    have nsb : ∀ {b : Addr} {m : Str → Option Value}, s₁.heap.Ns b m → (hidT s₁.heap H).Ns b m := by
      rintro b m ⟨o, es, ep, e1, e2, r⟩
      exact ⟨o, es, ep, hidT_get e1 (free e1 fun _ => .inr ⟨es, ep, e2⟩), e2, r⟩
    have kin : K.In (hidT s₁.heap H) := fun b o e => hidT_get (KX b o e) (free (KX b o e) fun z => .inl (by rw [← z, e]; simp))
    have hsys : ∃ o, (hidT s₁.heap H).get? sysModules = some o := by
      obtain ⟨mm, ⟨o, es, ep, e1, e2, r⟩, _⟩ := hsy.mods
      exact ⟨o, hidT_get e1 (free e1 fun _ => .inr ⟨es, ep, e2⟩)⟩
    have md : Mod K mg (hidT s₁.heap H) := ⟨kin, nsb hns, ⟨mb, nsb hb, hbb⟩, let ⟨mc, h1, h2⟩ := hlim; ⟨mc, nsb h1, h2⟩⟩
    have e0 : Env0 P w K mg (hidT s₁.heap H) callerA [] s₁ H :=
      { frames := rfl, mod := md, bs := fun b o e => of_hidT e, bsz := Nat.le_of_eq (hidT_size _ _), funs := trivial
        frf := fun b z => absurd (show b ∈ ([] : List Addr) from z) (by simp), hok := hok, bare := .of_eq hg }
    obtain ⟨S', hS⟩ := hlaw ns hl hbit
    have sp : spD K F [V.ref a] H (fun v _ => v = .bl true) fun _ _ _ => False := by
      refine ⟨[], [], [.kl (ns.map D.int)], RepL.one (by rw [RepV]; exact ⟨a, _, rfl, kl, repL_ints ns⟩), ⟨List.nodup_nil, rfl, fun n a o e => by simp at e⟩, ?_⟩
      rw [hS]
      intro ι' H' v _ _ r
      rw [RepV] at r; exact r
    refine codeAny_mono (hF _ kin (nsb hns) hsys callerA [] s₁ H [.ref a] [.ref a] _ _ hr (fun _ => rfl) e0 (.cons rfl .nil) sp) fun r s' h => ?_
    cases r with
    | error e =>
      obtain ⟨_, _, _, _, _, _, _, _, _, _, _, _, z⟩ := h
      exact z.elim
    | ok fl =>
      cases fl with
      | next => exact False.elim h
      | brk => exact False.elim h
      | cont => exact False.elim h
      | ret u =>
        obtain ⟨v, H', os, bare, un, hok', r', q⟩ := h
        have q : v = .bl true := q
        subst q
        cases (show u = Value.bool true from r')
        refine ⟨rfl, OldK.of_keep fun b o e => ?_, os, bare⟩
        cases hb' : H b with
        | none => exact un.keep b o e hb' (fun z => absurd (show b ∈ ([] : List Addr) from z) (by simp)) (by simp)
        | some u =>
          obtain ⟨rfl, _, ob, rfl⟩ := only b u hb'
          have z1 := (hok b _ hb').1
          have z2 := (hok' b _ (un.frzs b ob _ hb')).1
          rw [e] at z1; cases z1
          exact z2
  cases hk : K.lookup a with
  | some o =>
    have e := KX a o hk
    rw [ha] at e; cases e
    refine go (fun _ => none) (fun b u z => by cases z) (.inr (.inr ⟨_, vs.toArray, _, hk, rfl, rfl, rfl, by rw [List.size_toArray, hlv]; exact hz, by simpa using rvs⟩)) fun b u z => by cases z
  | none =>
    refine go (upd (fun _ => none) a (.frz { cls := .type "list", data := .seq vs.toArray } (.lst (ns.map V.int)))) (fun b u z => ?_) (.inl ⟨by simp, _, upd_same⟩) fun b u z => ?_
    · by_cases hb' : b = a
      · subst hb'
        rw [upd_same] at z; cases z
        exact ⟨rfl, hk, _, rfl⟩
      · rw [upd_ne hb'] at z; cases z
    · by_cases hb' : b = a
      · subst hb'
        rw [upd_same] at z; cases z
        exact ⟨ha, by rw [List.length_map]; exact hz, vs, _, rvs, ha⟩
      · rw [upd_ne hb'] at z; cases z
theorem law_walk {l : PySem.W.OpenLaw} {k : Nat} {q : Program} {loose : List Str} {XP : (Str → Option Value) → Heap → Prop} {YP : World → Heap → Prop} {d : DefRec} {K : Params → PySem.W.Frag}
    (hn : l.most = some 63) (hdf : d.params.defaults = []) (hr : Room k callerA) (hi : importsNone q = true)
    (hY : ∀ (w : World) (h : Heap), YP w h → (K w.params).In h)
    (hF : ∀ (w : World) (mg : Str → Option Value) (fa : Addr) (h : Heap), (K w.params).In h → h.Ns mainGlobals mg → mg d.name = some (.ref fa) →
      ∃ F : Fn, LawOk F ∧ ∀ base : Heap, (K w.params).In base → base.Ns mainGlobals mg → (∃ o, base.get? sysModules = some o) → FnD true l.prog w (K w.params) mg base k fa F) :
    PySem.W.WalkO q loose XP YP l.row.toRowW d [] (fun f vs => PySem.call f vs) := by
  refine Att.attach_callB hn hdf fun w s₀ s₁ mg mb fa o pm cd doc a vs ns G Y ho hd hcd hmg hobj hints hlen hbits hg => ?_
  obtain ⟨F, hl, hF'⟩ := hF w mg fa _ (hY w _ Y) G.T.g hmg
  exact law_run (hY w _ Y) G.T.g G.T.b G.T.builtins G.T.nolimit (G.T.seer hi) hg hobj hints hlen hbits hr hF' hl
end DL
namespace DL
open PySem PySem.Spec L2
open PyProof.Rows hiding St
section
variable {K : PySem.W.Frag}
theorem k_le : OpK K (rI0 fun i j => .bl (decide (i ≤ j))) dLe := k_cmp
theorem k_gt : OpK K (rI0 fun i j => .bl (decide (j < i))) dGt := k_cmp
theorem k_ge : OpK K (rI0 fun i j => .bl (decide (j ≤ i))) dGe := k_cmp
end
def sPar3 (i j l : Nat) (g : Ev → Sto → R (List D)) : Ev → Sto → SR := fun ρ S => (g ρ S).toS ρ fun ds S1 => match ds with
  | [a, b, c] => .nx (((ρ.set i (some a)).set j (some b)).set l (some c)) S1
  | _ => .stuck
end DL
namespace DL
open PySem PySem.Spec L2
open PyProof.Rows hiding St
theorem dAdd_int (i j : Int) (S : Sto) : dAdd (.int i) (.int j) S = .ok (.int (i + j)) S := rfl
theorem dLt_int (i j : Int) (S : Sto) : dLt (.int i) (.int j) S = .ok (.bl (decide (i < j))) S := rfl
theorem dLe_int (i j : Int) (S : Sto) : dLe (.int i) (.int j) S = .ok (.bl (decide (i ≤ j))) S := rfl
theorem dGt_int (i j : Int) (S : Sto) : dGt (.int i) (.int j) S = .ok (.bl (decide (j < i))) S := rfl
theorem dGe_int (i j : Int) (S : Sto) : dGe (.int i) (.int j) S = .ok (.bl (decide (j ≤ i))) S := rfl
theorem dAddI_int (i j : Int) (S : Sto) : dAddI (.int i) (.int j) S = .ok (.int (i + j)) S := rfl
theorem dSubI_int (i j : Int) (S : Sto) : dSubI (.int i) (.int j) S = .ok (.int (i - j)) S := rfl
theorem dSub_int (i j : Int) (S : Sto) : dSub (.int i) (.int j) S = .ok (.int (i - j)) S := rfl
theorem dMod_int (i j : Int) (S : Sto) : dMod (.int i) (.int j) S = if 0 < j then .ok (.int (i % j)) S else .stuck := rfl
theorem dFdiv_int (i j : Int) (S : Sto) : dFdiv (.int i) (.int j) S = ifp (0 < j ∧ j.natAbs.log2 < 9000) (.ok (.int (i / j)) S) .stuck := rfl
theorem dPow_ok {i j : Int} (h : 0 ≤ j ∧ j ≤ 1000000 ∧ i.natAbs < 2 ^ 64) (S : Sto) : dPow (.int i) (.int j) S = .ok (.int (i ^ j.toNat)) S := ifp_pos h
theorem dIsN_non (n : Bool) (a : D) (S : Sto) : dIsN n a .non S = .ok (.bl (if n then !isN a else isN a)) S := rfl
theorem ll0 : (0 ≤ sizeLine) = True := eq_true (by decide)
theorem ll1 : (1 ≤ sizeLine) = True := eq_true (by decide)
theorem ll2 : (2 ≤ sizeLine) = True := eq_true (by decide)
theorem ll3 : (3 ≤ sizeLine) = True := eq_true (by decide)
theorem ll4 : (4 ≤ sizeLine) = True := eq_true (by decide)
theorem ll5 : (5 ≤ sizeLine) = True := eq_true (by decide)
theorem ll6 : (6 ≤ sizeLine) = True := eq_true (by decide)
theorem ll7 : (7 ≤ sizeLine) = True := eq_true (by decide)
theorem ll8 : (8 ≤ sizeLine) = True := eq_true (by decide)
theorem ll9 : (9 ≤ sizeLine) = True := eq_true (by decide)
theorem ll10 : (10 ≤ sizeLine) = True := eq_true (by decide)
theorem ll11 : (11 ≤ sizeLine) = True := eq_true (by decide)
theorem ll12 : (12 ≤ sizeLine) = True := eq_true (by decide)
theorem ll13 : (13 ≤ sizeLine) = True := eq_true (by decide)
theorem ll14 : (14 ≤ sizeLine) = True := eq_true (by decide)
theorem ll15 : (15 ≤ sizeLine) = True := eq_true (by decide)
theorem ll16 : (16 ≤ sizeLine) = True := eq_true (by decide)
theorem ll17 : (17 ≤ sizeLine) = True := eq_true (by decide)
theorem ll18 : (18 ≤ sizeLine) = True := eq_true (by decide)
theorem ll19 : (19 ≤ sizeLine) = True := eq_true (by decide)
theorem ll20 : (20 ≤ sizeLine) = True := eq_true (by decide)
theorem ll21 : (21 ≤ sizeLine) = True := eq_true (by decide)
theorem ll22 : (22 ≤ sizeLine) = True := eq_true (by decide)
theorem ll23 : (23 ≤ sizeLine) = True := eq_true (by decide)
theorem ll24 : (24 ≤ sizeLine) = True := eq_true (by decide)
theorem ll25 : (25 ≤ sizeLine) = True := eq_true (by decide)
theorem ll26 : (26 ≤ sizeLine) = True := eq_true (by decide)
theorem ll27 : (27 ≤ sizeLine) = True := eq_true (by decide)
theorem ll28 : (28 ≤ sizeLine) = True := eq_true (by decide)
theorem ll29 : (29 ≤ sizeLine) = True := eq_true (by decide)
theorem ll30 : (30 ≤ sizeLine) = True := eq_true (by decide)
theorem ll31 : (31 ≤ sizeLine) = True := eq_true (by decide)
theorem ll32 : (32 ≤ sizeLine) = True := eq_true (by decide)
theorem ll33 : (33 ≤ sizeLine) = True := eq_true (by decide)
theorem ll34 : (34 ≤ sizeLine) = True := eq_true (by decide)
theorem ll35 : (35 ≤ sizeLine) = True := eq_true (by decide)
theorem ll36 : (36 ≤ sizeLine) = True := eq_true (by decide)
theorem ll37 : (37 ≤ sizeLine) = True := eq_true (by decide)
theorem ll38 : (38 ≤ sizeLine) = True := eq_true (by decide)
theorem ll39 : (39 ≤ sizeLine) = True := eq_true (by decide)
theorem ll40 : (40 ≤ sizeLine) = True := eq_true (by decide)
theorem pyL_ints (l : List Int) : pyL (l.map D.int) = some (l.map PyData.int) := by
  induction l with
  | nil => rfl
  | cons i l ih => simp [pyL, py, ih]
theorem canLayAll_ints (l : List Int) : PyData.canLayAll0 (l.map PyData.int) = true := by
  induction l with
  | nil => rfl
  | cons i l ih => simp [PyData.canLayAll0, PyData.canLay0, ih]
theorem depthAll_ints (l : List Int) : PyData.depthAll (l.map PyData.int) = 0 := by
  induction l with
  | nil => rfl
  | cons i l ih => simp [PyData.depthAll, PyData.depth, ih]
theorem shaped_ints (l : List Int) : SeqAt.shaped (.list (l.map PyData.int)) = true := by
  simp [SeqAt.shaped, PyData.canLay0, canLayAll_ints, PyData.depth, depthAll_ints]
theorem shaped_nilL : SeqAt.shaped (.list []) = true := by decide
theorem dEqP_py {n : Bool} {a b : D} {S : Sto} {p q : PyData} (h1 : pyS S a = some p) (h2 : pyS S b = some q) (s1 : SeqAt.shaped p = true) (s2 : SeqAt.shaped q = true) : dEqP n a b S = .ok (.bl (if n then !PyData.eqv p q else PyData.eqv p q)) S := by
  unfold dEqP
  rw [h1, h2]
  show (if SeqAt.shaped p = true ∧ SeqAt.shaped q = true then _ else _) = _
  rw [if_pos ⟨s1, s2⟩]
theorem dEq_str (n : Bool) (x y : Str) (S : Sto) : dEq n (.str x) (.str y) S = .ok (.bl (if n then !decide (x = y) else decide (x = y))) S := rfl
theorem pyS_loc {S : Sto} {n : Nat} {l : List Int} (h : getQ S n = some (l.map D.int)) : pyS S (.loc n) = some (.list (l.map PyData.int)) := by
  show (getQ S n).bind (fun ds => (pyL ds).map PyData.list) = _
  rw [h]
  show (pyL (l.map D.int)).map PyData.list = _
  rw [pyL_ints]; rfl
/-- a list of ints of the store against [] -/
theorem dNe_loc_nil {S : Sto} {n : Nat} {l : List Int} (h : getQ S n = some (l.map D.int)) : dEq true (.loc n) (.fl []) S = .ok (.bl (!l.isEmpty)) S := by
  show dEqP true (.loc n) (.fl []) S = _
  rw [dEqP_py (pyS_loc h) (q := .list []) rfl (shaped_ints l) shaped_nilL]
  cases l <;> simp [PyData.eqv, PyData.eqvAll]
theorem forD_nil {g : Sto → Prop} {T : Tg} {B Z : Ev → Sto → SR} {ρ : Ev} {S : Sto} (h : g S) : forD g T B Z [] ρ S = Z ρ S := by
  unfold forD; rw [if_pos h]
theorem forD_cons {g : Sto → Prop} {T : Tg} {B Z : Ev → Sto → SR} {d : D} {ds : List D} {ρ ρ1 ρ2 : Ev} {S S1 S2 : Sto} (h : g S) (hT : T d ρ S = some (ρ1, S1)) (hB : B ρ1 S1 = .nx ρ2 S2) : forD g T B Z (d :: ds) ρ S = forD g T B Z ds ρ2 S2 := by
  rw [forD, if_pos h, hT]; simp only [hB]
/-- a loop that goes through: P before each turn -/
theorem forD_all {T : Tg} {B Z : Ev → Sto → SR} (P : Nat → Ev → Sto → Prop) : ∀ (ds : List D) (i : Nat) (ρ : Ev) (S : Sto), P i ρ S →
    (∀ (j : Nat) (d : D) (ρ : Ev) (S : Sto), ds[j]? = some d → P (i + j) ρ S → ∃ ρ1 S1 ρ2 S2, T d ρ S = some (ρ1, S1) ∧ (B ρ1 S1 = .nx ρ2 S2 ∨ B ρ1 S1 = .ct ρ2 S2) ∧ P (i + j + 1) ρ2 S2) →
    ∃ ρ' S', P (i + ds.length) ρ' S' ∧ forD yes T B Z ds ρ S = Z ρ' S'
  | [], i, ρ, S, h, _ => ⟨ρ, S, h, forD_nil trivial⟩
  | d :: ds, i, ρ, S, h, step => by
    obtain ⟨ρ1, S1, ρ2, S2, hT, hB, h2⟩ := step 0 d ρ S rfl h
    obtain ⟨ρ', S', h3, e⟩ := forD_all P ds (i + 1) ρ2 S2 h2 fun j d' ρ S hj hp => by
      have e1 : i + (j + 1) = i + 1 + j := by omega
      have := step (j + 1) d' ρ S (by simpa using hj) (by rw [e1]; exact hp)
      rw [e1] at this
      exact this
    refine ⟨ρ', S', ?_, ?_⟩
    · have : i + (d :: ds).length = i + 1 + ds.length := by simp; omega
      rw [this]; exact h3
    · rw [forD, if_pos (show yes S from trivial), hT]
      rcases hB with hB | hB <;> (simp only [hB]; exact e)
mutual
def rok : D → Bool
  | .non => true
  | .bl _ => true
  | .int i => decide (i.natAbs.log2 < 1920)
  | .str x => x.cps.toList.all fun c => decide (c < 16 ^ 8)
  | .tup ds => rokL ds
  | .fl ds => rokL ds
  | .fd kvs => rokK kvs
  | .kl _ => false
  | .ktp _ => false
  | .ztp _ => false
  | .ty _ => false
  | .fn _ => false
  | .exc _ _ => false
  | .loc _ => false
def rokL : List D → Bool
  | [] => true
  | d :: ds => rok d && rokL ds
def rokK : List (Key × D) → Bool
  | [] => true
  | (k, d) :: ds => (match k with
    | .inl i => decide (i.natAbs.log2 < 1920)
    | .inr x => x.cps.toList.all fun c => decide (c < 16 ^ 8)) && rok d && rokK ds
end
mutual
def bulkD : D → Nat
  | .str x => x.cps.size
  | .tup ds => bulkL ds
  | .fl ds => bulkL ds
  | .fd kvs => bulkK kvs
  | .non => 0
  | .bl _ => 0
  | .int _ => 0
  | .kl _ => 0
  | .ktp _ => 0
  | .ztp _ => 0
  | .ty _ => 0
  | .fn _ => 0
  | .exc _ _ => 0
  | .loc _ => 0
def bulkL : List D → Nat
  | [] => 0
  | d :: ds => bulkD d + 1 + bulkL ds
def bulkK : List (Key × D) → Nat
  | [] => 0
  | (k, d) :: ds => (match k with
    | .inl _ => 0
    | .inr x => x.cps.size) + bulkD d + 2 + bulkK ds
end
mutual
def depD : D → Nat
  | .tup ds => depL ds + 1
  | .fl ds => depL ds + 1
  | .fd kvs => depK kvs + 1
  | .str _ => 0
  | .non => 0
  | .bl _ => 0
  | .int _ => 0
  | .kl _ => 0
  | .ktp _ => 0
  | .ztp _ => 0
  | .ty _ => 0
  | .fn _ => 0
  | .exc _ _ => 0
  | .loc _ => 0
def depL : List D → Nat
  | [] => 0
  | d :: ds => max (depD d) (depL ds)
def depK : List (Key × D) → Nat
  | [] => 0
  | (_, d) :: ds => max (depD d) (depK ds)
end
theorem shown_int_small {i : Int} (h : i.natAbs.log2 < 1920) : (PyData.shown (.int i)).length ≤ 1921 := by
  have e := int_text_length_le (k := 1920) (by decide) h
  show (Str.ofString (toString i)).length ≤ 1921
  rw [PySem.ofString_length]; exact e
/-- data that repr can show -/
structure PyOk (d : D) (p : PyData) : Prop where
  eq : py d = some p
  sh : p.showable = true
  lv : p.leavesShort 1921 = true
  bk : p.bulk = bulkD d
  dp : p.depth = depD d
mutual
theorem rok_py : ∀ d : D, rok d = true → ∃ p, PyOk d p
  | .non, _ => ⟨.none, rfl, rfl, rfl, rfl, rfl⟩
  | .bl b, _ => ⟨.bool b, rfl, rfl, rfl, rfl, rfl⟩
  | .int i, h => by
    have h : i.natAbs.log2 < 1920 := by simpa [rok] using h
    exact ⟨.int i, rfl, by simpa [PyData.showable] using h, by simpa [PyData.leavesShort] using shown_int_small h, rfl, rfl⟩
  | .str x, h => ⟨.str x, rfl, rfl, by simpa [rok, PyData.leavesShort] using h, rfl, rfl⟩
  | .tup ds, h => by
    obtain ⟨ps, e, a, b, c, f⟩ := rokL_py ds (by simpa [rok] using h)
    exact ⟨.tuple ps, by rw [py, e]; rfl, by simpa [PyData.showable] using a, by simpa [PyData.leavesShort] using b, by simp [PyData.bulk, bulkD, c], by simp [PyData.depth, depD, f]⟩
  | .fl ds, h => by
    obtain ⟨ps, e, a, b, c, f⟩ := rokL_py ds (by simpa [rok] using h)
    exact ⟨.list ps, by rw [py, e]; rfl, by simpa [PyData.showable] using a, by simpa [PyData.leavesShort] using b, by simp [PyData.bulk, bulkD, c], by simp [PyData.depth, depD, f]⟩
  | .fd ds, h => by
    obtain ⟨ps, e, a, b, c, f⟩ := rokK_py ds (by simpa [rok] using h)
    exact ⟨.dict ps, by rw [py, e]; rfl, by simpa [PyData.showable] using a, by simpa [PyData.leavesShort] using b, by simp [PyData.bulk, bulkD, c], by simp [PyData.depth, depD, f]⟩
  | .kl _, h => by simp [rok] at h
  | .ktp _, h => by simp [rok] at h
  | .ztp _, h => by simp [rok] at h
  | .ty _, h => by simp [rok] at h
  | .fn _, h => by simp [rok] at h
  | .exc _ _, h => by simp [rok] at h
  | .loc _, h => by simp [rok] at h
theorem rokL_py : ∀ ds : List D, rokL ds = true → ∃ ps, pyL ds = some ps ∧ PyData.showableAll ps = true ∧ PyData.leavesShortAll 1921 ps = true ∧ PyData.bulkAll ps = bulkL ds ∧ PyData.depthAll ps = depL ds
  | [], _ => ⟨[], rfl, rfl, rfl, rfl, rfl⟩
  | d :: ds, h => by
    rw [rokL, Bool.and_eq_true] at h
    obtain ⟨p, e, a, b, c, f⟩ := rok_py d h.1
    obtain ⟨ps, e', a', b', c', f'⟩ := rokL_py ds h.2
    exact ⟨p :: ps, by rw [pyL, e, e']; rfl, by simp [PyData.showableAll, a, a'], by simp [PyData.leavesShortAll, b, b'], by simp [PyData.bulkAll, bulkL, c, c'], by simp [PyData.depthAll, depL, f, f']⟩
theorem rokK_py : ∀ ds : List (Key × D), rokK ds = true → ∃ ps, pyK ds = some ps ∧ PyData.showableKv ps = true ∧ PyData.leavesShortKv 1921 ps = true ∧ PyData.bulkKv ps = bulkK ds ∧ PyData.depthKv ps = depK ds
  | [], _ => ⟨[], rfl, rfl, rfl, rfl, rfl⟩
  | (.inl i, d) :: ds, h => by
    simp only [rokK, Bool.and_eq_true, decide_eq_true_eq] at h
    obtain ⟨p, e, a, b, c, f⟩ := rok_py d h.1.2
    obtain ⟨ps, e', a', b', c', f'⟩ := rokK_py ds h.2
    have hi := h.1.1
    have hs := shown_int_small hi
    exact ⟨(.int i, p) :: ps, by rw [pyK, e, e']; rfl, by simp [PyData.showableKv, PyData.showable, hi, a, a'], by simp [PyData.leavesShortKv, PyData.leavesShort, hs, b, b'], by simp [PyData.bulkKv, PyData.bulk, bulkK, c, c'], by simp [PyData.depthKv, PyData.depth, depK, f, f']⟩
  | (.inr x, d) :: ds, h => by
    simp only [rokK, Bool.and_eq_true] at h
    obtain ⟨p, e, a, b, c, f⟩ := rok_py d h.1.2
    obtain ⟨ps, e', a', b', c', f'⟩ := rokK_py ds h.2
    have hx := h.1.1
    exact ⟨(.str x, p) :: ps, by rw [pyK, e, e']; rfl, by simp [PyData.showableKv, PyData.showable, a, a'], by simp only [PyData.leavesShortKv, PyData.leavesShort, hx, b, b', Bool.and_self], by simp [PyData.bulkKv, PyData.bulk, bulkK, c, c'], by simp [PyData.depthKv, PyData.depth, depK, f, f']⟩
end
def shD (d : D) : Str := match py d with
  | some p => p.shown
  | none => Str.empty
/-- repr of plain data -/
theorem repr_d {d : D} (h : rok d = true) (hb : bulkD d ≤ 8000) (hd : depD d ≤ 60) (S : Sto) : bRepr [d] S = .ok (.str (shD d)) S := by
  obtain ⟨p, o⟩ := rok_py d h
  have e : pyS S d = some p := by
    cases d with
    | loc n => simp [rok] at h
    | _ => exact o.eq
  have hs : showOk p := by
    refine ⟨o.sh, ?_, by rw [o.dp]; exact hd⟩
    have h1 := PyData.shown_le_bulk 1921 (by decide) p o.lv
    rw [o.bk] at h1
    have h2 : (1921 + 2) * bulkD d ≤ 1923 * 8000 := Nat.mul_le_mul_left _ hb
    rw [sizeLine_eq]
    omega
  have e2 : shD d = p.shown := by unfold shD; rw [o.eq]
  unfold bRepr
  simp only [e]
  rw [if_pos hs, e2]
theorem rok_int {i : Int} (b : Nat) (h : i.natAbs < 2 ^ b) (h0 : 0 < b) (h9 : b ≤ 1920) : rok (.int i) = true := by
  simp only [rok, decide_eq_true_eq]
  exact Nat.lt_of_lt_of_le (PySem.Flt.log2_lt_of h0 h) h9
end DL
namespace DL
open PySem PySem.Spec L2
open PyProof.Rows hiding St
noncomputable def E1__law_stream (ρ : Ev) (S : Sto) : R D :=
  (eCall bAbs (aCons (eVar 2) aNil)) ρ S
noncomputable def E2__law_stream (ρ : Ev) (S : Sto) : R D :=
  (eVar 2) ρ S
noncomputable def Q1__law_stream (ρ : Ev) (S : Sto) : R Bool :=
  (eT (eOp dGe (eVar 2) (eOp dPow (eC (.int 10)) (eC (.int 18))))) ρ S
noncomputable def B__law_stream : Ev → Sto → SR :=
  (sSeq (sSet 1 (eLc finFl (iSeq (eVar 0)) (tN 2) [2] cYes E1__law_stream))
    (sRet (eLoc (aCons (eLc finLoc (iSeq (eVar 1)) (tN 2) [2] Q1__law_stream E2__law_stream) (aCons (eOp dAdd (eVar 1) (eFl (aCons (eOp dAdd (eCall bLen (aCons (eVar 1) aNil)) (eC (.int 17))) aNil))) (aCons (eC (.int 0)) aNil))))))
noncomputable def F__law_stream : Fn := fnC closeK 3 1 B__law_stream
noncomputable def C1__law_draw (ρ : Ev) (S : Sto) : R Bool :=
  (eT (eOp (dEq true) (eOp dIx (eVar 0) (eC (.int 0))) (eFl aNil))) ρ S
noncomputable def L1__law_draw (ρ : Ev) (S : Sto) : SR :=
  (sSeq (sSet 2 (eOp dIx (eOp dIx (eVar 0) (eC (.int 0))) (eC (.int 0))))
    (sSeq (sIf (eT (eOp dGt (eVar 2) (eC (.int 0)))) (sSeq (sAsg (eOp dFdiv (eVar 2) (eVar 1)) (tSub (eOp dIx (eVar 0) (eC (.int 0))) (eC (.int 0))))
    (sRet (eOp dMod (eVar 2) (eVar 1)))) sNil)
    (sExp (eMt isLst mPopAt (eOp dIx (eVar 0) (eC (.int 0))) (aCons (eC (.int 0)) aNil))))) ρ S
noncomputable def B__law_draw : Ev → Sto → SR :=
  (sSeq (whileD C1__law_draw L1__law_draw 4000)
    (sSeq (sSet 3 (eOp dAdd (eOp dIx (eVar 0) (eC (.int 2))) (eC (.int 1))))
    (sSeq (sAsg (eVar 3) (tSub (eVar 0) (eC (.int 2))))
    (sSeq (sSet 4 (eOp dMod (eOp dIx (eOp dIx (eVar 0) (eC (.int 1))) (eOp dMod (eVar 3) (eCall bLen (aCons (eOp dIx (eVar 0) (eC (.int 1))) aNil)))) (eC (.int 2147483587))))
    (sSeq (sSet 5 (eOp dMod (eOp dAdd (eOp dAdd (eOp dMul (eVar 4) (eOp dAdd (eC (.int 16807)) (eOp dMul (eC (.int 48271)) (eVar 3)))) (eOp dMul (eOp dMul (eC (.int 69621)) (eVar 3)) (eVar 3))) (eC (.int 5))) (eC (.int 2147483647))))
    (sRet (eOp dMod (eOp dFdiv (eOp dMod (eOp dMul (eVar 5) (eVar 5)) (eC (.int 2147483629))) (eC (.int 16))) (eVar 1))))))))
noncomputable def F__law_draw : Fn := fnC close 6 2 B__law_draw
noncomputable def B__law_pick : Ev → Sto → SR :=
  (sRet (eOp dIx (eVar 1) (eCall F__law_draw (aCons (eVar 0) (aCons (eCall bLen (aCons (eVar 1) aNil)) aNil)))))
noncomputable def F__law_pick : Fn := fnC close 2 2 B__law_pick
def strO (big cells : List Int) (t : Int) (rest : Sto) : Sto := .lst (big.map .int) :: .lst [.loc 0, .fl (cells.map .int), .int t] :: rest
structure StrOk (big cells : List Int) (t : Int) (n : Nat) : Prop where
  bigs : ∀ c ∈ big, 0 ≤ c
  cls : ∀ c ∈ cells, 0 ≤ c
  ne : cells ≠ []
  few : big.length ≤ 63
  t0 : 0 ≤ t
  tn : t ≤ n
/-- the stream stands in S, at most n mixed draws were made -/
def Strm (S : Sto) (n : Nat) (rest : Sto) : Prop := ∃ big cells t, S = strO big cells t rest ∧ StrOk big cells t n
theorem Strm.mono {S : Sto} {n m : Nat} {rest : Sto} (h : Strm S n rest) (hm : n ≤ m) : Strm S m rest := by
  obtain ⟨b, c, t, e, o⟩ := h
  exact ⟨b, c, t, e, o.bigs, o.cls, o.ne, o.few, o.t0, by have := o.tn; omega⟩
theorem getQ_lst0 (ds : List D) (S : Sto) : getQ (.lst ds :: S) 0 = some ds := rfl
theorem getQ_lst1 (o : Ob) (ds : List D) (S : Sto) : getQ (o :: .lst ds :: S) 1 = some ds := rfl
theorem getL_lst0 (ds : List D) (S : Sto) : getL (.lst ds :: S) 0 = some ds := rfl
theorem getL_lst1 (o : Ob) (ds : List D) (S : Sto) : getL (o :: .lst ds :: S) 1 = some ds := rfl
theorem dIx_loc {S : Sto} {n : Nat} {xs : List D} {i : Int} {d : D} (h : getQ S n = some xs) (e : atI xs i = some d) : dIx (.loc n) (.int i) S = .ok d S := by
  show (match seqOf S (.loc n) with
    | some xs => (match atI xs i with
      | some d => R.ok d S
      | none => .stuck)
    | none => .stuck) = _
  rw [show seqOf S (.loc n) = some xs from h]
  show (match atI xs i with
      | some d => R.ok d S
      | none => .stuck) = _
  rw [e]
theorem dIx_fl {S : Sto} {xs : List D} {i : Int} {d : D} (e : atI xs i = some d) : dIx (.fl xs) (.int i) S = .ok d S := by
  show (match atI xs i with
      | some d => R.ok d S
      | none => .stuck) = _
  rw [e]
theorem dIx_tup {S : Sto} {xs : List D} {i : Int} {d : D} (e : atI xs i = some d) : dIx (.tup xs) (.int i) S = .ok d S := by
  show (match atI xs i with
      | some d => R.ok d S
      | none => .stuck) = _
  rw [e]
theorem atI_nn {α : Type} {xs : List α} {i : Int} (h0 : 0 ≤ i) (h1 : i < xs.length) : atI xs i = xs[i.toNat]? := by
  unfold atI ixN
  rw [if_pos h0, if_pos h1]; rfl
theorem atI_map {xs : List Int} {i : Int} (h0 : 0 ≤ i) (h1 : i < xs.length) : ∃ z, z ∈ xs ∧ atI (xs.map D.int) i = some (.int z) := by
  have hi : i.toNat < xs.length := by omega
  refine ⟨xs[i.toNat], List.getElem_mem hi, ?_⟩
  rw [atI_nn h0 (by simpa using h1), List.getElem?_map, List.getElem?_eq_getElem hi]; rfl
theorem str_ix0 (big cells : List Int) (t : Int) (rest : Sto) : dIx (.loc 1) (.int 0) (strO big cells t rest) = .ok (.loc 0) (strO big cells t rest) := dIx_loc (getQ_lst1 _ _ _) rfl
theorem str_ix1 (big cells : List Int) (t : Int) (rest : Sto) : dIx (.loc 1) (.int 1) (strO big cells t rest) = .ok (.fl (cells.map .int)) (strO big cells t rest) := dIx_loc (getQ_lst1 _ _ _) rfl
theorem str_ix2 (big cells : List Int) (t : Int) (rest : Sto) : dIx (.loc 1) (.int 2) (strO big cells t rest) = .ok (.int t) (strO big cells t rest) := dIx_loc (getQ_lst1 _ _ _) rfl
theorem str_ne (big cells : List Int) (t : Int) (rest : Sto) : dEq true (.loc 0) (.fl []) (strO big cells t rest) = .ok (.bl (!big.isEmpty)) (strO big cells t rest) := dNe_loc_nil (getQ_lst0 _ _)
theorem str_get (b : Int) (big cells : List Int) (t : Int) (rest : Sto) : dIx (.loc 0) (.int 0) (strO (b :: big) cells t rest) = .ok (.int b) (strO (b :: big) cells t rest) := dIx_loc (getQ_lst0 _ _) (by simp [atI, ixN])
theorem str_set (b c : Int) (big cells : List Int) (t : Int) (rest : Sto) : dSet (.loc 0) (.int 0) (.int c) (strO (b :: big) cells t rest) = some (strO (c :: big) cells t rest) := by
  simp [dSet, strO, getL_lst0, ixN]
theorem str_pop (b : Int) (big cells : List Int) (t : Int) (rest : Sto) : mPopAt (.loc 0) [.int 0] (strO (b :: big) cells t rest) = .ok (.int b) (strO big cells t rest) := by
  have : seqIndex? 0 (big.length + 1) = some 0 := by simp [seqIndex?]
  have h2 : (-(2 ^ 63) : Int) ≤ 0 ∧ (0 : Int) < 2 ^ 63 := by decide
  simp [mPopAt, strO, getL_lst0, this, ifp_t]
theorem str_lst (big cells : List Int) (t : Int) (rest : Sto) : isLst (strO big cells t rest) (.loc 0) = true := rfl
theorem str_turn (big cells : List Int) (t u : Int) (rest : Sto) : dSet (.loc 1) (.int 2) (.int u) (strO big cells t rest) = some (strO big cells u rest) := by
  simp [dSet, strO, getL_lst1, ixN]
theorem close_same {S S' : Sto} {d : D} (h : S'.length = S.length) : close S d S' = .ok d S' := by
  unfold close; rw [if_pos h]
theorem draw_loop {m : Int} (hm : 0 < m) (hm2 : m.natAbs.log2 < 9000) (cells : List Int) (t : Int) (rest : Sto) (x3 x4 x5 : Option D) : ∀ (big : List Int) (k : Nat) (x2 : Option D), (∀ c ∈ big, 0 ≤ c) → big.length < k →
    (∃ r big', whileD C1__law_draw L1__law_draw k [some (.loc 1), some (.int m), x2, x3, x4, x5] (strO big cells t rest) = .rt (.int r) (strO big' cells t rest) ∧ 0 ≤ r ∧ r < m ∧ (∀ c ∈ big', 0 ≤ c) ∧ big'.length ≤ big.length) ∨
    (∃ x2', whileD C1__law_draw L1__law_draw k [some (.loc 1), some (.int m), x2, x3, x4, x5] (strO big cells t rest) = .nx [some (.loc 1), some (.int m), x2', x3, x4, x5] (strO [] cells t rest)) := by
  intro big
  induction big with
  | nil =>
    intro k x2 _ hk
    obtain ⟨k, rfl⟩ : ∃ j, k = j + 1 := ⟨k - 1, by omega⟩
    refine .inr ⟨x2, ?_⟩
    rw [whileD]
    simp only [eVar, eC, eOp, eT, eAnd, eOr, eNot, eIf, eAndV, eOrV, eNotV, eCall, aNil, aCons, aStar, sOf, eTup, eFl, eLoc, eSl, oNone, oSome, iOf, eNeg, eChain, eMt, bOf, List.lookup, R.bind_ok, R.bind_er, R.bind_stuck, R.toS_ok, R.toS_er, R.toS_stuck, SR.next_nx, SR.next_rt, SR.next_er, SR.next_bk, SR.next_ct, SR.next_stuck, sNil, sSeq, sBrk, sCnt, sExp, sRet, sRetN, sIf, sSet, sAsg, sAug, sPar2, sPar3, tN, DL.tTup, DL.tNil, DL.tCons, DL.tSub, iSeq, srcOf, iRange1, iRange2, sFor, startD, List.map_cons, List.map_nil, List.length_cons, List.length_nil, List.replicate, List.cons_append, List.nil_append, List.getElem?_cons_zero, List.getElem?_cons_succ, List.set_cons_zero, List.set_cons_succ, dSub_int, dFdiv_int, dMod_int, dLt_int, dLe_int, dGt_int, dGe_int, dAddI_int, dSubI_int, dIsN_non, isN, dAdd_int, ll0, ll1, ll2, ll3, ll4, ll5, ll6, ll7, ll8, ll9, ll10, ll11, ll12, ll13, ll14, ll15, ll16, ll17, ll18, ll19, ll20, ll21, ll22, ll23, ll24, ll25, ll26, ll27, ll28, ll29, ll30, ll31, ll32, ll33, ll34, ll35, ll36, ll37, ll38, ll39, ll40, Nat.reduceSub, Nat.reduceAdd, Nat.reduceEqDiff, if_true, if_false, ifp_t, ifp_f, reduceIte, Bool.true_eq_false, Bool.false_eq_true, Option.map_some, Option.map_none, Option.bind_some, Option.bind_none, C1__law_draw, L1__law_draw, str_ix0, str_ne, List.isEmpty_nil, Bool.not_true, Nat.zero_le]
  | cons b big ih =>
    intro k x2 hb hk
    obtain ⟨k, rfl⟩ : ∃ j, k = j + 1 := ⟨k - 1, by omega⟩
    have hb0 : 0 ≤ b := hb b List.mem_cons_self
    have hk' : big.length < k := by simp at hk; omega
    by_cases hpos : 0 < b
    · refine .inl ⟨b % m, (b / m) :: big, ?_, Int.emod_nonneg _ (by omega), Int.emod_lt_of_pos _ hm, fun c hc => ?_, by simp⟩
      · rw [whileD]
        simp only [eVar, eC, eOp, eT, eAnd, eOr, eNot, eIf, eAndV, eOrV, eNotV, eCall, aNil, aCons, aStar, sOf, eTup, eFl, eLoc, eSl, oNone, oSome, iOf, eNeg, eChain, eMt, bOf, List.lookup, R.bind_ok, R.bind_er, R.bind_stuck, R.toS_ok, R.toS_er, R.toS_stuck, SR.next_nx, SR.next_rt, SR.next_er, SR.next_bk, SR.next_ct, SR.next_stuck, sNil, sSeq, sBrk, sCnt, sExp, sRet, sRetN, sIf, sSet, sAsg, sAug, sPar2, sPar3, tN, DL.tTup, DL.tNil, DL.tCons, DL.tSub, iSeq, srcOf, iRange1, iRange2, sFor, startD, List.map_cons, List.map_nil, List.length_cons, List.length_nil, List.replicate, List.cons_append, List.nil_append, List.getElem?_cons_zero, List.getElem?_cons_succ, List.set_cons_zero, List.set_cons_succ, dSub_int, dFdiv_int, dMod_int, dLt_int, dLe_int, dGt_int, dGe_int, dAddI_int, dSubI_int, dIsN_non, isN, dAdd_int, ll0, ll1, ll2, ll3, ll4, ll5, ll6, ll7, ll8, ll9, ll10, ll11, ll12, ll13, ll14, ll15, ll16, ll17, ll18, ll19, ll20, ll21, ll22, ll23, ll24, ll25, ll26, ll27, ll28, ll29, ll30, ll31, ll32, ll33, ll34, ll35, ll36, ll37, ll38, ll39, ll40, Nat.reduceSub, Nat.reduceAdd, Nat.reduceEqDiff, if_true, if_false, ifp_t, ifp_f, reduceIte, Bool.true_eq_false, Bool.false_eq_true, Option.map_some, Option.map_none, Option.bind_some, Option.bind_none, C1__law_draw, L1__law_draw, str_ix0, str_ne, str_get, str_set, List.isEmpty_cons, Bool.not_false, hpos, decide_true, hm, hm2, and_self, Nat.zero_le]
      · rcases List.mem_cons.mp hc with rfl | hc
        · exact Int.ediv_nonneg hb0 (by omega)
        · exact hb c (List.mem_cons_of_mem _ hc)
    · have e : b = 0 := by omega
      subst e
      rw [whileD]
      simp only [eVar, eC, eOp, eT, eAnd, eOr, eNot, eIf, eAndV, eOrV, eNotV, eCall, aNil, aCons, aStar, sOf, eTup, eFl, eLoc, eSl, oNone, oSome, iOf, eNeg, eChain, eMt, bOf, List.lookup, R.bind_ok, R.bind_er, R.bind_stuck, R.toS_ok, R.toS_er, R.toS_stuck, SR.next_nx, SR.next_rt, SR.next_er, SR.next_bk, SR.next_ct, SR.next_stuck, sNil, sSeq, sBrk, sCnt, sExp, sRet, sRetN, sIf, sSet, sAsg, sAug, sPar2, sPar3, tN, DL.tTup, DL.tNil, DL.tCons, DL.tSub, iSeq, srcOf, iRange1, iRange2, sFor, startD, List.map_cons, List.map_nil, List.length_cons, List.length_nil, List.replicate, List.cons_append, List.nil_append, List.getElem?_cons_zero, List.getElem?_cons_succ, List.set_cons_zero, List.set_cons_succ, dSub_int, dFdiv_int, dMod_int, dLt_int, dLe_int, dGt_int, dGe_int, dAddI_int, dSubI_int, dIsN_non, isN, dAdd_int, ll0, ll1, ll2, ll3, ll4, ll5, ll6, ll7, ll8, ll9, ll10, ll11, ll12, ll13, ll14, ll15, ll16, ll17, ll18, ll19, ll20, ll21, ll22, ll23, ll24, ll25, ll26, ll27, ll28, ll29, ll30, ll31, ll32, ll33, ll34, ll35, ll36, ll37, ll38, ll39, ll40, Nat.reduceSub, Nat.reduceAdd, Nat.reduceEqDiff, if_true, if_false, ifp_t, ifp_f, reduceIte, Bool.true_eq_false, Bool.false_eq_true, Option.map_some, Option.map_none, Option.bind_some, Option.bind_none, C1__law_draw, L1__law_draw, str_ix0, str_ne, str_get, str_pop, str_lst, List.isEmpty_cons, Bool.not_false, Int.lt_irrefl, decide_false, Nat.zero_le]
      have := ih k (some (.int 0)) (fun c hc => hb c (List.mem_cons_of_mem _ hc)) hk'
      rcases this with ⟨r, big', h1, h2, h3, h4, h5⟩ | h
      · exact .inl ⟨r, big', h1, h2, h3, h4, Nat.le_succ_of_le h5⟩
      · exact .inr h
theorem mul_small {i j : Int} (h : -(2 ^ 64) < i ∧ i < 2 ^ 64) (S : Sto) : dMul (.int i) (.int j) S = .ok (.int (i * j)) S := by
  exact ifp_pos (.inl (.inl h))
theorem mul_smallR {i j : Int} (h : -(2 ^ 64) < j ∧ j < 2 ^ 64) (S : Sto) : dMul (.int i) (.int j) S = .ok (.int (i * j)) S := by
  exact ifp_pos (.inl (.inr h))
theorem log2_small {x : Nat} (b : Nat) (h : x < 2 ^ b) (h0 : 0 < b) (h9 : b ≤ 9000) : x.log2 < 9000 := Nat.lt_of_lt_of_le (PySem.Flt.log2_lt_of h0 h) h9
theorem bLen_fl (xs : List D) (S : Sto) : bLen [.fl xs] S = .ok (.int xs.length) S := rfl
theorem fnC_rt {n m : Nat} {B : Ev → Sto → SR} {ds : List D} {S S' : Sto} {d : D} (hm : ds.length = m) (h : B (startD n ds) S = .rt d S') (hc : S'.length = S.length) : fnC close n m B ds S = .ok d S' := by
  unfold fnC
  rw [if_pos hm, h]
  exact close_same hc
/-- a draw: some number below m, and the stream goes on -/
theorem draw_ok {S : Sto} {n : Nat} {rest : Sto} (h : Strm S n rest) {m : Int} (hm : 0 < m) (hm2 : m.natAbs.log2 < 9000) (hn : n < 2 ^ 60) :
    ∃ r S', F__law_draw [.loc 1, .int m] S = .ok (.int r) S' ∧ 0 ≤ r ∧ r < m ∧ Strm S' (n + 1) rest := by
  obtain ⟨big, cells, t, rfl, o⟩ := h
  have hst : startD 6 [D.loc 1, D.int m] = [some (.loc 1), some (.int m), none, none, none, none] := rfl
  rcases draw_loop hm hm2 cells t rest none none none big 4000 none o.bigs (by have := o.few; omega) with ⟨r, big', h1, h2, h3, h4, h5⟩ | ⟨x2, h1⟩
  · refine ⟨r, strO big' cells t rest, ?_, h2, h3, big', cells, t, rfl, h4, o.cls, o.ne, Nat.le_trans h5 o.few, o.t0, by have := o.tn; omega⟩
    refine fnC_rt rfl ?_ rfl
    rw [hst]
    unfold B__law_draw
    rw [sSeq, h1]; rfl
  · have t0 := o.t0
    have tn := o.tn
    have hcl : 0 < (cells.length : Int) := by
      have := List.length_pos_iff.mpr o.ne
      omega
    have hix0 : 0 ≤ (t + 1) % (cells.length : Int) := Int.emod_nonneg _ (by omega)
    have hix1 : (t + 1) % (cells.length : Int) < cells.length := Int.emod_lt_of_pos _ hcl
    obtain ⟨z, hz, hat⟩ := atI_map hix0 hix1
    have hz0 := o.cls z hz
    have c0 : 0 ≤ z % 2147483587 := Int.emod_nonneg _ (by decide)
    have c1 : z % 2147483587 < 2147483587 := Int.emod_lt_of_pos _ (by decide)
    have hx : ∀ S, dIx (.fl (cells.map D.int)) (.int ((t + 1) % (cells.length : Int))) S = .ok (.int z) S := fun S => dIx_fl hat
    have m1 : ∀ S, dMul (.int 48271) (.int (t + 1)) S = .ok (.int (48271 * (t + 1))) S := fun S => mul_small (by decide) S
    have m2 : ∀ S, dMul (.int (z % 2147483587)) (.int (16807 + 48271 * (t + 1))) S = .ok (.int (z % 2147483587 * (16807 + 48271 * (t + 1)))) S := fun S => mul_small (by omega) S
    have m3 : ∀ S, dMul (.int 69621) (.int (t + 1)) S = .ok (.int (69621 * (t + 1))) S := fun S => mul_small (by decide) S
    have m4 : ∀ S, dMul (.int (69621 * (t + 1))) (.int (t + 1)) S = .ok (.int (69621 * (t + 1) * (t + 1))) S := fun S => mul_smallR (by omega) S
    have l16 : (16 : Int).natAbs.log2 < 9000 := by decide
    have m5 : ∀ (x : Int) S, dMul (.int (x % 2147483647)) (.int (x % 2147483647)) S = .ok (.int (x % 2147483647 * (x % 2147483647))) S := fun x S => by
      have a0 : 0 ≤ x % 2147483647 := Int.emod_nonneg _ (by decide)
      have a1 : x % 2147483647 < 2147483647 := Int.emod_lt_of_pos _ (by decide)
      exact mul_small (by omega) S
    have key : ∃ y : Int, B__law_draw [some (.loc 1), some (.int m), none, none, none, none] (strO big cells t rest) = .rt (.int (y % m)) (strO [] cells (t + 1) rest) := by
      unfold B__law_draw
      rw [sSeq, h1]
      simp only [eVar, eC, eOp, eT, eAnd, eOr, eNot, eIf, eAndV, eOrV, eNotV, eCall, aNil, aCons, aStar, sOf, eTup, eFl, eLoc, eSl, oNone, oSome, iOf, eNeg, eChain, eMt, bOf, List.lookup, R.bind_ok, R.bind_er, R.bind_stuck, R.toS_ok, R.toS_er, R.toS_stuck, SR.next_nx, SR.next_rt, SR.next_er, SR.next_bk, SR.next_ct, SR.next_stuck, sNil, sSeq, sBrk, sCnt, sExp, sRet, sRetN, sIf, sSet, sAsg, sAug, sPar2, sPar3, tN, DL.tTup, DL.tNil, DL.tCons, DL.tSub, iSeq, srcOf, iRange1, iRange2, sFor, startD, List.map_cons, List.map_nil, List.length_cons, List.length_nil, List.replicate, List.cons_append, List.nil_append, List.getElem?_cons_zero, List.getElem?_cons_succ, List.set_cons_zero, List.set_cons_succ, dSub_int, dFdiv_int, dMod_int, dLt_int, dLe_int, dGt_int, dGe_int, dAddI_int, dSubI_int, dIsN_non, isN, dAdd_int, ll0, ll1, ll2, ll3, ll4, ll5, ll6, ll7, ll8, ll9, ll10, ll11, ll12, ll13, ll14, ll15, ll16, ll17, ll18, ll19, ll20, ll21, ll22, ll23, ll24, ll25, ll26, ll27, ll28, ll29, ll30, ll31, ll32, ll33, ll34, ll35, ll36, ll37, ll38, ll39, ll40, Nat.reduceSub, Nat.reduceAdd, Nat.reduceEqDiff, if_true, if_false, ifp_t, ifp_f, reduceIte, Bool.true_eq_false, Bool.false_eq_true, Option.map_some, Option.map_none, Option.bind_some, Option.bind_none, str_ix0, str_ix1, str_ix2, str_turn, dAdd_int, bLen_fl, List.length_map, hcl, hx, m1, m2, m3, m4, m5, l16, hm, Int.reduceLT, and_self]
      exact ⟨_, rfl⟩
    obtain ⟨y, hy⟩ := key
    exact ⟨y % m, _, fnC_rt rfl hy rfl, Int.emod_nonneg _ (by omega), Int.emod_lt_of_pos _ hm, [], cells, t + 1, rfl, by simp, o.cls, o.ne, by simp, by omega, by omega⟩
end DL
namespace DL
open PySem PySem.Spec L2
open PyProof.Rows hiding St
theorem Strm.len {S : Sto} {n : Nat} {rest : Sto} (h : Strm S n rest) : S.length = rest.length + 2 := by
  obtain ⟨b, c, t, rfl, o⟩ := h; rfl
theorem lowL_ints (n : Nat) (l : List Int) : lowL n (l.map D.int) = true := by
  induction l with
  | nil => rfl
  | cons i l ih => simp [lowL, low, ih]
theorem lowL_of {n : Nat} : ∀ {l : List D}, (∀ d ∈ l, low n d = true) → lowL n l = true
  | [], _ => rfl
  | d :: l, h => by
    rw [lowL, h d List.mem_cons_self, lowL_of fun x hx => h x (List.mem_cons_of_mem _ hx)]; rfl
theorem getL_end (S : Sto) (ds : List D) : getL (S ++ [.lst ds]) S.length = some ds := getL_of (by simp)
theorem getQ_end (S : Sto) (ds : List D) : getQ (S ++ [.lst ds]) S.length = some ds := getQ_of (by simp)
theorem set_end (S : Sto) (a b : Ob) : (S ++ [a]).set S.length b = S ++ [b] := by
  rw [List.set_append_right _ _ (Nat.le_refl _)]; simp
theorem finFl_eq {S S' : Sto} {l : List D} (h : getL S' S.length = some l) (hc : Trunc S S' ∧ S'.length = S.length + 1 ∧ lowL S.length l = true) : finFl S S' = .ok (.fl l) (S'.take S.length) := by
  unfold finFl
  simp only [h]
  rw [if_pos hc]
theorem finFl_end {S : Sto} {l : List D} (h : lowL S.length l = true) : finFl S (S ++ [.lst l]) = .ok (.fl l) S := by
  rw [finFl_eq (getL_end S l) ⟨Trunc.same _ _, by simp, h⟩]
  simp
/-- a comprehension whose parts change nothing -/
theorem compD_pure {T : Tg} {c : Ev → Sto → R Bool} {f : Ev → Sto → R D} {ρ : Ev} (ρd : D → Ev) (p : D → Bool) (e : D → D) (S : Sto) : ∀ (ds acc : List D),
    (∀ d ∈ ds, ∀ S', T d ρ S' = some (ρd d, S') ∧ c (ρd d) S' = .ok (p d) S' ∧ (p d = true → f (ρd d) S' = .ok (e d) S')) → acc.length + ds.length ≤ sizeLine →
    compD yes T c f S.length ρ ds (S ++ [.lst acc]) = some (S ++ [.lst (acc ++ (ds.filter p).map e)])
  | [], acc, _, _ => by rw [compD, if_pos (show yes _ from trivial)]; simp
  | d :: ds, acc, h, hl => by
    obtain ⟨h1, h2, h3⟩ := h d List.mem_cons_self (S ++ [.lst acc])
    have hl' : acc.length + (ds.length + 1) ≤ sizeLine := hl
    rw [compD, if_pos (show yes _ from trivial), h1]
    simp only [h2]
    cases hp : p d with
    | false =>
      rw [if_neg (by decide)]
      rw [compD_pure ρd p e S ds acc (fun x hx => h x (List.mem_cons_of_mem _ hx)) (by omega)]
      simp [List.filter, hp]
    | true =>
      rw [if_pos rfl]
      simp only [h3 hp, getL_end, set_end]
      rw [ifp_pos (by omega)]
      rw [compD_pure ρd p e S ds (acc ++ [e d]) (fun x hx => h x (List.mem_cons_of_mem _ hx)) (by simp; omega)]
      simp [List.filter, hp]
theorem eLc_pure {src : Ev → Sto → R Src} {T : Tg} {vs : List Nat} {c : Ev → Sto → R Bool} {f : Ev → Sto → R D} {ρ : Ev} {S : Sto} (ds : List D) (ρd : D → Ev) (p : D → Bool) (e : D → D) (hs : src ρ S = .ok (ds, yes) S)
    (h : ∀ d ∈ ds, ∀ S', T d (wipeD ρ vs) S' = some (ρd d, S') ∧ c (ρd d) S' = .ok (p d) S' ∧ (p d = true → f (ρd d) S' = .ok (e d) S')) (hl : ds.length ≤ sizeLine) (hlow : ∀ d ∈ ds, p d = true → low S.length (e d) = true) :
    eLc finFl src T vs c f ρ S = .ok (.fl ((ds.filter p).map e)) S := by
  unfold eLc
  rw [hs]
  show (match compD yes T c f S.length (wipeD ρ vs) ds (S ++ [Ob.lst []]) with
    | some S2 => finFl S S2
    | none => .stuck) = _
  rw [compD_pure ρd p e S ds [] h (by simpa using hl)]
  simp only [List.nil_append]
  refine finFl_end (lowL_of fun d hd => ?_)
  obtain ⟨x, hx, rfl⟩ := List.mem_map.mp hd
  obtain ⟨h1, h2⟩ := List.mem_filter.mp hx
  exact hlow x h1 h2
theorem eLc_pureLoc {src : Ev → Sto → R Src} {T : Tg} {vs : List Nat} {c : Ev → Sto → R Bool} {f : Ev → Sto → R D} {ρ : Ev} {S : Sto} (ds : List D) (ρd : D → Ev) (p : D → Bool) (e : D → D) (hs : src ρ S = .ok (ds, yes) S)
    (h : ∀ d ∈ ds, ∀ S', T d (wipeD ρ vs) S' = some (ρd d, S') ∧ c (ρd d) S' = .ok (p d) S' ∧ (p d = true → f (ρd d) S' = .ok (e d) S')) (hl : ds.length ≤ sizeLine) :
    eLc finLoc src T vs c f ρ S = .ok (.loc S.length) (S ++ [.lst ((ds.filter p).map e)]) := by
  unfold eLc
  rw [hs]
  show (match compD yes T c f S.length (wipeD ρ vs) ds (S ++ [Ob.lst []]) with
    | some S2 => finLoc S S2
    | none => .stuck) = _
  rw [compD_pure ρd p e S ds [] h (by simpa using hl)]
  simp only [List.nil_append]; rfl
theorem Strm.app {S : Sto} {n : Nat} {rest : Sto} (h : Strm S n rest) (l : Sto) : Strm (S ++ l) n (rest ++ l) := by
  obtain ⟨b, c, t, rfl, o⟩ := h
  exact ⟨b, c, t, rfl, o⟩
theorem Strm.getL_end {S : Sto} {n : Nat} {rest : Sto} {ds : List D} (h : Strm S n (rest ++ [.lst ds])) : getL S (rest.length + 2) = some ds := by
  obtain ⟨b, c, t, rfl, o⟩ := h
  refine getL_of ?_
  show (rest ++ [Ob.lst ds])[rest.length]? = _
  simp
theorem Strm.getQ_end {S : Sto} {n : Nat} {rest : Sto} {ds : List D} (h : Strm S n (rest ++ [.lst ds])) : getQ S (rest.length + 2) = some ds := by
  obtain ⟨b, c, t, rfl, o⟩ := h
  refine getQ_of ?_
  show (rest ++ [Ob.lst ds])[rest.length]? = _
  simp
theorem Strm.set_end {S : Sto} {n : Nat} {rest : Sto} {a : Ob} (h : Strm S n (rest ++ [a])) (b : Ob) : Strm (S.set (rest.length + 2) b) n (rest ++ [b]) := by
  obtain ⟨bg, c, t, rfl, o⟩ := h
  refine ⟨bg, c, t, ?_, o⟩
  show Ob.lst _ :: Ob.lst _ :: (rest ++ [a]).set rest.length b = _
  rw [DL.set_end]; rfl
/-- young places go: the stream stays -/
theorem Strm.trunc {S S' : Sto} {n m : Nat} {rest l : Sto} (h : Strm S n rest) (h' : Strm S' m (rest ++ l)) : Trunc S S' ∧ Strm (S'.take S.length) m rest := by
  obtain ⟨b, c, t, rfl, o⟩ := h
  obtain ⟨b', c', t', rfl, o'⟩ := h'
  refine ⟨⟨by simp [strO], fun k ob hk e => ?_⟩, b', c', t', ?_, o'⟩
  · match k, hk, e with
    | 0, hk, e =>
      cases e
      exact .inr (by simp [lowO, lowL_ints])
    | 1, hk, e =>
      cases e
      refine .inr ?_
      simp [lowO, lowL, low, lowL_ints, strO]
    | k + 2, hk, e =>
      left
      have hk' : k < rest.length := by simp [strO] at hk; exact hk
      show rest[k]? = some ob
      have e : (rest ++ l)[k]? = some ob := e
      rw [List.getElem?_append_left hk'] at e; exact e
  · show (Ob.lst _ :: Ob.lst _ :: (rest ++ l)).take (rest.length + 2) = _
    simp [strO]
theorem stream_ok {ns : List Int} (h : ns.length ≤ 63) : ∃ S, F__law_stream [.kl (ns.map D.int)] [] = .ok (.loc 1) S ∧ Strm S 0 [] := by
  have e1 : ∀ S, eLc finFl (iSeq (eVar 0)) (tN 2) [2] cYes E1__law_stream [some (.kl (ns.map D.int)), none, none] S = .ok (.fl ((ns.map D.int).map fun d => match d with | .int i => .int (if i < 0 then -i else i) | d => d)) S := fun S => by
    have := eLc_pure (src := iSeq (eVar 0)) (T := tN 2) (vs := [2]) (c := cYes) (f := E1__law_stream) (ρ := [some (.kl (ns.map D.int)), none, none]) (S := S) (ns.map D.int) (fun d => [some (.kl (ns.map D.int)), none, some d]) (fun _ => true)
      (fun d => match d with | .int i => .int (if i < 0 then -i else i) | d => d) rfl (fun d hd S' => ?_) (by simp; exact Nat.le_trans h (by decide)) (fun d hd _ => ?_)
    · rw [this, List.filter_eq_self.mpr (by simp)]
    · obtain ⟨i, _, rfl⟩ := List.mem_map.mp hd
      exact ⟨rfl, rfl, fun _ => rfl⟩
    · obtain ⟨i, _, rfl⟩ := List.mem_map.mp hd
      rfl
  have e2 : ((ns.map D.int).map fun d => match d with | .int i => D.int (if i < 0 then -i else i) | d => d) = (ns.map fun i => if i < 0 then -i else i).map D.int := by simp
  generalize hcs : (ns.map fun i => if i < 0 then -i else i) = cs at e2
  have hc0 : ∀ c ∈ cs, 0 ≤ c := fun c hc => by
    rw [← hcs] at hc
    obtain ⟨i, _, rfl⟩ := List.mem_map.mp hc
    split <;> omega
  have hlen : cs.length ≤ 63 := by rw [← hcs]; simpa using h
  have hpow : ∀ S, dPow (.int 10) (.int 18) S = .ok (.int (10 ^ 18)) S := fun S => dPow_ok (by decide) S
  have e3 : ∀ S, eLc finLoc (iSeq (eVar 1)) (tN 2) [2] Q1__law_stream E2__law_stream [some (.kl (ns.map D.int)), some (.fl (cs.map D.int)), none] S = .ok (.loc S.length) (S ++ [.lst ((cs.filter fun i => decide ((10 : Int) ^ 18 ≤ i)).map D.int)]) := fun S => by
    have := eLc_pureLoc (src := iSeq (eVar 1)) (T := tN 2) (vs := [2]) (c := Q1__law_stream) (f := E2__law_stream) (ρ := [some (.kl (ns.map D.int)), some (.fl (cs.map D.int)), none]) (S := S) (cs.map D.int)
      (fun d => [some (.kl (ns.map D.int)), some (.fl (cs.map D.int)), some d]) (fun d => match d with | .int i => decide ((10 : Int) ^ 18 ≤ i) | _ => false) (fun d => d) rfl (fun d hd S' => ?_) (by simp; exact Nat.le_trans hlen (by decide))
    · rw [this, List.filter_map]
      simp [Function.comp_def]
    · obtain ⟨i, _, rfl⟩ := List.mem_map.mp hd
      refine ⟨rfl, ?_, fun _ => rfl⟩
      have hw : wipeD [some (D.kl (ns.map D.int)), some (D.fl (cs.map D.int)), none] [2] = [some (D.kl (ns.map D.int)), some (D.fl (cs.map D.int)), none] := rfl
      simp only [eVar, eC, eOp, eT, eAnd, eOr, eNot, eIf, eAndV, eOrV, eNotV, eCall, aNil, aCons, aStar, sOf, eTup, eFl, eLoc, eSl, oNone, oSome, iOf, eNeg, eChain, eMt, bOf, List.lookup, R.bind_ok, R.bind_er, R.bind_stuck, R.toS_ok, R.toS_er, R.toS_stuck, SR.next_nx, SR.next_rt, SR.next_er, SR.next_bk, SR.next_ct, SR.next_stuck, sNil, sSeq, sBrk, sCnt, sExp, sRet, sRetN, sIf, sSet, sAsg, sAug, sPar2, sPar3, tN, DL.tTup, DL.tNil, DL.tCons, DL.tSub, iSeq, srcOf, iRange1, iRange2, sFor, startD, List.map_cons, List.map_nil, List.length_cons, List.length_nil, List.replicate, List.cons_append, List.nil_append, List.getElem?_cons_zero, List.getElem?_cons_succ, List.set_cons_zero, List.set_cons_succ, dSub_int, dFdiv_int, dMod_int, dLt_int, dLe_int, dGt_int, dGe_int, dAddI_int, dSubI_int, dIsN_non, isN, dAdd_int, ll0, ll1, ll2, ll3, ll4, ll5, ll6, ll7, ll8, ll9, ll10, ll11, ll12, ll13, ll14, ll15, ll16, ll17, ll18, ll19, ll20, ll21, ll22, ll23, ll24, ll25, ll26, ll27, ll28, ll29, ll30, ll31, ll32, ll33, ll34, ll35, ll36, ll37, ll38, ll39, ll40, Nat.reduceSub, Nat.reduceAdd, Nat.reduceEqDiff, if_true, if_false, ifp_t, ifp_f, reduceIte, Bool.true_eq_false, Bool.false_eq_true, Option.map_some, Option.map_none, Option.bind_some, Option.bind_none, Q1__law_stream, hpow]
  refine ⟨strO (cs.filter fun i => decide ((10 : Int) ^ 18 ≤ i)) (cs ++ [(cs.length : Int) + 17]) 0 [], ?_, ⟨_, _, _, rfl, ?_, ?_, by simp, ?_, by omega, by omega⟩⟩
  · unfold F__law_stream fnC
    rw [if_pos (show [D.kl (ns.map D.int)].length = 1 from rfl)]
    have hst : startD 3 [D.kl (ns.map D.int)] = [some (.kl (ns.map D.int)), none, none] := rfl
    rw [hst]
    unfold B__law_stream
    have hadd : ∀ S, dAdd (.fl (cs.map D.int)) (.fl [.int ((cs.length : Int) + 17)]) S = .ok (.fl ((cs ++ [(cs.length : Int) + 17]).map D.int)) S := fun S => by
      show ifp ((cs.map D.int).length + 1 ≤ sizeLine) (R.ok (D.fl (cs.map D.int ++ [D.int ((cs.length : Int) + 17)])) S) .stuck = _
      rw [ifp_pos (by rw [List.length_map]; exact Nat.le_trans (Nat.succ_le_succ hlen) (by decide))]
      simp
    simp only [eVar, eC, eOp, eT, eAnd, eOr, eNot, eIf, eAndV, eOrV, eNotV, eCall, aNil, aCons, aStar, sOf, eTup, eFl, eLoc, eSl, oNone, oSome, iOf, eNeg, eChain, eMt, bOf, List.lookup, R.bind_ok, R.bind_er, R.bind_stuck, R.toS_ok, R.toS_er, R.toS_stuck, SR.next_nx, SR.next_rt, SR.next_er, SR.next_bk, SR.next_ct, SR.next_stuck, sNil, sSeq, sBrk, sCnt, sExp, sRet, sRetN, sIf, sSet, sAsg, sAug, sPar2, sPar3, tN, DL.tTup, DL.tNil, DL.tCons, DL.tSub, iSeq, srcOf, iRange1, iRange2, sFor, startD, List.map_cons, List.map_nil, List.length_cons, List.length_nil, List.replicate, List.cons_append, List.nil_append, List.getElem?_cons_zero, List.getElem?_cons_succ, List.set_cons_zero, List.set_cons_succ, dSub_int, dFdiv_int, dMod_int, dLt_int, dLe_int, dGt_int, dGe_int, dAddI_int, dSubI_int, dIsN_non, isN, dAdd_int, ll0, ll1, ll2, ll3, ll4, ll5, ll6, ll7, ll8, ll9, ll10, ll11, ll12, ll13, ll14, ll15, ll16, ll17, ll18, ll19, ll20, ll21, ll22, ll23, ll24, ll25, ll26, ll27, ll28, ll29, ll30, ll31, ll32, ll33, ll34, ll35, ll36, ll37, ll38, ll39, ll40, Nat.reduceSub, Nat.reduceAdd, Nat.reduceEqDiff, if_true, if_false, ifp_t, ifp_f, reduceIte, Bool.true_eq_false, Bool.false_eq_true, Option.map_some, Option.map_none, Option.bind_some, Option.bind_none, e1, e2, e3, dAdd_int, bLen_fl, List.length_map, hadd]
    rfl
  · intro c hc
    exact hc0 c (List.mem_filter.mp hc).1
  · intro c hc
    rcases List.mem_append.mp hc with hc | hc
    · exact hc0 c hc
    · simp at hc; omega
  · exact Nat.le_trans (List.length_filter_le _ _) hlen
theorem pick_fl {S : Sto} {n : Nat} {rest : Sto} (h : Strm S n rest) {xs : List D} (hx : xs ≠ []) (hs : xs.length < 2 ^ 60) (hn : n < 2 ^ 60) :
    ∃ d S', F__law_pick [.loc 1, .fl xs] S = .ok d S' ∧ d ∈ xs ∧ Strm S' (n + 1) rest := by
  have hl := List.length_pos_iff.mpr hx
  obtain ⟨r, S', h1, h2, h3, h4⟩ := draw_ok h (m := (xs.length : Int)) (by omega) (log2_small 60 (by omega) (by decide) (by decide)) hn
  have hr : r.toNat < xs.length := by omega
  refine ⟨xs[r.toNat], S', ?_, List.getElem_mem hr, h4⟩
  refine fnC_rt rfl ?_ (by rw [h.len, h4.len])
  unfold B__law_pick
  have hix : ∀ S, dIx (.fl xs) (.int r) S = .ok xs[r.toNat] S := fun S => dIx_fl (by rw [atI_nn h2 h3, List.getElem?_eq_getElem hr])
  simp only [eVar, eC, eOp, eT, eAnd, eOr, eNot, eIf, eAndV, eOrV, eNotV, eCall, aNil, aCons, aStar, sOf, eTup, eFl, eLoc, eSl, oNone, oSome, iOf, eNeg, eChain, eMt, bOf, List.lookup, R.bind_ok, R.bind_er, R.bind_stuck, R.toS_ok, R.toS_er, R.toS_stuck, SR.next_nx, SR.next_rt, SR.next_er, SR.next_bk, SR.next_ct, SR.next_stuck, sNil, sSeq, sBrk, sCnt, sExp, sRet, sRetN, sIf, sSet, sAsg, sAug, sPar2, sPar3, tN, DL.tTup, DL.tNil, DL.tCons, DL.tSub, iSeq, srcOf, iRange1, iRange2, sFor, startD, List.map_cons, List.map_nil, List.length_cons, List.length_nil, List.replicate, List.cons_append, List.nil_append, List.getElem?_cons_zero, List.getElem?_cons_succ, List.set_cons_zero, List.set_cons_succ, dSub_int, dFdiv_int, dMod_int, dLt_int, dLe_int, dGt_int, dGe_int, dAddI_int, dSubI_int, dIsN_non, isN, dAdd_int, ll0, ll1, ll2, ll3, ll4, ll5, ll6, ll7, ll8, ll9, ll10, ll11, ll12, ll13, ll14, ll15, ll16, ll17, ll18, ll19, ll20, ll21, ll22, ll23, ll24, ll25, ll26, ll27, ll28, ll29, ll30, ll31, ll32, ll33, ll34, ll35, ll36, ll37, ll38, ll39, ll40, Nat.reduceSub, Nat.reduceAdd, Nat.reduceEqDiff, if_true, if_false, ifp_t, ifp_f, reduceIte, Bool.true_eq_false, Bool.false_eq_true, Option.map_some, Option.map_none, Option.bind_some, Option.bind_none, bLen_fl, h1, hix]
theorem close_law {d : D} (h : low 0 d = true) (S' : Sto) : ∃ S'', close [] d S' = .ok d S'' := by
  unfold close
  split
  · exact ⟨_, rfl⟩
  · rw [if_pos ⟨⟨Nat.zero_le _, fun k o hk _ => absurd hk (Nat.not_lt_zero _)⟩, h⟩]
    exact ⟨_, rfl⟩
/-- a law's function by its body -/
theorem law_by {n : Nat} {B : Ev → Sto → SR} (h : ∀ ns : List Int, ns.length ≤ 63 → (∀ z ∈ ns, Builtin.Int.intBits z ≤ 1048576) → ∃ S', B (startD n [.kl (ns.map D.int)]) [] = .rt (.bl true) S') : LawOk (fnC close n 1 B) := by
  intro ns hl hb
  obtain ⟨S', e⟩ := h ns hl hb
  unfold fnC
  rw [if_pos (show [D.kl (ns.map D.int)].length = 1 from rfl), e]
  exact close_law rfl S'
end DL
namespace DL
open PySem PySem.Spec L2
open PyProof.Rows hiding St
def rSum2 (K : PySem.W.Frag) : List V → Hp → VK → Prop := fun vs H Q => ∃ (a : Addr) (ns : List Int), vs = [V.ref a] ∧ (SqL K H a (ns.map V.int) ∨ SqT K H a (ns.map V.int)) ∧ Q (.int ns.sum) H
theorem cr_sum2 {X : Cx} (hc : X.calm = true) : CallR X (.builtin "sum") (rSum2 X.K) := by
  intro pins s σ H vs us Q I r h
  obtain ⟨a, ns, rfl, hs | hs, q⟩ := h
  · exact cr_sum hc pins s σ H _ us Q I r ⟨a, ns, rfl, hs, q⟩
  · obtain ⟨its, rv, hl, _⟩ := I.tuple hs
    rw [Vals.ref1 r]
    obtain ⟨xs, e⟩ := rv.ints.allInts.items
    have hn : numsOf (intItems xs).toList = ns := by rw [← e]; exact rv.ints.numsOf
    rw [nums_intItems] at hn
    rw [e] at hl
    refine PySem.W.ktm_sumG (I.ok.hd hc) hl fun h' tk t' hk => ?_
    rw [preSum_eq, List.take_of_length_le (by simp), hn]
    exact ⟨.int _, H, I.kept hk, ⟨_, rfl⟩, q⟩
def bSum2 : Fn := fun ds S => match ds with
  | [d] => (match (seqOf S d).bind intsOf with
    | some is => .ok (.int is.sum) S
    | none => .stuck)
  | _ => .stuck
theorem seq_ints {K : PySem.W.Frag} {ι : List Addr} {H : Hp} {S : Sto} {d : D} {v : V} {is : List Int} (s : Sim K ι H S) (r : RepV K ι H d v) (e : (seqOf S d).bind intsOf = some is) : ∃ p, v = .ref p ∧ (SqL K H p (is.map V.int) ∨ SqT K H p (is.map V.int)) := by
  cases h : seqOf S d with
  | none => rw [h] at e; cases e
  | some ds =>
    rw [h] at e
    obtain ⟨p, vs, rfl, q, rl⟩ := seq_at s r h
    rw [intsOf_rep _ _ _ rl e] at q
    exact ⟨p, rfl, q⟩
theorem k_sum2 {K : PySem.W.Frag} : CallK K (rSum2 K) bSum2 := by
  intro W σ ι H S vs ds Q s rl h
  unfold bSum2 at h
  (try unfold ifp at h); split at h
  · obtain ⟨v, rfl, rv⟩ := RepL.one_inv rl
    (try unfold ifp at h); split at h
    · rename_i is hi
      obtain ⟨p, rfl, q⟩ := seq_ints s rv hi
      exact ⟨p, is, rfl, q, h.here s _ int_rep⟩
    · exact h.elim
  · exact h.elim
end DL
namespace DL
open PySem PySem.Spec L2
open PyProof.Rows hiding St
theorem bSum2_tup (l : List Int) (S : Sto) : bSum2 [.tup (l.map D.int)] S = .ok (.int l.sum) S := by
  unfold bSum2
  simp only [seqOf, Option.bind_some, intsOf_map]
def Arity (t : Int) : Prop := 0 ≤ t ∧ t ≤ 5
end DL
namespace DL
/-- one token read: the height, and what was missing so far -/
def stp (s : Int × Int) (t : Int) : Int × Int := (s.1 + (1 - t), max s.2 (1 - (s.1 + (1 - t))))
/-- the need of a row -/
def ne (l : List Int) : Int := (l.foldl stp (0, 0)).2
/-- the height behind a row -/
def ht (l : List Int) : Int := (l.foldl stp (0, 0)).1
/-- the tokens round and round -/
def tk (l : List Int) (j : Nat) : Int := (l[j % l.length]?).getD 0
/-- the height behind i tokens, round and round -/
def hh (l : List Int) : Nat → Int
  | 0 => 0
  | i + 1 => hh l i + (1 - tk l i)
/-- the least of f p .. f (p + k) -/
def mn (f : Nat → Int) : Nat → Nat → Int
  | p, 0 => f p
  | p, k + 1 => min (f p) (mn f (p + 1) k)
end DL
namespace DL
open PySem PySem.Spec L2
open PyProof.Rows hiding St
def ti (l : List Int) : D := .tup (l.map D.int)
theorem ti_sum (l : List Int) (S : Sto) : bSum2 [ti l] S = .ok (.int l.sum) S := bSum2_tup l S
theorem cut_from {α : Type} (xs : List α) (p : Nat) : cut xs (some (p : Int)) none = xs.drop p := by
  unfold cut
  rw [HT.sIx_nat, HT.sIx_none]
  by_cases h : p ≤ xs.length
  · rw [Nat.min_eq_left h, List.take_of_length_le (by simp)]
  · rw [Nat.min_eq_right (by omega), List.drop_of_length_le (Nat.le_refl _), List.drop_of_length_le (by omega)]; simp
theorem cut_to {α : Type} (xs : List α) (p : Nat) : cut xs none (some (p : Int)) = xs.take p := by
  unfold cut
  rw [HT.sIx_nat, HT.sIx_none]
  simp only [List.drop_zero, Nat.sub_zero]
  by_cases h : p ≤ xs.length
  · rw [Nat.min_eq_left h]
  · rw [Nat.min_eq_right (by omega), List.take_of_length_le (Nat.le_refl _), List.take_of_length_le (by omega)]
theorem sl_from (l : List Int) (p : Nat) (mk : List D → Sto → R D) (S : Sto) : dSl mk (ti l) (some (p : Int)) none S = .ok (ti (l.drop p)) S := by
  show R.ok (D.tup (cut (l.map D.int) (some (p : Int)) none)) S = _
  rw [cut_from, ← List.map_drop]; rfl
theorem sl_to (l : List Int) (p : Nat) (mk : List D → Sto → R D) (S : Sto) : dSl mk (ti l) none (some (p : Int)) S = .ok (ti (l.take p)) S := by
  show R.ok (D.tup (cut (l.map D.int) none (some (p : Int)))) S = _
  rw [cut_to, ← List.map_take]; rfl
end DL
namespace DL
open PySem PySem.Spec L2
open PyProof.Rows hiding St
/-- min of two numbers, of a list or of a tuple -/
def bMinT : Fn := fun ds S => match ds with
  | [.tup xs] => (match intsOf xs with
    | some is => if is = [] then .stuck else .ok (.int (minL is)) S
    | none => .stuck)
  | ds => bMin ds S
end DL
namespace DL
end DL
namespace DL
end DL
namespace DL
open PySem PySem.Spec L2
open PyProof.Rows hiding St
theorem PE.or {X : Cx} {e : Expr} {t u : TE} (h : PE X e t) (h' : PE X e u) : PE X e (fun σ H Q => t σ H Q ∨ u σ H Q) := ⟨fun pins s σ H Q I q => by
  rcases q with q | q
  · exact h.run pins s σ H Q I q
  · exact h'.run pins s σ H Q I q⟩
def dRev (mk : List D → Sto → R D) (a : D) (S : Sto) : R D := match a with
  | .tup xs => .ok (.tup xs.reverse) S
  | a => match lstOf S a with
    | some xs => mk xs.reverse S
    | none => .stuck
def eRev (mk : List D → Sto → R D) (f : Ev → Sto → R D) : Ev → Sto → R D := fun ρ S => (f ρ S).bind fun d S1 => dRev mk d S1
theorem RepL.reverse {K : PySem.W.Frag} {ι : List Addr} {H : Hp} : ∀ (ds : List D) (vs : List V), RepL K ι H ds vs → RepL K ι H ds.reverse vs.reverse
  | [], _, h => by rw [RepL] at h; subst h; exact RepL.nil
  | d :: ds, _, h => by
    rw [RepL] at h
    obtain ⟨v, r, rfl, a, b⟩ := h
    rw [List.reverse_cons, List.reverse_cons]
    exact RepL.app _ _ (RepL.reverse ds r b) _ _ (RepL.one a)
def zipD (xs ys : List D) : List D := (xs.zip ys).map fun q => .tup [q.1, q.2]
def srcZip (a b : D) (S : Sto) : R Src := match a, b with
  | .tup xs, .tup ys => .ok (zipD xs ys, yes) S
  | .fl xs, .fl ys => .ok (zipD xs ys, yes) S
  | _, _ => .stuck
def iZipD (g : Ev → Sto → R (List D)) : Ev → Sto → R Src := fun ρ S => (g ρ S).bind fun ds S1 => match ds with
  | [a, b] => srcZip a b S1
  | _ => .stuck
end DL
namespace DL
open PySem PySem.Spec L2
open PyProof.Rows hiding St
open PySem.AutoSeq1 (wpAny_loadPart')
theorem tuple_mulSame (l : Addr) (items : Array Value) (n : Nat) (dd : Option Addr) (sl : Array (Option Value)) (x : Int) (u : Tok) (c0 : (decide (x < -(2 ^ 63)) || decide (x ≥ 2 ^ 63)) = false) (c1 : (items.isEmpty || x == 1) = true) :
    Meets (Builtin.«tuple.__mul__» ⟨[.ref l, .int x u], []⟩) (fun _ R s => s.heap.get? l = some { cls := .type "tuple", dict := dd, data := .seq items n, slots := sl } ∧ R (.ok (.ret (Value.ref l))) s) :=
  .of_wp fun prog w A R s h => by
    obtain ⟨hp, g, d, tk, os⟩ := s
    obtain ⟨hl, h⟩ := h
    have f1 := AutoSeq1.idx_int
    wp_walk using wpAny_loadPart' hl
    repeat (first
      | (refine wpAny_ite_false (decide_eq_false (by rw [c0]; exact Bool.false_ne_true)) ?_; wp_walk using wpAny_loadPart' hl)
      | (refine wpAny_ite_true (decide_eq_true (by rw [c1])) ?_; wp_walk using wpAny_loadPart' hl)
      | (with_reducible rw [if_pos (show (items.isEmpty || x == 1) = true from c1)]; wp_walk using wpAny_loadPart' hl))
    exact ⟨_, rfl, h⟩
theorem tuple_mulNil (l : Addr) (items : Array Value) (n : Nat) (dd : Option Addr) (sl : Array (Option Value)) (x : Int) (u : Tok) (c0 : (decide (x < -(2 ^ 63)) || decide (x ≥ 2 ^ 63)) = false) (c1 : (items.isEmpty || x == 1) = false) (c2 : (decide (x ≤ 0) || items.isEmpty) = true) :
    Meets (Builtin.«tuple.__mul__» ⟨[.ref l, .int x u], []⟩) (fun _ R s => s.heap.get? l = some { cls := .type "tuple", dict := dd, data := .seq items n, slots := sl } ∧
      R (.ok (.ret (Value.ref s.heap.objs.size))) { s with heap := s.heap.push { cls := Value.type "tuple", data := Data.seq #[] }, toks := s.toks }) :=
  .of_wp fun prog w A R s h => by
    obtain ⟨hp, g, d, tk, os⟩ := s
    obtain ⟨hl, h⟩ := h
    have f1 := AutoSeq1.idx_int
    wp_walk using wpAny_loadPart' hl
    repeat (first
      | (refine wpAny_ite_false (decide_eq_false (by rw [c0]; exact Bool.false_ne_true)) ?_; wp_walk using wpAny_loadPart' hl)
      | (refine wpAny_ite_false (decide_eq_false (by rw [c1]; exact Bool.false_ne_true)) ?_; wp_walk using wpAny_loadPart' hl)
      | (refine wpAny_ite_true (decide_eq_true (by rw [c2])) ?_; wp_walk using wpAny_loadPart' hl))
    exact ⟨_, rfl, h⟩
def rRepTS (K : PySem.W.Frag) : R2 := fun x y H Q => ∃ l k xs, x = .ref l ∧ y = .int k ∧ SqT K H l xs ∧ -(2 ^ 63) ≤ k ∧ k < 2 ^ 63 ∧ (xs = [] ∨ k = 1) ∧ Q (.ref l) H
def rRepTN (K : PySem.W.Frag) : R2 := fun x y H Q => ∃ l k xs, x = .ref l ∧ y = .int k ∧ SqT K H l xs ∧ xs ≠ [] ∧ -(2 ^ 63) ≤ k ∧ k ≤ 0 ∧ ∀ p, H p = none → Q (.ref p) (upd H p (.tup []))
section
variable {X : Cx}
theorem op_repTS : OpR X (binaryOp .Mult) (rRepTS X.K) := by
  intro pins s σ H x y v u Q I rx ry h
  obtain ⟨l, k, xs, rfl, rfl, hT, h1, h2, hne, q⟩ := h
  cases rx
  obtain ⟨t, rfl⟩ := ry
  obtain ⟨its, r, ⟨⟨cls, dd, data, sl⟩, ho, hc, n, hd⟩, hs⟩ := I.tuple hT
  simp only at hc hd
  subst hc hd
  have hle : its.length = xs.length := r.length.symm
  have c0 : (decide (k < -(2 ^ 63)) || decide (k ≥ 2 ^ 63)) = false := by
    rw [decide_eq_false (by omega), decide_eq_false (by omega)] <;> rfl
  have c1 : (its.toArray.isEmpty || k == 1) = true := by
    rcases hne with e | e
    · subst e
      have : its = [] := List.eq_nil_of_length_eq_zero hle
      subst this; rfl
    · subst e; simp
  exact wpAny_binaryOp_repeat_ref (T := "tuple") (U := "int") (by decide) ⟨_, ho, rfl⟩ (fun s' => typeIs_int s' k t) noFill_tuple_mul F.fills_int_mul F.slot_int_rmul repeat_tuple F.slot_int_index.lookup
    (call_meets F.slot_int_rmul (typeIs_int s k t) F.entry_int_rmul (F.args_int_rmul_2 _ _) (int_rmul_tuple k t l its.toArray n dd sl)
      ⟨ho, rfl, ⟨_, ho, rfl⟩, call_meets F.slot_tuple_mul ⟨_, ho, rfl⟩ F.entry_tuple_mul (F.args_tuple_mul_2 _ _) (tuple_mulSame l its.toArray n dd sl k t c0 c1) ⟨ho, ⟨.ref l, H, I, rfl, q⟩⟩⟩)
theorem op_repTN : OpR X (binaryOp .Mult) (rRepTN X.K) := by
  intro pins s σ H x y v u Q I rx ry h
  obtain ⟨l, k, xs, rfl, rfl, hT, hne, h1, h2, q⟩ := h
  cases rx
  obtain ⟨t, rfl⟩ := ry
  obtain ⟨its, r, ⟨⟨cls, dd, data, sl⟩, ho, hc, n, hd⟩, hs⟩ := I.tuple hT
  simp only at hc hd
  subst hc hd
  have hle : its.length = xs.length := r.length.symm
  have hn : its ≠ [] := fun e => hne (by
    rw [e] at hle
    exact List.eq_nil_of_length_eq_zero hle.symm)
  have hi : its.toArray.isEmpty = false := by
    cases its with
    | nil => exact absurd rfl hn
    | cons a b => rfl
  have c0 : (decide (k < -(2 ^ 63)) || decide (k ≥ 2 ^ 63)) = false := by
    rw [decide_eq_false (by omega), decide_eq_false (by omega)] <;> rfl
  have c1 : (its.toArray.isEmpty || k == 1) = false := by
    rw [hi, Bool.false_or]
    exact beq_eq_false_iff_ne.mpr (by omega)
  have c2 : (decide (k ≤ 0) || its.toArray.isEmpty) = true := by rw [decide_eq_true h2]; rfl
  refine wpAny_binaryOp_repeat_ref (T := "tuple") (U := "int") (by decide) ⟨_, ho, rfl⟩ (fun s' => typeIs_int s' k t) noFill_tuple_mul F.fills_int_mul F.slot_int_rmul repeat_tuple F.slot_int_index.lookup
    (call_meets F.slot_int_rmul (typeIs_int s k t) F.entry_int_rmul (F.args_int_rmul_2 _ _) (int_rmul_tuple k t l its.toArray n dd sl)
      ⟨ho, rfl, ⟨_, ho, rfl⟩, call_meets F.slot_tuple_mul ⟨_, ho, rfl⟩ F.entry_tuple_mul (F.args_tuple_mul_2 _ _) (tuple_mulNil l its.toArray n dd sl k t c0 c1 c2) ⟨ho, ?_⟩⟩)
  refine ⟨.ref s.heap.objs.size, _, I.laid (t' := s.toks) (o := .tup []) (fun b ob q => Heap.get?_push_of_some _ q) (Nat.le_refl _) ?_, rfl, q _ (I.hok.fresh (Nat.le_refl _))⟩
  exact ⟨Nat.zero_le _, [], .nil, IsTup.new _ _⟩
end
noncomputable def dMulT (a b : D) (S : Sto) : R D := match a, b with
  | .tup xs, .int k => ifp (-(2 ^ 63) ≤ k ∧ k ≤ 1000 ∧ xs.length ≤ 1000) (.ok (.tup (List.replicate k.toNat xs).flatten) S) .stuck
  | a, b => dMul a b S
def rMulT (K : PySem.W.Frag) : R2 := fun x y H Q => rRepTS K x y H Q ∨ rRepTN K x y H Q ∨ rRepT K x y H Q ∨ rMulD x y H Q
theorem or_mulT {X : Cx} : OpR X (binaryOp .Mult) (rMulT X.K) := OpR.or op_repTS (OpR.or op_repTN (OpR.or op_repT or_mul))
theorem k_mulT {K : PySem.W.Frag} : OpK K (rMulT K) dMulT := by
  intro W σ ι H S x y a b Q s rx ry h
  unfold dMulT at h
  split at h
  · rename_i xs k
    unfold ifp at h
    split at h
    · rename_i hl
      have rx' := rx
      obtain ⟨p, vs, rfl, hp, rp⟩ := tup_at rx
      have hlen := RepL.length _ _ rp
      by_cases h1 : vs = [] ∨ k = 1
      · refine .inl ⟨p, k, vs, rfl, int_at ry, hp, hl.1, by omega, h1, ?_⟩
        have e : (List.replicate k.toNat xs).flatten = xs := by
          rcases h1 with e | e
          · subst e
            have : xs = [] := List.eq_nil_of_length_eq_zero hlen
            subst this; simp
          · subst e; simp
        rw [e] at h
        exact h.here s _ rx'
      · have hne : vs ≠ [] := fun z => h1 (.inl z)
        have hk : k ≠ 1 := fun z => h1 (.inr z)
        by_cases h2 : k ≤ 0
        · refine .inr (.inl ⟨p, k, vs, rfl, int_at ry, hp, hne, hl.1, h2, ?_⟩)
          have e : (List.replicate k.toNat xs).flatten = [] := by
            have : k.toNat = 0 := by omega
            rw [this]; rfl
          rw [e] at h
          exact new_tup h s RepL.nil
        · refine .inr (.inr (.inl ⟨p, k, vs, rfl, int_at ry, hp, hne, by omega, hl.2.1, by omega, ?_⟩))
          exact new_tup h s (RepL.replicate rp _)
    · exact h.elim
  · exact .inr (.inr (.inr (k_mul W σ ι H S x y a b Q s rx ry h)))
end DL
namespace DL
open PySem PySem.Spec L2
open PyProof.Rows hiding St
def sRaise1 (n f : Str) (g : Ev → Sto → R (List D)) : Ev → Sto → SR := fun ρ S => (g ρ S).toS ρ fun ds S1 => match ds with
  | [d] => .er ⟨.own n, [(f, d)]⟩ ρ S1
  | _ => .stuck
theorem RepF.one {K : PySem.W.Frag} {ι : List Addr} {H : Hp} {f : Str} {d : D} {v : V} (h : RepV K ι H d v) : RepF K ι H [(f, d)] [(f, v)] := by
  rw [RepF]; exact ⟨v, [], rfl, h, by rw [RepF]⟩
def sRaise0 (n : Str) : Ev → Sto → SR := fun ρ S => .er ⟨.own n, []⟩ ρ S
end DL
namespace DL
open PySem PySem.Spec L2
open PyProof.Rows hiding St
end DL
namespace DL
open PySem PySem.Spec L2
open PyProof.Rows hiding St
end DL
namespace DL
open PySem PySem.Spec L2
open PyProof.Rows hiding St
end DL
namespace DL
open PySem PySem.Spec L2
open PyProof.Rows hiding St
section
variable {X : Cx} {W : WX} {gd : Bool} {k : Nat} {f : Addr} {F : Fn} {x : Str} {p pos : Pos} {e : Expr} {es : List Expr} {g : Ev → Sto → R (List D)}
def eCallV (tbl : List (Str × Fn)) (f : Ev → Sto → R D) (g : Ev → Sto → R (List D)) : Ev → Sto → R D := fun ρ S => (f ρ S).bind fun d S1 => match d with
  | .fn n => (match tbl.lookup n with
    | some F => (g ρ S1).bind fun ds S2 => F ds S2
    | none => .stuck)
  | _ => .stuck
end
end DL
namespace DL
open PySem PySem.Spec L2
open PyProof.Rows hiding St
def eDict0 : Ev → Sto → R D := fun _ S => .ok (.fd []) S
theorem RepK.keys {K : PySem.W.Frag} {ι : List Addr} {H : Hp} : ∀ {kvs : List (Key × D)} {vs : List (Key × V)}, RepK K ι H kvs vs → vs.map (·.1) = kvs.map (·.1)
  | [], _, h => by rw [RepK] at h; subst h; rfl
  | (k, d) :: kvs, _, h => by
    rw [RepK] at h
    obtain ⟨v, r, rfl, a, b⟩ := h
    rw [List.map_cons, List.map_cons, RepK.keys b]
noncomputable def eListRg (mk : List D → Sto → R D) (f : Ev → Sto → R D) : Ev → Sto → R D := fun ρ S => (f ρ S).bind fun d S1 => (iOf d S1).bind fun n S2 => ifp (RgOk 0 n) (mk (rangeD 0 n.toNat) S2) .stuck
end DL
theorem L2H.RoomH.units {k : Nat} {A : PySem.Around} (r : L2H.RoomH k A) : A.units + 64 < PySem.cLine := by have := r.un; omega
namespace DL
open PySem PySem.Spec L2
open PyProof.Rows hiding St
end DL
namespace DL
open PySem PySem.Spec L2
open PyProof.Rows hiding St
end DL
namespace DL
open PySem PySem.Spec L2
open PyProof.Rows hiding St
open Builtin in
set_option maxHeartbeats 1000000 in
theorem meets_enumerate_new1 {v : Value} {o : Obj} {H : Heap → Prop} (B : Begins v o H) :
    Meets (Builtin.«enumerate.__new__» ⟨[.type "enumerate", v], []⟩) (fun _ R s => H s.heap ∧
      R (.ok (.ret (.ref (s.heap.push o).objs.size))) { s with heap := (s.heap.push o).push { cls := .type "enumerate", data := .fields #[.none, .bool false, .ref s.heap.objs.size, rawInt 0, .none, .none] } }) :=
  .of_wp fun prog w A R s h => by
    obtain ⟨hp, g, d, tk, os⟩ := s; obtain ⟨h1, h⟩ := h
    have hsub := sub_enumerate
    have q1 : ∀ {A' : Around} {E : Value → Shared → Prop} {Q : Value → Shared → Prop}, Q (.ref hp.objs.size) ⟨hp.push o, g, d, tk, os⟩ → wpAny (model prog w) A' (pyIter v) Q E ⟨hp, g, d, tk, os⟩ :=
      fun q => B.iter prog w _ _ ⟨hp, g, d, tk, os⟩ _ h1 q
    wp_walk using q1
    refine wpAny_stack_any fun st => wpAny_pure ?_
    split
    · rename_i c _ _ _ _ _
      cases (c == Value.type "enumerate")
      · wp_walk using q1
        exact ⟨_, rfl, h⟩
      · wp_walk using q1
        exact ⟨_, rfl, h⟩
    · wp_walk using q1
      exact ⟨_, rfl, h⟩
section
variable {prog : Program} {w : World} {A : Around} {E : Value → Shared → Prop} {s : Shared}
theorem enum_begins1 {v : Value} {o : Obj} {H : Heap → Prop} {Q : Value → Shared → Prop} (B : Begins v o H) (h1 : H s.heap)
    (h : ∀ h', IsEnum h' (s.heap.objs.size + 1) s.heap.objs.size 0 .none → h'.get? s.heap.objs.size = some o → h'.objs.size = s.heap.objs.size + 2 →
      (∀ b o, s.heap.get? b = some o → h'.get? b = some o) → Q (.ref (s.heap.objs.size + 1)) { s with heap := h' }) :
    wpAny (model prog w) A (call (.type "enumerate") [v]) Q E s := by
  refine callType_new F.called_enumerate (by decide) (F.typeCall_enumerate_1 _) (F.newCall_enumerate_1 _) (fun obj => F.args_object_init_2 obj _) F.entry_enumerate_new
    (meets_enumerate_new1 B) ⟨h1, ?_⟩
  have hz : (s.heap.push o).objs.size = s.heap.objs.size + 1 := Heap.size_push ..
  show _ ∧ _
  rw [hz]
  have he : IsEnum ((s.heap.push o).push { cls := .type "enumerate", data := .fields #[.none, .bool false, .ref s.heap.objs.size, rawInt 0, .none, .none] }) (s.heap.objs.size + 1) s.heap.objs.size 0 .none := by
    have := Heap.get?_push_size (s.heap.push o) (o := { cls := .type "enumerate", data := .fields #[.none, .bool false, .ref s.heap.objs.size, rawInt 0, .none, .none] }) rfl
    rw [hz] at this; exact this
  refine ⟨⟨_, he, rfl⟩, h _ he (Heap.get?_push_of_some _ (Heap.get?_push_size _ B.free)) (by rw [Heap.size_push, hz]) fun b o x => Heap.get?_push_of_some _ (Heap.get?_push_of_some _ x)⟩
theorem wpAny_pyNext_enum_endT {e it t : Addr} {i : Nat} {items : Array Value} {old : Value} {Q : Option Value → Shared → Prop} (hh : A.handled = none)
    (he : IsEnum s.heap e it i old) (hit : s.heap.IsTupleIter it t i) (hl : s.heap.IsTuple t items) (hx : items[i]? = none)
    (hQ : ∀ h', Heap.ExtBut it s.heap h' → Q none { s with heap := h' }) : wpAny (model prog w) A (pyNext (.ref e)) Q E s := by
  have hT : s.TypeIs (.ref e) "enumerate" := ⟨_, he, rfl⟩
  unfold pyNext
  refine wpAny_bind (wpAny_attempt (wpAny_callSpecial?_slot (name := Str.ofString "__next__") hT F.slot_enumerate_next
    (wpAny_call_entry F.slot_enumerate_next hT F.entry_enumerate_next ?_ (F.args_enumerate_next_1 _))))
  show wpAny _ _ (field (.ref e) 2 >>= _) _ _ _
  refine wpAny_bind (wpAny_field he rfl (x := .ref it) rfl ?_)
  refine wpAny_bind (wpAny_nextOf_tuple_end hh hit hl hx fun h' x he' hx' => ?_)
  obtain ⟨o, ho, hc⟩ := hx'
  refine wpAny_bind (wpAny_isInstance (T := "StopIteration") (b := true) ⟨o, ho, hc⟩ isSubtype_stop ?_)
  exact wpAny_pure (hQ _ he')
end
/-- the tuple at a, each item in a new pair -/
def IteT (K : PySem.W.Frag) (a : Addr) : It :=
  ⟨fun i H => ∃ (xs : List V) (x : V), SqT K H a xs ∧ xs[i]? = some x, fun i H v H' => ∃ T x, v = .ref T ∧ H T = none ∧ H' = upd H T (.tup [.int (i : Nat), x]) ∧ ∀ xs, SqT K H a xs → xs[i]? = some x, fun i H => ∃ xs : List V, SqT K H a xs ∧ xs.length ≤ i⟩
theorem turn_enumT {P : Program} {w : World} {K : PySem.W.Frag} {elts : List Expr} {kk : Nat} {tpos : Pos} (a e it : Addr) :
    Turn P w K (.Tuple elts kk tpos) (IteT K a) [e, it] e (fun i h => (∃ old, IsEnum h e it ((i : Nat) : Int) old) ∧ h.IsTupleIter it a i ∧ e ≠ it) where
  mem := by simp
  obj := fun i h st b hb => by
    obtain ⟨⟨old, he⟩, ⟨o, ho, hc, hd⟩, _⟩ := st
    have e' : b = e ∨ b = it := by simpa using hb
    rcases e' with z | z
    · rw [z]; exact ⟨_, he, fun v q => nomatch q⟩
    · rw [z]; exact ⟨o, ho, fun v q => by rw [hd] at q; cases q⟩
  keep := fun i h h' st k => let ⟨⟨old, he⟩, hi, hne⟩ := st; ⟨⟨old, k e (by simp) _ he⟩, hi.at fun o q => k it (by simp) o q, hne⟩
  item := by
    intro X hP hw hK hc i pins s σ H E I hf st hg
    subst hP hw hK
    obtain ⟨⟨old, he⟩, hit, hne⟩ := st
    obtain ⟨xs, x, hq, hx⟩ := hg
    obtain ⟨its, rv, p, hz⟩ := I.tuple hq
    obtain ⟨u, hu, ru⟩ := rv.get hx
    have hel : e < s.heap.objs.size := Heap.lt_size he
    have hil : it < s.heap.objs.size := by obtain ⟨_, q, _⟩ := hit; exact Heap.lt_size q
    have hta : a ≠ it := by
      intro hh
      obtain ⟨o, ho, hc1, _⟩ := hit
      obtain ⟨o', ho', hc2, _⟩ := p
      rw [hh, ho] at ho'
      cases ho'
      rw [hc1] at hc2
      exact absurd (congrArg (fun v => match v with | Value.type n => n | _ => "") hc2) (by decide)
    have hte : e ≠ a := by
      intro hh
      obtain ⟨o', ho', hc2, _⟩ := p
      rw [← hh] at ho'
      have he2 : s.heap.get? e = _ := he
      rw [he2] at ho'
      cases ho'
      have hc3 : Value.type "enumerate" = Value.type "tuple" := hc2
      exact absurd (congrArg (fun v => match v with | Value.type n => n | _ => "") hc3) (by decide)
    have D := Draws.tuple (prog := X.prog) (w := X.w) (A := X.A.in1) (I.ok.hd hc) it a hta its.toArray
    have hi : its.toArray[i]? = some u := by simpa using hu
    have hlt : i < its.toArray.size := by
      rcases Nat.lt_or_ge i its.toArray.size with h | h
      · exact h
      · rw [Array.getElem?_eq_none h] at hi; cases hi
    refine wpAny_pyNext_enum_itemD D he ⟨hit, p⟩ hlt hne (by simp [hne, hte]) fun y h' tk hP ho hit' hT hsz hk => ?_
    have hy : y = u := by
      have : its.toArray[i]? = some y := hP
      rw [hi] at this; cases this; rfl
    subst hy
    refine ⟨_, rfl, wpAny_letOwnedTupleGo_enum (s := { s with heap := h', toks := tk + 1 }) ho fun h'' he' sb => ?_⟩
    have hT2 : h''.get? s.heap.objs.size = some { cls := .type "tuple", data := .seq #[.int i tk, y] } := (sb.2 _ (Nat.ne_of_gt hel)).trans hT
    have new : ObjOk X.prog X.w (upd H s.heap.objs.size (.tup [.int (i : Nat), x])) h'' s.heap.objs.size (.tup [.int (i : Nat), x]) :=
      ⟨by show 2 ≤ sizeLine; decide, [.int i tk, y], .cons ⟨_, rfl⟩ (.cons ru .nil), ⟨_, hT2, rfl, _, rfl⟩⟩
    have I1 : Inv X pins σ (upd H s.heap.objs.size (.tup [.int (i : Nat), x])) { s with heap := h'', toks := tk + 1 } :=
      I.turnedNew (ch := [e, it]) (fun b ob hb q => (sb.2 b (fun z => hb (by simp [z]))).trans (hk b ob (fun z => hb (by simp [z])) (fun z => hb (by simp [z])) q)) hf (Nat.le_refl _) new
    refine ⟨.ref s.heap.objs.size, _, I1, rfl, ⟨_, x, rfl, I.hok.fresh (Nat.le_refl _), rfl, fun ys hy => by rw [I.tuple_inj hy hq]; exact hx⟩, ⟨⟨y, ?_⟩, hit'.1.at fun o q => (sb.2 it (Ne.symm hne)).trans q, hne⟩, fun b hb => ?_⟩
    · have e1 : ((i + 1 : Nat) : Int) = (i : Int) + 1 := by omega
      rw [e1]; exact he'
    · have hb' : b < s.heap.objs.size := by
        have e' : b = e ∨ b = it := by simpa using hb
        rcases e' with z | z
        · rw [z]; exact hel
        · rw [z]; exact hil
      rw [upd_ne (Nat.ne_of_lt hb')]
      exact (hf b hb).1
  done := by
    intro X hP hw hK hc i pins s σ H E I hf st hg
    subst hP hw hK
    obtain ⟨⟨old, he⟩, hit, hne⟩ := st
    obtain ⟨xs, hq, hx⟩ := hg
    obtain ⟨its, rv, p, hz⟩ := I.tuple hq
    obtain ⟨f0, f1, f2, f3, f4, f5⟩ := hf it (by simp)
    have hl := rv.length
    exact wpAny_pyNext_enum_endT (I.ok.hd hc) he hit p (by simp; omega) fun h' eb => ⟨rfl, I.turned (t' := s.toks) (fun b o hb q => eb b o hb q) f0 f1 f3 f4 f5⟩
  self := fun A i s Q E st h => let ⟨⟨_, he⟩, _⟩ := st; wpAny_pyIter_enum he h
def iEnumA (K : PySem.W.Frag) (ta : TA) : TI := fun σ H R => ta σ H fun vs H1 => ∃ a xs, vs = [.ref a] ∧ ((SqT K H1 a xs ∧ R (IteT K a) H1) ∨ (SqL K H1 a xs ∧ R (Ite K a) H1))
theorem pi_enumA {X : Cx} {e : Expr} {ta : TA} {p pos tpos : Pos} {elts : List Expr} {kk : Nat} (hg : Gl X "enumerate") (hm : X.mg "enumerate" = none) (ha : PA X [e] ta) (hs : starEach [e] X.env = [(false, eval e X.env)] := by rfl) :
    PI X (.Tuple elts kk tpos) (.Call (.Name "enumerate" p) [e] [] pos) (iEnumA X.K ta) := by
  refine ⟨fun pins s σ H R I h => ?_⟩
  refine Call_ (ld_blt I hg hm boot_enumerate (PyProof.Rows.callWith_type1 (thn (ha.run pos pins s σ H _ I h) fun us s1 ⟨vs, H1, I1, r1, q1⟩ => ?_) hs rfl))
  obtain ⟨a, xs, ex, q⟩ := q1
  subst ex
  cases r1 with
  | cons r rr =>
    cases rr
    cases r
    rcases q with ⟨hq, q⟩ | ⟨hq, q⟩
    · obtain ⟨its, rv, p', hz⟩ := I1.tuple hq
      refine enum_begins1 (begins_tuple a its.toArray) p' fun h' he hit hsz hk => wpAny_pyIter_enum he ?_
      have I2 : Inv X pins σ H1 { s1 with heap := h' } := I1.kept (t' := s1.toks) hk
      refine ⟨s1.heap.objs.size + 1, [s1.heap.objs.size + 1, s1.heap.objs.size], _, _, H1, rfl, I2, turn_enumT a (s1.heap.objs.size + 1) s1.heap.objs.size, ⟨⟨.none, he⟩, ⟨_, hit, rfl, rfl⟩, Nat.succ_ne_self _⟩, fun b hb => ?_, q⟩
      have e' : b = s1.heap.objs.size + 1 ∨ b = s1.heap.objs.size := by simpa using hb
      have hle : s1.heap.objs.size ≤ b := by
        rcases e' with z | z
        · rw [z]; exact Nat.le_add_right _ _
        · rw [z]; exact Nat.le_refl _
      exact I1.fpOk hle (I1.hok.fresh hle)
    · obtain ⟨its, rv, p', hz⟩ := I1.list hq
      refine call_enumerate_list p'.isList fun h' he hit hsz hk => wpAny_pyIter_enum he ?_
      have I2 : Inv X pins σ H1 { s1 with heap := h' } := I1.kept (t' := s1.toks) hk
      refine ⟨s1.heap.objs.size + 1, [s1.heap.objs.size + 1, s1.heap.objs.size], _, _, H1, rfl, I2, turn_enum a (s1.heap.objs.size + 1) s1.heap.objs.size, ⟨⟨.none, he⟩, hit, Nat.succ_ne_self _⟩, fun b hb => ?_, q⟩
      have e' : b = s1.heap.objs.size + 1 ∨ b = s1.heap.objs.size := by simpa using hb
      have hle : s1.heap.objs.size ≤ b := by
        rcases e' with z | z
        · rw [z]; exact Nat.le_add_right _ _
        · rw [z]; exact Nat.le_refl _
      exact I1.fpOk hle (I1.hok.fresh hle)
def enumD (k : Nat) : List D → List D
  | [] => []
  | d :: ds => .tup [.int k, d] :: enumD (k + 1) ds
theorem enumD_len : ∀ (k : Nat) (ds : List D), (enumD k ds).length = ds.length
  | _, [] => rfl
  | k, d :: ds => by rw [enumD, List.length_cons, enumD_len, List.length_cons]
theorem enumD_get : ∀ {k i : Nat} {ds : List D} {d : D}, (enumD k ds)[i]? = some d → ∃ x, ds[i]? = some x ∧ d = .tup [.int ((k + i : Nat) : Int), x]
  | k, i, [], d, h => by simp [enumD] at h
  | k, 0, x :: ds, d, h => by
    simp only [enumD, List.getElem?_cons_zero, Option.some.injEq] at h
    exact ⟨x, rfl, h.symm⟩
  | k, i + 1, x :: ds, d, h => by
    simp only [enumD, List.getElem?_cons_succ] at h
    obtain ⟨y, hy, e⟩ := enumD_get h
    refine ⟨y, by simpa using hy, ?_⟩
    rw [e]
    have : k + 1 + i = k + (i + 1) := by omega
    rw [this]
def iEnumD (g : Ev → Sto → R (List D)) : Ev → Sto → R Src := fun ρ S => (g ρ S).bind fun ds S1 => match ds with
  | [d] => (srcOf d S1).bind fun q S2 => .ok (enumD 0 q.1, q.2) S2
  | _ => .stuck
theorem di_enum {X : Cx} {W : WX} {e : Expr} {g : Ev → Sto → R (List D)} {p pos tpos : Pos} {elts : List Expr} {kk : Nat} (hg : Gl X "enumerate") (hm : X.mg "enumerate" = none) (ha : DA X W [e] g) (hs : starEach [e] X.env = [(false, eval e X.env)] := by rfl) :
    DI X W (.Tuple elts kk tpos) (.Call (.Name "enumerate" p) [e] [] pos) (iEnumD g) := by
  refine PI.imp (pi_enumA hg hm ha hs) fun σ H Rr ⟨ι, ρ, S, hE, hS, q⟩ => ⟨ι, ρ, S, hE, hS, (Post.bind q).mono fun ds S1 ι1 H1 G1 s1 h1 vs rs => ?_⟩
  split at h1
  · rename_i d
    obtain ⟨v, rfl, rv⟩ := RepL.one_inv rs
    cases e : srcOf d S1 with
    | ok q S2 =>
      rw [e] at h1
      obtain ⟨rfl, a, rfl, st, hq⟩ := src_stands e s1 rv
      have h2 := h1.here s1
      rcases st with st | st
      · obtain ⟨us, q1, r1⟩ := st ι1 H1 _ (Grow.refl _ _) s1 hq
        refine ⟨a, us, rfl, .inl ⟨q1, h2 _ fun ι2 H2 S3 G2 s2 g2 => ?_⟩⟩
        obtain ⟨ws, q3, r3⟩ := st ι2 H2 S3 G2 s2 g2
        refine ⟨fun i hi => ⟨ws, q3, by rw [← RepL.length _ _ r3]; rw [enumD_len] at hi; exact hi⟩, fun i d hd => ?_⟩
        obtain ⟨x, hx, rfl⟩ := enumD_get hd
        obtain ⟨vx, hvx, rx⟩ := RepL.get _ _ r3 i x hx
        refine ⟨⟨ws, vx, q3, hvx⟩, fun z H3 hz => ?_⟩
        obtain ⟨T, x', rfl, hT, rfl, hx'⟩ := hz
        have e1 := hx' ws q3
        rw [hvx] at e1
        cases e1
        rw [Nat.zero_add]
        exact ⟨Grow.upd hT, s2.upd hT, rep_tup s2 hT (RepL.cons int_rep (RepL.one rx))⟩
      · obtain ⟨us, q1, r1⟩ := st ι1 H1 _ (Grow.refl _ _) s1 hq
        refine ⟨a, us, rfl, .inr ⟨q1, h2 _ fun ι2 H2 S3 G2 s2 g2 => ?_⟩⟩
        obtain ⟨ws, q3, r3⟩ := st ι2 H2 S3 G2 s2 g2
        refine ⟨fun i hi => ⟨ws, q3, by rw [← RepL.length _ _ r3]; rw [enumD_len] at hi; exact hi⟩, fun i d hd => ?_⟩
        obtain ⟨x, hx, rfl⟩ := enumD_get hd
        obtain ⟨vx, hvx, rx⟩ := RepL.get _ _ r3 i x hx
        refine ⟨⟨ws, vx, q3, hvx⟩, fun z H3 hz => ?_⟩
        obtain ⟨T, x', rfl, hT, rfl, hx'⟩ := hz
        have e1 := hx' ws q3
        rw [hvx] at e1
        cases e1
        rw [Nat.zero_add]
        exact ⟨Grow.upd hT, s2.upd hT, rep_tup s2 hT (RepL.cons int_rep (RepL.one rx))⟩
    | er x S2 => rw [e] at h1; exact absurd e (by unfold srcOf; split <;> first | (intro z; cases z) | (split <;> (intro z; cases z)))
    | stuck => rw [e] at h1; exact h1.elim
  · exact h1.elim
end DL
namespace DL
open PySem PySem.Spec L2
open PyProof.Rows hiding St
end DL
namespace DL
open PySem PySem.Spec L2
open PyProof.Rows hiding St
end DL
namespace DL
open PySem PySem.Spec L2
open PyProof.Rows hiding St
end DL
namespace DL
open PySem PySem.Spec L2
open PyProof.Rows hiding St
end DL
namespace DL
open PySem PySem.Spec L2
open PyProof.Rows hiding St
end DL
namespace DL
open PySem PySem.Spec L2
open PyProof.Rows hiding St
section
variable {X : Cx} {W : WX} {pos : Pos} {e : Expr}
theorem PG.or {tg : Expr} {t u : TG} (h : PG X tg t) (h' : PG X tg u) : PG X tg (fun v σ H Q => t v σ H Q ∨ u v σ H Q) := ⟨fun pins s σ H v w Q I r q => by
  rcases q with q | q
  · exact h.run pins s σ H v w Q I r q
  · exact h'.run pins s σ H v w Q I r q⟩
theorem seqOf_fl (ds : List D) (S : Sto) : seqOf S (.fl ds) = some ds := rfl
theorem seqOf_tup (ds : List D) (S : Sto) : seqOf S (.tup ds) = some ds := rfl
theorem seqOf_ti (l : List Int) (S : Sto) : seqOf S (ti l) = some (l.map D.int) := rfl
def tSq (n : Nat) (U : Tgs) : Tg := fun d ρ S => match seqOf S d with
  | some ds => if ds.length = n then U ds ρ S else none
  | _ => none
/-- two names -/
def sSet2 (i j : Nat) (f : Ev → Sto → R D) : Ev → Sto → SR := fun ρ S => (f ρ S).toS ρ fun d S1 => .nx ((ρ.set i (some d)).set j (some d)) S1
end
end DL
namespace DL
open PySem PySem.Spec L2
open PyProof.Rows hiding St
mutual
def frzW (look : Nat → Option D) (k : Nat) : D → Option D
  | .loc n => if n < k then some (.loc n) else look n
  | .tup ds => (frzWL look k ds).map .tup
  | .fl ds => (frzWL look k ds).map .fl
  | .kl ds => if lowL k ds = true then some (.kl ds) else none
  | .ktp ds => if lowL k ds = true then some (.ktp ds) else none
  | .ztp ds => if lowL k ds = true then some (.ztp ds) else none
  | .fd kvs => if lowK k kvs = true then some (.fd kvs) else none
  | .exc c fs => if lowF k fs = true then some (.exc c fs) else none
  | .non => some .non
  | .bl b => some (.bl b)
  | .int i => some (.int i)
  | .str x => some (.str x)
  | .ty n => some (.ty n)
  | .fn n => some (.fn n)
def frzWL (look : Nat → Option D) (k : Nat) : List D → Option (List D)
  | [] => some []
  | d :: ds => (frzW look k d).bind fun e => (frzWL look k ds).map fun es => e :: es
end
def frzK (S : Sto) (k : Nat) : Nat → Nat → Option D
  | 0 => fun _ => none
  | f + 1 => fun n => match S[n]? with
    | some (.lst ds) => (frzWL (frzK S k f) k ds).map .fl
    | _ => none
def frz (S : Sto) (k f : Nat) (d : D) : Option D := frzW (frzK S k f) k d
/-- a list times a number, as a place -/
noncomputable def dMulL (a b : D) (S : Sto) : R D := match b with
  | .int k => (match lstOf S a with
    | some xs => ifp (-(2 ^ 63) ≤ k ∧ k < 2 ^ 63 ∧ xs.length * k.toNat ≤ sizeLine) (mkLoc (List.replicate k.toNat xs).flatten S) .stuck
    | _ => .stuck)
  | _ => .stuck
theorem k_mulL {K : PySem.W.Frag} : OpK K rRep dMulL := by
  intro W σ ι H S x y a b Q s rx ry h
  unfold dMulL at h
  split at h
  · rename_i k
    split at h
    · rename_i xs e
      unfold ifp at h
      split at h
      · rename_i hl
        obtain ⟨p, vs, rfl, hp, rp⟩ := lst_at s rx e
        refine ⟨p, k, vs, rfl, int_at ry, hp, hl.1, hl.2.1, ?_, new_loc h s (RepL.replicate rp _)⟩
        rw [← RepL.length _ _ rp]; exact hl.2.2
      · exact h.elim
    · exact h.elim
  · exact h.elim
end DL
namespace DL
open PySem PySem.Spec L2
open PyProof.Rows hiding St
end DL
namespace DL
open PySem PySem.Spec L2
open PyProof.Rows hiding St
end DL
namespace DL
open PySem PySem.Spec L2
open PyProof.Rows hiding St
end DL
namespace DL
open PySem PySem.Spec L2
open PyProof.Rows hiding St
end DL
namespace DL
open PySem PySem.Spec L2
open PyProof.Rows hiding St
end DL
namespace DL
open PySem PySem.Spec L2
open PyProof.Rows hiding St
end DL
namespace DL
open PySem PySem.Spec L2
open PyProof.Rows hiding St
end DL
namespace DL
open PySem PySem.Spec L2
open PyProof.Rows hiding St
end DL
namespace DL
open PySem PySem.Spec L2
open PyProof.Rows hiding St
end DL
namespace DL
open PySem L2
open Sem (wp)
open PyProof.Rows (AllBare)
def deadK : Resume → Sem PySem.Fin := fun _ => .unsupported ""
def deadR : Result → Sem PySem.Fin := fun _ => .unsupported ""
/-- a frame that can't be gone on with; it looks the same from outside -/
def hush (F : Frame) : Frame := .ret deadR none false [] F.where_.1 F.where_.2 []
def deaf : GenState → GenState
  | .suspended _ l c p fs cl => .suspended deadK l c p (fs.map hush) cl
  | x => x
def asleep : GenState → Bool
  | .suspended .. => true
  | _ => false
theorem deaf_bare (x : GenState) : (deaf x).bare = x.bare := by cases x <;> rfl
/-- no generator's frame is among the frames that are kept -/
def clean : GenState → Prop
  | .suspended _ _ _ _ fs _ => splitAtGen fs = none
  | _ => True
/-- b: the state in which the run was shown; s: the state as it is; what slept in G is deaf in b -/
structure SLk (G : Array GenState) (b s : Shared) : Prop where
  heap : s.heap = b.heap
  drawn : s.drawn = b.drawn
  toks : s.toks = b.toks
  os : s.os = b.os
  size : s.gens.size = b.gens.size
  le : G.size ≤ b.gens.size
  old : ∀ (i : Nat) x, G[i]? = some x → asleep x = true → b.gens[i]? = some (deaf x) ∧ s.gens[i]? = some x
  new : ∀ (i : Nat), (∀ x, G[i]? = some x → asleep x = false) → s.gens[i]? = b.gens[i]? ∧ ∀ x, b.gens[i]? = some x → clean x
theorem SLk.eq {G : Array GenState} {b s : Shared} (h : SLk G b s) : s = { b with gens := s.gens } := by
  obtain ⟨h1, g1, d1, t1, o1⟩ := s
  obtain ⟨h2, g2, d2, t2, o2⟩ := b
  obtain ⟨e1, e2, e3, e4, _⟩ := h
  cases e1; cases e2; cases e3; cases e4; rfl
theorem SLk.or {G : Array GenState} {b s : Shared} (h : SLk G b s) (i : Nat) : (∃ x, G[i]? = some x ∧ asleep x = true) ∨ ∀ x, G[i]? = some x → asleep x = false := by
  cases e : G[i]? with
  | none => exact .inr fun x hx => by cases hx
  | some x =>
    cases ha : asleep x with
    | true => exact .inl ⟨x, rfl, ha⟩
    | false => exact .inr fun y hy => by cases hy; exact ha
theorem SLk.push {G : Array GenState} {b s : Shared} (h : SLk G b s) (c : Code) : SLk G { b with gens := b.gens.push (.fresh c) } { s with gens := s.gens.push (.fresh c) } := by
  refine ⟨h.heap, h.drawn, h.toks, h.os, ?_, ?_, fun i y hy ha => ?_, fun i hi => ?_⟩
  · simp [h.size]
  · have := h.le
    simp only [Array.size_push]; omega
  · obtain ⟨q1, q2⟩ := h.old i y hy ha
    have l1 := (Array.getElem?_eq_some_iff.mp q1).1
    have l2 := (Array.getElem?_eq_some_iff.mp q2).1
    simp only [Array.getElem?_push, Nat.ne_of_lt l1, Nat.ne_of_lt l2, if_false]
    exact ⟨q1, q2⟩
  · obtain ⟨q1, q2⟩ := h.new i hi
    simp only [Array.getElem?_push, h.size]
    refine ⟨?_, fun y hy => ?_⟩
    · split
      · rfl
      · exact q1
    · split at hy
      · cases hy; trivial
      · exact q2 y hy
/-- what was let go stays so -/
structure Gone (s s' : Shared) : Prop where
  size : s.heap.objs.size ≤ s'.heap.objs.size
  none : ∀ b, b < s.heap.objs.size → s.heap.get? b = none → s'.heap.get? b = none
theorem Gone.trans {a b c : Shared} (h : Gone a b) (k : Gone b c) : Gone a c := ⟨Nat.le_trans h.size k.size, fun d hd e => k.none d (Nat.lt_of_lt_of_le hd h.size) (h.none d hd e)⟩
theorem Gone.heap {a b c : Shared} (h : Gone a b) (e : c.heap = b.heap) : Gone a c := ⟨by rw [e]; exact h.size, fun d hd q => by rw [e]; exact h.none d hd q⟩
/-- what sleeps in s sleeps in s' as it did; what was let go stays so -/
structure Kept (s s' : Shared) : Prop where
  gen : ∀ (i : Nat) x, s.gens[i]? = some x → asleep x = true → s'.gens[i]? = some x
  gone : Gone s s'
theorem Kept.trans {a b c : Shared} (h : Kept a b) (k : Kept b c) : Kept a c := ⟨fun i x e z => k.gen i x (h.gen i x e z) z, h.gone.trans k.gone⟩
theorem SLk.kept {b s' s : Shared} (l : SLk s.gens b s') (g : Gone s s') : Kept s s' := ⟨fun i x e z => (l.old i x e z).2, g⟩
theorem SLk.bare {G : Array GenState} {b s : Shared} (l : SLk G b s) (h : AllBare b.gens) : AllBare s.gens := fun x hx => by
  obtain ⟨i, hi, rfl⟩ := Array.mem_iff_getElem.mp hx
  have hs : s.gens[i]? = some s.gens[i] := Array.getElem?_eq_getElem hi
  rcases l.or i with ⟨y, hy, ha⟩ | hn
  · obtain ⟨q1, q2⟩ := l.old i y hy ha
    rw [hs] at q2
    have e : s.gens[i] = y := Option.some.inj q2
    rw [e, ← deaf_bare]
    exact h _ (Array.mem_of_getElem? q1)
  · rw [(l.new i hn).1] at hs
    exact h _ (Array.mem_of_getElem? hs)
end DL
namespace DL
open PySem PySem.Spec L2
open PyProof.Rows hiding St
/-- the tuples stand -/
def TF (u : HO) : Prop := (∃ xs, u = .tup xs) ∨ ∃ o v, u = .frz o v
def Tx (H H' : Hp) : Prop := ∀ a u, TF u → H a = some u → H' a = some u
theorem Tx.tup {H H' : Hp} (t : Tx H H') {a : Addr} {xs : List V} (e : H a = some (.tup xs)) : H' a = some (.tup xs) := t a _ (.inl ⟨_, rfl⟩) e
theorem Tx.frz {H H' : Hp} (t : Tx H H') {a : Addr} {o : Obj} {u : HO} (e : H a = some (.frz o u)) : H' a = some (.frz o u) := t a _ (.inr ⟨_, _, rfl⟩) e
theorem TF.ne {u : HO} (t : TF u) : ∀ φ, u ≠ .ext φ := fun φ z => by
  rcases t with ⟨xs, rfl⟩ | ⟨o, v, rfl⟩ <;> cases z
theorem Tx.trans {H H1 H2 : Hp} (a : Tx H H1) (b : Tx H1 H2) : Tx H H2 := fun c u f e => b c u f (a c u f e)
section
variable {K : PySem.W.Frag} {ι : List Addr} {H H' : Hp}
theorem Sim.noTup {S : Sto} (s : Sim K ι H S) {a : Addr} {xs : List V} (e : H a = some (.tup xs)) : a ∉ ι := fun z => by
  obtain ⟨n, hn, rfl⟩ := List.mem_iff_getElem.mp z
  have hs : n < S.length := by rw [← s.len]; exact hn
  have := s.ob n ι[n] S[n] (List.getElem?_eq_some_iff.mpr ⟨hn, rfl⟩) (List.getElem?_eq_some_iff.mpr ⟨hs, rfl⟩)
  revert this
  cases S[n] with
  | lst ds => rintro ⟨vs, q, _⟩; rw [e] at q; cases q
  | ins C fs => rintro ⟨C', dx, vs, _, q, _⟩; rw [e] at q; cases q
  | dct ks => rintro ⟨vs, q, _⟩; rw [e] at q; cases q
  | dtt ks => rintro ⟨o, vs, q, _⟩; rw [e] at q; cases q
  | scr ds => rintro ⟨o, vs, q, _⟩; rw [e] at q; cases q
  | tpl ds => rintro ⟨o, vs, q, _⟩; rw [e] at q; cases q
  | dkt ks => rintro ⟨vs, q, _⟩; rw [e] at q; cases q
  | dkl ks => rintro ⟨o, vs, q, _⟩; rw [e] at q; cases q
/-- all that stands stays -/
theorem Grow.all {ι : List Addr} (h : ∀ a o, H a = some o → H' a = some o) : Grow ι H ι H' := ⟨List.prefix_rfl, fun a o e _ => h a o e, fun _ z n => absurd z n, fun a od u e => h a _ e⟩
theorem Sim.all {S : Sto} (s : Sim K ι H S) (h : ∀ a o, H a = some o → H' a = some o) : Sim K ι H' S :=
  ⟨s.nd, s.len, fun n a o e1 e2 => by
    have q := s.ob n a o e1 e2
    obtain ⟨u, hu⟩ := q.some
    exact q.grow (Grow.all h) ((h a u hu).trans hu.symm)⟩
end
def hcut (h : Heap) (L : Nat) : Heap := { h with objs := h.objs.extract 0 L }
open Classical in
/-- what the generator must not touch: the untracked young objects, as they are -/
noncomputable def gmark (L : Addr) (pv : List Addr) (H : Hp) (h : Heap) : Hp := fun b => match H b with
  | some u => some u
  | none => if L ≤ b ∧ b ∉ pv then (match h.get? b with
    | some o => some (.ext fun h' => h'.get? b = some o)
    | none => none) else none
/-- the generator's context while it runs for a consumer -/
noncomputable def gx (N : List Str) (env : Env) (X : Cx) (pv : List Addr) (H : Hp) (s : Shared) : Cx where
  prog := X.prog
  w := X.w
  K := X.K
  mg := X.mg
  base := X.base
  A := X.A.in1.deeper env
  N := N
  s_0 := { s with heap := hcut s.heap env.locals }
  H_0 := gmark env.locals pv H s.heap
  env := env
  outer := X.stack
  stack := env :: X.stack
  ex := []
  fn := fun _ => true
  calm := true
  pn := []
  xe := fun _ _ => False
/-- a frame of a generator def without cells -/
structure GEnv (N : List Str) (env : Env) : Prop where
  kind : env.scope.kind = .function
  glob : env.globals = mainGlobals
  blt : env.builtins = builtinsNs
  cells : ∀ x, env.cells.lookup x = none
  nocell : ∀ x, env.kindOf x ≠ some .cell ∧ env.kindOf x ≠ some .free
  frame : env.frame = some env.locals
/-- what the frame holds: the slots' values by the object -/
def Slots (N : List Str) (env : Env) (lo : Obj) (σ : St) : Prop := (∀ v, lo.data ≠ .cell v) ∧ σ.length = N.length ∧ ∃ m, (∀ h : Heap, h.get? env.locals = some lo → h.Ns env.locals m) ∧
  ∀ (i : Nat) (x : Str) (v : V), N[i]? = some x → σ[i]? = some (some v) → Vis env.scope x → ∃ u, RelV v u ∧ env.kindOf x = some .local ∧ m x = some u
section
variable {N : List Str} {env : Env} {X : Cx} {pins : List (Addr × Obj)} {σ σg : St} {H H' : Hp} {s s' : Shared} {pv : List Addr} {ip : List (Addr × Obj)}
theorem Slots.of (g : GEnv N env) (I : Inv (gx N env X pv H s) ip σg H' s') : ∃ lo, s'.heap.get? env.locals = some lo ∧ Slots N env lo σg := by
  obtain ⟨m, ⟨o, es, ep, ho, hd, hk, hm⟩, hl⟩ := I.loc
  refine ⟨o, ho, (fun v (z : o.data = .cell v) => by rw [hd] at z; cases z), I.len, m, fun h e => ⟨o, es, ep, e, hd, hk, hm⟩, fun i x v e1 e2 e3 => ?_⟩
  obtain ⟨u, r, l⟩ := hl i x v e1 e2 e3
  refine ⟨u, r, ?_⟩
  rcases l with l | ⟨k, _⟩
  · exact l
  · exact absurd k (fun k => k.elim (g.nocell x).1 (g.nocell x).2)
end
end DL
namespace DL
open PySem L2
open PyProof.Rows hiding St
open Sem (wp)
/-- one stretch of a run, up to its end or to what it hands out -/
def Sg (M : Model) (A : Around) (Φ : End → Shared → Prop) (c : Code) (t : Sem PySem.Fin) (fs : List Frame) (s : Shared) : Prop :=
  ∀ Γ p, Γ.code = c → Γ.Woken A → ∃ e s', Runs M Γ p t fs s e s' ∧ Φ e s'
section
variable {M : Model} {A : Around} {Φ : End → Shared → Prop} {c : Code} {fs : List Frame} {s : Shared}
theorem Sg.mono {Ψ : End → Shared → Prop} {t : Sem PySem.Fin} (h : Sg M A Φ c t fs s) (i : ∀ e s1, Φ e s1 → Ψ e s1) : Sg M A Ψ c t fs s := fun Γ p hc hw => by
  obtain ⟨e, s1, z1, z2⟩ := h Γ p hc hw
  exact ⟨e, s1, z1, i e s1 z2⟩
end
section
variable (P : Program) (w : World) (K : PySem.W.Frag) (mg : Str → Option Value) (base : Heap) (k : Nat) (N : List Str) (env : Env)
/-- what a statement of a generator hands out, and the slots behind it -/
abbrev GM := Ev → List D → Ev → Prop
end
section
variable {P : Program} {w : World} {K : PySem.W.Frag} {mg : Str → Option Value} {base : Heap} {k : Nat} {N : List Str} {env : Env} {ga : (Addr × Obj) × Nat} {st : Stmt} {rest : List Stmt}
def gNil : GM := fun ρ ys ρ' => ys = [] ∧ ρ' = ρ
end
end DL
namespace DL
open PySem L2
open PyProof.Rows hiding St
open Sem (wp)
end DL
namespace DL
open PySem L2
open PyProof.Rows hiding St
open Sem (wp)
end DL
namespace DL
open PySem L2
open PyProof.Rows hiding St
open Sem (wp)
end DL
namespace DL
open PySem L2
open PyProof.Rows hiding St
open Sem (wp)
end DL
namespace DL
open PySem L2
open PyProof.Rows hiding St
open Sem (wp)
end DL
namespace DL
open PySem L2
open PyProof.Rows hiding St
open Sem (wp)
end DL
namespace DL
open PySem PySem.Spec L2
open PyProof.Rows hiding St
section
variable {K : PySem.W.Frag} {ι : List Addr} {H : Hp}
def putD (f : Str) (d : D) : List (Str × D) → List (Str × D)
  | [] => [(f, d)]
  | (g, x) :: r => if g = f then (g, d) :: r else (g, x) :: putD f d r
theorem RepF.put {f : Str} {d : D} {v : V} (rv : RepV K ι H d v) : ∀ {fs : List (Str × D)} {vs : List (Str × V)}, RepF K ι H fs vs → RepF K ι H (putD f d fs) (putF f v vs)
  | [], _, r => by
    rw [RepF] at r
    subst r
    exact RepF.one rv
  | (k, x) :: fs, _, r => by
    rw [RepF] at r
    obtain ⟨u, vs, rfl, rx, rr⟩ := r
    unfold putD putF
    by_cases h : k = f
    · rw [if_pos h, if_pos h, RepF]
      exact ⟨v, vs, rfl, rv, rr⟩
    · rw [if_neg h, if_neg h, RepF]
      exact ⟨u, _, rfl, rx, RepF.put rv rr⟩
theorem RepF.len : ∀ {fs : List (Str × D)} {vs : List (Str × V)}, RepF K ι H fs vs → fs.length = vs.length
  | [], _, r => by rw [RepF] at r; subst r; rfl
  | (k, x) :: fs, _, r => by
    rw [RepF] at r
    obtain ⟨v, vs, rfl, rx, rr⟩ := r
    simp [RepF.len rr]
end
end DL
namespace DL
open PySem PySem.Spec L2
open PyProof.Rows hiding St
abbrev CF := D → Ev → Sto → SR
end DL
namespace DL
open PySem PySem.Spec L2
open PyProof.Rows hiding St
end DL
namespace DL
open PySem PySem.Spec L2
open PyProof.Rows hiding St
def keyOf : D → Option Key
  | .int i => some (.inl i)
  | .str x => some (.inr x)
  | _ => none
def putKD (kvs : List (Key × D)) (k : Key) (v : D) : List (Key × D) :=
  if (kvs.any fun kv => decide (kv.1 = k)) = true then kvs.map (fun kv => if kv.1 = k then (kv.1, v) else kv) else kvs ++ [(k, v)]
theorem key_at {K : PySem.W.Frag} {ι : List Addr} {H : Hp} {d : D} {v : V} {k : Key} (r : RepV K ι H d v) (e : keyOf d = some k) : v = kV k := by
  cases d with
  | int i => cases e; rw [RepV] at r; exact r
  | str x => cases e; rw [RepV] at r; exact r
  | _ => cases e
theorem RepK.any {K : PySem.W.Frag} {ι : List Addr} {H : Hp} {k : Key} : ∀ {kvs : List (Key × D)} {vs : List (Key × V)}, RepK K ι H kvs vs → (vs.any fun kv => decide (kv.1 = k)) = (kvs.any fun kv => decide (kv.1 = k))
  | [], _, h => by rw [RepK] at h; subst h; rfl
  | (j, x) :: kvs, _, h => by
    rw [RepK] at h
    obtain ⟨v, r, rfl, a, b⟩ := h
    rw [List.any_cons, List.any_cons, RepK.any b]
theorem RepK.repl {K : PySem.W.Frag} {ι : List Addr} {H : Hp} {k : Key} {d : D} {v : V} (rv : RepV K ι H d v) : ∀ {kvs : List (Key × D)} {vs : List (Key × V)}, RepK K ι H kvs vs → RepK K ι H (kvs.map fun kv => if kv.1 = k then (kv.1, d) else kv) (vs.map fun kv => if kv.1 = k then (kv.1, v) else kv)
  | [], _, h => by rw [RepK] at h; subst h; rw [List.map_nil, RepK]; rfl
  | (j, x) :: kvs, _, h => by
    rw [RepK] at h
    obtain ⟨w, r, rfl, a, b⟩ := h
    rw [List.map_cons, List.map_cons]
    by_cases hj : j = k
    · simp only [hj, if_true]
      rw [RepK]
      exact ⟨v, _, rfl, rv, RepK.repl rv b⟩
    · simp only [hj, if_false]
      rw [RepK]
      exact ⟨w, _, rfl, a, RepK.repl rv b⟩
theorem RepK.snoc {K : PySem.W.Frag} {ι : List Addr} {H : Hp} {k : Key} {d : D} {v : V} (rv : RepV K ι H d v) : ∀ {kvs : List (Key × D)} {vs : List (Key × V)}, RepK K ι H kvs vs → RepK K ι H (kvs ++ [(k, d)]) (vs ++ [(k, v)])
  | [], _, h => by rw [RepK] at h; subst h; rw [List.nil_append, RepK]; exact ⟨v, [], rfl, rv, by rw [RepK]⟩
  | (j, x) :: kvs, _, h => by
    rw [RepK] at h
    obtain ⟨w, r, rfl, a, b⟩ := h
    rw [List.cons_append, RepK]
    exact ⟨w, _, rfl, a, RepK.snoc rv b⟩
theorem RepK.put {K : PySem.W.Frag} {ι : List Addr} {H : Hp} {k : Key} {d : D} {v : V} {kvs : List (Key × D)} {vs : List (Key × V)} (h : RepK K ι H kvs vs) (rv : RepV K ι H d v) : RepK K ι H (putKD kvs k d) (putK vs k v) := by
  unfold putKD putK
  rw [RepK.any h]
  split
  · exact RepK.repl rv h
  · exact RepK.snoc rv h
theorem RepK.len {K : PySem.W.Frag} {ι : List Addr} {H : Hp} {kvs : List (Key × D)} {vs : List (Key × V)} (h : RepK K ι H kvs vs) : vs.length = kvs.length := by
  have := congrArg List.length (RepK.keys h)
  simpa using this
def rSetD : TSet := fun o i v H Q => ∃ a H', o = .ref a ∧ DPut H a i v H' ∧ Q H'
theorem set_dict {X : Cx} (hu : X.A.units + 64 < cLine) : PSet X rSetD := by
  intro pins s σ H o i v ov iv u Q I ro ri rv h
  obtain ⟨a, H', rfl, g, q⟩ := h
  cases ro
  exact d_setItem (by omega) I g ri rv fun s' I' => ⟨H', I', q⟩
end DL
namespace DL
open PySem PySem.Spec L2
open PyProof.Rows hiding St
end DL
namespace DL
open PySem PySem.Spec L2
open PyProof.Rows hiding St
end DL
namespace DL
open PySem PySem.Spec L2
open PyProof.Rows hiding St
end DL
namespace DL
open PySem PySem.Spec L2
open PyProof.Rows hiding St
end DL
namespace DL
open PySem PySem.Spec L2
open PyProof.Rows hiding St
end DL
namespace DL
open PySem PySem.Spec L2 PySem.W
open PyProof.Rows hiding St
end DL
namespace DL
open PySem PySem.Spec L2 ClX
open PyProof.Rows hiding St
end DL
namespace DL
open PySem PySem.Spec L2
open PyProof.Rows hiding St
end DL
namespace DL
open PySem PySem.Spec L2 ClX
open PyProof.Rows hiding St
end DL
namespace DL
open PySem PySem.Spec L2
open PyProof.Rows hiding St
end DL
namespace DL
open PySem PySem.Spec L2
open PyProof.Rows hiding St
end DL
namespace DL
open PySem PySem.Spec L2
open PyProof.Rows hiding St
end DL
namespace DL
open PySem PySem.Spec L2
open PyProof.Rows hiding St
end DL
namespace DL
open PySem PySem.Spec L2
open PyProof.Rows hiding St
end DL
namespace DL
open PySem PySem.Spec L2
open PyProof.Rows hiding St
section
variable {X : Cx} {W : WX} {pos : Pos}
theorem RepK.at {K : PySem.W.Frag} {ι : List Addr} {H : Hp} : ∀ {kvs : List (Key × D)} {ws : List (Key × V)}, RepK K ι H kvs ws → kvs.length = ws.length ∧ ∀ (i : Nat) (q : Key × D), kvs[i]? = some q → ∃ v, ws[i]? = some (q.1, v) ∧ RepV K ι H q.2 v
  | [], _, h => by rw [RepK] at h; subst h; exact ⟨rfl, fun i q e => by simp at e⟩
  | (k, d) :: r, _, h => by
    rw [RepK] at h
    obtain ⟨v, ws, rfl, a, b⟩ := h
    obtain ⟨h1, h2⟩ := RepK.at b
    refine ⟨by simp [h1], fun i q e => ?_⟩
    cases i with
    | zero => simp at e; subst e; exact ⟨v, rfl, a⟩
    | succ i => exact h2 i q (by simpa using e)
end
end DL
namespace DL
open PySem PySem.Spec L2 PySem.W
open PyProof.Rows hiding St
end DL
namespace DL
open PySem PySem.Spec L2 GenW
open PyProof.Rows hiding St
open Sem (wp)
end DL
namespace DL
open PySem PySem.Spec L2
open PyProof.Rows hiding St
/-- the def at f does what F says, called by position -/
def FnN (gd : Bool) (P : Program) (w : World) (K : PySem.W.Frag) (mg : Str → Option Value) (base : Heap) (k : Nat) (f : Addr) (F : Fn) : Prop :=
  ∀ (A : Around) (outer : List Env) (s : Shared) (H : Hp) (us : List Value) (vs : List V) (Q : VK) (E : XK), Room k A → (gd = true → A.guards = some []) → Env0 P w K mg base A outer s H → Vals vs us → spD K F vs H Q E →
    codeAny (model P w) A (.call (.ref f) ⟨us, []⟩) (CR (L2N.CX P w) outer P w H s Q E) s
theorem FnN.mono {gd : Bool} {P : Program} {w : World} {K : PySem.W.Frag} {mg : Str → Option Value} {base : Heap} {j k : Nat} {f : Addr} {F : Fn} (h : FnN gd P w K mg base j f F) (hj : j ≤ k) : FnN gd P w K mg base k f F :=
  fun A outer s H us vs Q E hr => h A outer s H us vs Q E (hr.mono hj)
end DL
namespace G3
open PySem PySem.Spec L2 DL
open PyProof.Rows hiding St
abbrev ZF := Heap → Hp → Value → Option Addr → Obj → Prop
def XE (Z : ZF) (X : Cx) (W : WX) (u : Value) (s' : Shared) : Prop :=
  ∃ (a : Addr) (B : Heap) (sI : Shared) (pins : List (Addr × Obj)) (σ : L2.St) (H : Hp) (cls : Value) (d : Option Addr), u = .ref a ∧ Inv X pins σ H sI ∧
    (∀ b o, sI.heap.get? b = some o → b ∉ frs X.stack → B.get? b = some o) ∧ sI.heap.UpToSlots s'.heap ∧ Sky B X.stack a (Z B H cls d) X.env.locals s'.heap ∧ H a = none ∧ s'.os = sI.os ∧ AllBare s'.gens ∧ W cls d σ H
def CX (Z : ZF) (P : Program) (w : World) (outer : List Env) (H : Hp) (s : Shared) (E : XK) (u : Value) (s' : Shared) : Prop :=
  ∃ (a : Addr) (B : Heap) (H' : Hp) (cls : Value) (d : Option Addr), u = .ref a ∧ HandSPX.FlyingZ B outer a (Z B H' cls d) s'.heap ∧ HOk P w H' B ∧ UB (frs outer) H H' s.heap B s'.heap ∧ H' a = none ∧ s'.os = s.os ∧ AllBare s'.gens ∧ E cls d H'
theorem sky_imp {B h : Heap} {l : List Env} {a L : Addr} {Z Z' : Obj → Prop} (z : ∀ o, Z o → Z' o) (x : Sky B l a Z L h) : Sky B l a Z' L h := by
  rcases x with ⟨h1, h2, h3, oe, vs, e, q, r⟩ | x | ⟨h1, h2, h3, x⟩
  · exact .inl ⟨h1, h2, h3, oe, vs, e, z _ q, r⟩
  · exact .inr (.inl (L2H.flyingZ_imp z x))
  · exact .inr (.inr ⟨h1, h2, h3, L2H.tracedZ_imp z x⟩)
section
variable {Z : ZF} {X : Cx} {pins : List (Addr × Obj)} {σ : L2.St} {H : Hp} {sI s s' : Shared} {W : WX} {E : XK}
theorem XE.imp {Z' : ZF} (z : ∀ B H cls d o, Z B H cls d o → Z' B H cls d o) {u : Value} (x : XE Z X W u s') : XE Z' X W u s' := by
  obtain ⟨a, B, sI, pins, σ, H, cls, d, e, I, nb, up, sky, r⟩ := x
  exact ⟨a, B, sI, pins, σ, H, cls, d, e, I, nb, up, sky_imp (z B H cls d) sky, r⟩
theorem XE.new {a : Addr} {oe : Obj} {vs : Array Value} {cls : Value} {d : Option Addr} (I : Inv X pins σ H sI) (k : ∀ b o, sI.heap.get? b = some o → s'.heap.get? b = some o) (hne : sI.heap.get? a = none) (he : s'.heap.get? a = some oe)
    (hz : Z (PySem.W.hideAll sI.heap (frs X.stack)) H cls d oe) (hd : oe.data = .fields vs) (h1 : vs[1]? = some .none) (na : H a = none) (os : s'.os = sI.os) (ag : AllBare s'.gens) (w : W cls d σ H) : XE Z X W (.ref a) s' := by
  have hB : ∀ b o, (PySem.W.hideAll sI.heap (frs X.stack)).get? b = some o → sI.heap.get? b = some o := fun b o e => PySem.W.of_hideAll _ e
  have nB : (PySem.W.hideAll sI.heap (frs X.stack)).get? a = none := by
    cases q : (PySem.W.hideAll sI.heap (frs X.stack)).get? a with
    | none => rfl
    | some o => rw [hB a o q] at hne; cases hne
  have ff : s'.heap.FunFrames (PySem.W.hideAll sI.heap (frs X.stack)) X.stack := Heap.FunFrames.of_keeps (fun b o e _ => ⟨o, k b o e, rfl⟩) (funFrames_none I.stack fun b hb => PySem.W.hideAll_none _ hb)
  exact ⟨a, _, sI, pins, σ, H, cls, d, rfl, I, fun b o e hb => PySem.W.hideAll_get _ e hb, Heap.UpToSlots.of_keeps k, .inl ⟨fun b o e => k b o (hB b o e), nB, ff, oe, vs, he, hz, hd, h1⟩, na, os, ag, w⟩
end
/-- the error's context is none, or an error on the ground whose context is none -/
def Z3 : ZF := fun B H cls d o => Zc cls d o ∧ (PXN.CtxN o ∨ ∃ (c : Addr) (oc : Obj) (us : Array Value), (∀ vs, o.data = .fields vs → vs[2]? = some (.ref c)) ∧ B.get? c = some oc ∧ oc.data = .fields us ∧ us[2]? = some .none ∧ H c = none)
/-- the handled error and its chain, as they stand -/
def HotQ (A : Around) (h : Heap) : Prop := ∃ (x1 : Addr) (o : Obj) (vs : Array Value), A.handled = some (.ref x1) ∧ h.get? x1 = some o ∧ o.data = .fields vs ∧
  (vs[2]? = some .none ∨ ∃ (c : Addr) (oc : Obj) (us : Array Value), vs[2]? = some (.ref c) ∧ c ≠ x1 ∧ h.get? c = some oc ∧ oc.data = .fields us ∧ us[2]? = some .none)
theorem HotQ.keeps {A : Around} {h h' : Heap} (x : HotQ A h) (k : ∀ b o, h.get? b = some o → (∃ vs, o.data = .fields vs) → h'.get? b = some o) : HotQ A h' := by
  obtain ⟨x1, o, vs, h1, h2, h3, h4⟩ := x
  refine ⟨x1, o, vs, h1, k _ _ h2 ⟨vs, h3⟩, h3, h4.imp id fun ⟨c, oc, us, q1, q2, q3, q4, q5⟩ => ⟨c, oc, us, q1, q2, k _ _ q3 ⟨us, q4⟩, q4, q5⟩⟩
/-- the context bears the handled error and its chain -/
def HotZ (X : Cx) : Prop := ∃ (p : Addr × Obj) (vs : Array Value), X.A.handled = some (.ref p.1) ∧ p ∈ X.pn ∧ p.2.data = .fields vs ∧
  (vs[2]? = some .none ∨ ∃ (q : Addr × Obj) (us : Array Value), vs[2]? = some (.ref q.1) ∧ q.1 ≠ p.1 ∧ q ∈ X.pn ∧ q.2.data = .fields us ∧ us[2]? = some .none)
theorem HotZ.at {X : Cx} {pins : List (Addr × Obj)} {σ : L2.St} {H : Hp} {s : Shared} (c : HotZ X) (I : Inv X pins σ H s) : HotQ X.A s.heap := by
  obtain ⟨p, vs, h1, h2, h3, h4⟩ := c
  have at_ : ∀ q ∈ X.pn, s.heap.get? q.1 = some q.2 := fun q hq => (I.pin q (List.mem_append_left _ hq)).1
  exact ⟨p.1, p.2, vs, h1, at_ p h2, h3, h4.imp id fun ⟨q, us, q1, q2, q3, q4, q5⟩ => ⟨q.1, q.2, us, q1, q2, at_ q q3, q4, q5⟩⟩
end G3
namespace DL
open PySem PySem.Spec L2
open PyProof.Rows hiding St
/-- the def at f does what F says, called by position -/
def FnG (gd : Bool) (P : Program) (w : World) (K : PySem.W.Frag) (mg : Str → Option Value) (base : Heap) (k : Nat) (f : Addr) (F : Fn) : Prop :=
  ∀ (A : Around) (outer : List Env) (s : Shared) (H : Hp) (us : List Value) (vs : List V) (Q : VK) (E : XK), Room k A → (gd = true → A.guards = some []) → Env0 P w K mg base A outer s H → Vals vs us → spD K F vs H Q E →
    codeAny (model P w) A (.call (.ref f) ⟨us, []⟩) (CR (G3.CX G3.Z3 P w) outer P w H s Q E) s
theorem FnG.mono {gd : Bool} {P : Program} {w : World} {K : PySem.W.Frag} {mg : Str → Option Value} {base : Heap} {j k : Nat} {f : Addr} {F : Fn} (h : FnG gd P w K mg base j f F) (hj : j ≤ k) : FnG gd P w K mg base k f F :=
  fun A outer s H us vs Q E hr => h A outer s H us vs Q E (hr.mono hj)
end DL
namespace DL
open PySem PySem.Spec L2
open PyProof.Rows hiding St
end DL
namespace DL
open PySem PySem.Spec L2
open PyProof.Rows hiding St
end DL
namespace DL
open PySem PySem.Spec L2
open PyProof.Rows hiding St
end DL
namespace HotY
open PySem PySem.Spec PyProof.Rows L2 L2H HotX
abbrev St := L2.St
/-- the handled error stands in every state of the context, its context None, and is none of fp -/
def HotI (X : Cx) (fp : List Addr) : Prop := ∀ (pins : List (Addr × Obj)) (σ : St) (H : Hp) (s : Shared), Inv X pins σ H s → ∃ x1, HotAt X.A x1 s.heap ∧ x1 ∉ fp
/-- it is pinned -/
def HotP (X : Cx) : Prop := ∃ p : Addr × Obj, Hot1 X.A p ∧ p ∈ X.pn
theorem HotP.blk {X : Cx} {pins : List (Addr × Obj)} {σ : St} {H : Hp} {s : Shared} {scope : Scope} {env : Env} {fp : List Addr} (h : HotP X) (I : Inv X pins σ H s) (hf : ∀ b ∈ fp, FpOk X pins H b) : HotI (X.blk s H scope env fp) fp := fun pins' σ' H' s' I' => by
  obtain ⟨p, ⟨hh, v1, e1, c1⟩, hp⟩ := h
  obtain ⟨p1, p2, p3, p4, p5⟩ := I.pin p (List.mem_append_left _ hp)
  have nf : p.1 ∉ fp := fun hm => (hf p.1 hm).2.2.2.2.2 p (List.mem_append_left _ hp) rfl
  have ns : p.1 ∉ frs X.stack := fun hm => (List.mem_cons.mp (I.stkSub p.1 hm)).elim p3 p4
  exact ⟨p.1, ⟨hh, p.2, v1, I'.base.keep p.1 p.2 p1 p2 ns nf, e1, c1⟩, nf⟩
theorem HotI.nil {X : Cx} {fp : List Addr} (h : HotI X fp) : HotI X [] := fun pins σ H s I => by
  obtain ⟨x1, a, _⟩ := h pins σ H s I
  exact ⟨x1, a, by simp⟩
structure TurnQ (P : Program) (w : World) (K : PySem.W.Frag) (tg : Expr) (J : It) (fp : List Addr) (it : Addr) (tn : Nat → Heap → Prop) : Prop where
  mem : it ∈ fp
  obj : ∀ i h, tn i h → ∀ b ∈ fp, ∃ o, h.get? b = some o ∧ ∀ v, o.data ≠ .cell v
  keep : ∀ i h h', tn i h → (∀ b ∈ fp, ∀ o, h.get? b = some o → h'.get? b = some o) → tn i h'
  item : ∀ (X : Cx), X.prog = P → X.w = w → X.K = K → HotI X fp → ∀ (i : Nat) (pins : List (Addr × Obj)) (s : Shared) (σ : St) (H : Hp) (E : Value → Shared → Prop), Inv X pins σ H s → (∀ b ∈ fp, FpOk X pins H b) → tn i s.heap → J.go i H →
    wpAny (model P w) X.A (pyNext (.ref it)) (fun r s1 => ∃ u, r = some u ∧
      wpAny (model P w) X.A (letOwnedTupleGo tg (.ref it) u) (fun _ s2 => ∃ x H', Inv X pins σ H' s2 ∧ RelV x u ∧ J.yld i H x H' ∧ tn (i + 1) s2.heap ∧ ∀ b ∈ fp, H' b = none) E s1) E s
  done : ∀ (X : Cx), X.prog = P → X.w = w → X.K = K → HotI X fp → ∀ (i : Nat) (pins : List (Addr × Obj)) (s : Shared) (σ : St) (H : Hp) (E : Value → Shared → Prop), Inv X pins σ H s → (∀ b ∈ fp, FpOk X pins H b) → tn i s.heap → J.stop i H →
    wpAny (model P w) X.A (pyNext (.ref it)) (fun r s1 => r = none ∧ Inv X pins σ H s1) E s
  self : ∀ (A : Around) (i : Nat) (s : Shared) (Q : Value → Shared → Prop) (E : Value → Shared → Prop), tn i s.heap → Q (.ref it) s → wpAny (model P w) A (pyIter (.ref it)) Q E s
def PIEQ (X : Cx) (pins : List (Addr × Obj)) (σ : St) (tg : Expr) (R : It → Hp → Prop) (itv : Value) (s2 : Shared) : Prop :=
  ∃ (it : Addr) (fp : List Addr) (tn : Nat → Heap → Prop) (J : It) (H' : Hp), itv = .ref it ∧ Inv X pins σ H' s2 ∧ TurnQ X.prog X.w X.K tg J fp it tn ∧ tn 0 s2.heap ∧ (∀ b ∈ fp, FpOk X pins H' b) ∧ R J H'
structure PIQ (X : Cx) (tg iter : Expr) (wi : TI) : Prop where
  run : ∀ (pins : List (Addr × Obj)) (s : Shared) (σ : St) (H : Hp) (R : It → Hp → Prop), Inv X pins σ H s → wi σ H R →
    wpAny (model X.prog X.w) X.A (eval iter X.env) (fun v s1 => wpAny (model X.prog X.w) X.A (pyIter v) (PIEQ X pins σ tg R) X.xe s1) X.xe s
end HotY
namespace DL
open PySem PySem.Spec L2 HotY
open PyProof.Rows hiding St
theorem PIQ.imp {X : Cx} {tg e : Expr} {t u : TI} (h : PIQ X tg e t) (i : ∀ σ H Q, u σ H Q → t σ H Q) : PIQ X tg e u := ⟨fun pins s σ H Q I q => h.run pins s σ H Q I (i σ H Q q)⟩
end DL
namespace DL
open PySem PySem.Spec L2 HotY
open PyProof.Rows hiding St
def DOk (H : Hp) (dd : Option Addr) : Prop := dd = none ∨ ∃ d vs, dd = some d ∧ H d = some (.xd vs)
theorem DOk.upd {H : Hp} {dd : Option Addr} {q : Addr} {o : HO} (h : DOk H dd) (hq : H q = none) : DOk (L2.upd H q o) dd := h.imp id fun ⟨d, vs, e, x⟩ => ⟨d, vs, e, by rw [upd_ne (ne_of_none x hq)]; exact x⟩
end DL
namespace DL
open PySem PySem.Spec L2 HotY
open PyProof.Rows hiding St
def FnE (P : Program) (w : World) (K : PySem.W.Frag) (mg : Str → Option Value) (base : Heap) (k : Nat) (f : Addr) (G : Cn → Option Str) : Prop :=
  ∀ (CX : CXT) (A : Around) (outer : List Env) (s : Shared) (H : Hp) (Q : VK) (E : XK) (p : Addr × Obj) (c : Cn) (w' : Str) (ι : List Addr) (S : Sto), L2H.RoomH k A → L2H.Hot1 A p → L2H.PinOk outer H s p → Env0 P w K mg base A outer s H → (∃ C, p.2.cls = .ref C ∧ RepC K c (.ref C)) → DOk H p.2.dict → G c = some w' →
    Sim K ι H S → (∀ ι' H', Grow ι H ι' H' → Sim K ι' H' S → Q (.str w') H') → codeAny (model P w) A (.call (.ref f) ⟨[.ref p.1], []⟩) (CR CX outer P w H s Q E) s
theorem FnE.mono {P : Program} {w : World} {K : PySem.W.Frag} {mg : Str → Option Value} {base : Heap} {j k : Nat} {f : Addr} {G : Cn → Option Str} (h : FnE P w K mg base j f G) (hj : j ≤ k) : FnE P w K mg base k f G :=
  fun CX A outer s H Q E p c w' ι S hr => h CX A outer s H Q E p c w' ι S (hr.mono hj)
end DL
namespace DL
open PySem PySem.Spec L2 HotY
open PyProof.Rows hiding St
end DL
namespace DL
open PySem PySem.Spec L2 HotY
open PyProof.Rows hiding St
end DL
namespace DL
open PySem PySem.Spec L2
open PyProof.Rows hiding St
theorem rep_ktp {K : PySem.W.Frag} {ι : List Addr} {H : Hp} {S : Sto} {ds : List D} {vs : List V} {p : Addr} (s : Sim K ι H S) (h : H p = none) (r : RepL K ι H ds vs) : RepV K ι (upd H p (.tup vs)) (.ktp ds) (.ref p) := by
  rw [RepV]
  exact ⟨p, vs, rfl, ⟨s.free h, upd_same⟩, RepL.grow (Grow.upd h) ds vs r⟩
theorem new_ktp {K : PySem.W.Frag} {W : WX} {σ : St} {ι : List Addr} {H : Hp} {S : Sto} {ds : List D} {vs : List V} {Q : VK} (h : Post K W σ ι H (.ok (.ktp ds) S) fun d _ ι' H' => ∀ v, RepV K ι' H' d v → Q v H') (s : Sim K ι H S) (r : RepL K ι H ds vs) :
    ∀ p, H p = none → Q (.ref p) (upd H p (.tup vs)) := fun p hp => h ι _ (Grow.upd hp) (s.upd hp) _ (rep_ktp s hp r)
noncomputable def eTupK (g : Ev → Sto → R (List D)) : Ev → Sto → R D := fun ρ S => (g ρ S).bind fun ds S1 => ifp (ds.length ≤ sizeLine) (.ok (.ktp ds) S1) .stuck
def unK : D → D
  | .ktp ds => .tup ds
  | .ztp ds => .tup ds
  | d => d
theorem unK_rep {K : PySem.W.Frag} {ι : List Addr} {H : Hp} {d : D} {v : V} (r : RepV K ι H d v) : RepV K ι H (unK d) v := by
  cases d with
  | ktp ds =>
    rw [RepV] at r
    obtain ⟨a, vs, e, t, q⟩ := r
    show RepV K ι H (.tup ds) v
    rw [RepV]
    exact ⟨a, vs, e, .inl t, q⟩
  | ztp ds =>
    rw [RepV] at r
    obtain ⟨a, vs, e, ⟨o, t, _⟩, q⟩ := r
    show RepV K ι H (.tup ds) v
    rw [RepV]
    exact ⟨a, vs, e, .inr (.inl ⟨o, t⟩), q⟩
  | _ => exact r
/-- the same object, read as any tuple -/
def eUn (f : Ev → Sto → R D) : Ev → Sto → R D := fun ρ S => (f ρ S).bind fun d S1 => .ok (unK d) S1
section
variable {X : Cx} {W : WX} {es : List Expr} {e : Expr} {pos : Pos}
theorem de_tupK {k} {g : Ev → Sto → R (List D)} (h : DA X W es g) : DE X W (.Tuple es k pos) (eTupK g) := by
  refine PE.imp (pe_tup h) fun σ H Q ⟨ι, ρ, S, hE, hS, h⟩ => ⟨ι, ρ, S, hE, hS, (Post.bind h).mono fun ds S1 ι1 H1 G1 s1 h1 vs rs => ?_⟩
  (try unfold ifp at h1); split at h1
  · rename_i hl
    exact ⟨by rw [← RepL.length _ _ rs]; exact hl, new_ktp h1 s1 rs⟩
  · exact h1.elim
theorem de_un {f : Ev → Sto → R D} (h : DE X W e f) : DE X W e (eUn f) := by
  refine PE.imp h fun σ H Q ⟨ι, ρ, S, hE, hS, h⟩ => ⟨ι, ρ, S, hE, hS, (Post.bind h).mono fun d S1 ι1 H1 G1 s1 h1 v rv => ?_⟩
  exact h1.here s1 v (unK_rep rv)
end
def keysOf : List D → Option (List Key)
  | [] => some []
  | d :: ds => (keyOf d).bind fun k => (keysOf ds).map fun ks => k :: ks
theorem keys_at {K : PySem.W.Frag} {ι : List Addr} {H : Hp} : ∀ {ds : List D} {vs : List V} {ks : List Key}, RepL K ι H ds vs → keysOf ds = some ks → vs = ks.map kV
  | [], _, _, r, e => by rw [RepL] at r; subst r; cases e; rfl
  | d :: ds, _, _, r, e => by
    rw [RepL] at r
    obtain ⟨v, w, rfl, a, b⟩ := r
    unfold keysOf at e
    cases hk : keyOf d with
    | none => rw [hk] at e; cases e
    | some k =>
      rw [hk, Option.bind_some] at e
      cases hs : keysOf ds with
      | none => rw [hs] at e; cases e
      | some ks =>
        rw [hs] at e; cases e
        rw [List.map_cons, ← keys_at b hs, key_at a hk]
def keyT (d : D) : Option (List Key) := match d with
  | .ktp ds => keysOf ds
  | _ => none
theorem keyT_at {K : PySem.W.Frag} {ι : List Addr} {H : Hp} {d : D} {v : V} {ks : List Key} (r : RepV K ι H d v) (e : keyT d = some ks) : ∃ b, v = .ref b ∧ H b = some (.tup (ks.map kV)) := by
  cases d with
  | ktp ds =>
    rw [RepV] at r
    obtain ⟨a, vs, rfl, t, q⟩ := r
    exact ⟨a, rfl, by rw [t.2, keys_at q e]⟩
  | _ => cases e
def lookT (kvs : List (List Key × D)) (k : List Key) : Option D := (kvs.find? fun kv => decide (kv.1 = k)).map (·.2)
def putTD (kvs : List (List Key × D)) (k : List Key) (v : D) : List (List Key × D) :=
  if (kvs.any fun kv => decide (kv.1 = k)) = true then kvs.map (fun kv => if kv.1 = k then (kv.1, v) else kv) else kvs ++ [(k, v)]
section
variable {K : PySem.W.Frag} {ι : List Addr} {H : Hp} {k : List Key} {d : D} {v : V}
theorem RepKT.look : ∀ {kvs : List (List Key × D)} {vs : List (List Key × V)}, RepKT K ι H kvs vs → lookT kvs k = some d → ∃ v, valV vs k = some v ∧ RepV K ι H d v
  | [], _, _, e => by cases e
  | (j, x) :: kvs, _, h, e => by
    rw [RepKT] at h
    obtain ⟨v, r, rfl, a, b⟩ := h
    by_cases hj : j = k
    · have : lookT ((j, x) :: kvs) k = some x := by simp [lookT, List.find?_cons, hj]
      rw [this] at e
      cases e
      exact ⟨v, valV_pos hj, a⟩
    · have : lookT ((j, x) :: kvs) k = lookT kvs k := by simp [lookT, List.find?_cons, hj]
      rw [this] at e
      obtain ⟨w, h1, h2⟩ := RepKT.look b e
      exact ⟨w, by rw [valV_neg hj]; exact h1, h2⟩
theorem RepKT.keys : ∀ {kvs : List (List Key × D)} {vs : List (List Key × V)}, RepKT K ι H kvs vs → vs.map (·.1) = kvs.map (·.1)
  | [], _, h => by rw [RepKT] at h; subst h; rfl
  | (j, x) :: kvs, _, h => by
    rw [RepKT] at h
    obtain ⟨v, r, rfl, a, b⟩ := h
    rw [List.map_cons, List.map_cons, RepKT.keys b]
theorem RepKT.any : ∀ {kvs : List (List Key × D)} {vs : List (List Key × V)}, RepKT K ι H kvs vs → (vs.any fun kv => decide (kv.1 = k)) = (kvs.any fun kv => decide (kv.1 = k))
  | [], _, h => by rw [RepKT] at h; subst h; rfl
  | (j, x) :: kvs, _, h => by
    rw [RepKT] at h
    obtain ⟨v, r, rfl, a, b⟩ := h
    rw [List.any_cons, List.any_cons, RepKT.any b]
theorem RepKT.repl (rv : RepV K ι H d v) : ∀ {kvs : List (List Key × D)} {vs : List (List Key × V)}, RepKT K ι H kvs vs → RepKT K ι H (kvs.map fun kv => if kv.1 = k then (kv.1, d) else kv) (vs.map fun kv => if kv.1 = k then (kv.1, v) else kv)
  | [], _, h => by rw [RepKT] at h; subst h; rw [List.map_nil, RepKT]; rfl
  | (j, x) :: kvs, _, h => by
    rw [RepKT] at h
    obtain ⟨w, r, rfl, a, b⟩ := h
    rw [List.map_cons, List.map_cons]
    by_cases hj : j = k
    · simp only [hj, if_true]
      rw [RepKT]
      exact ⟨v, _, rfl, rv, RepKT.repl rv b⟩
    · simp only [hj, if_false]
      rw [RepKT]
      exact ⟨w, _, rfl, a, RepKT.repl rv b⟩
theorem RepKT.snoc (rv : RepV K ι H d v) : ∀ {kvs : List (List Key × D)} {vs : List (List Key × V)}, RepKT K ι H kvs vs → RepKT K ι H (kvs ++ [(k, d)]) (vs ++ [(k, v)])
  | [], _, h => by rw [RepKT] at h; subst h; rw [List.nil_append, RepKT]; exact ⟨v, [], rfl, rv, by rw [RepKT]⟩
  | (j, x) :: kvs, _, h => by
    rw [RepKT] at h
    obtain ⟨w, r, rfl, a, b⟩ := h
    rw [List.cons_append, RepKT]
    exact ⟨w, _, rfl, a, RepKT.snoc rv b⟩
theorem RepKT.put {kvs : List (List Key × D)} {vs : List (List Key × V)} (h : RepKT K ι H kvs vs) (rv : RepV K ι H d v) : RepKT K ι H (putTD kvs k d) (putK vs k v) := by
  unfold putTD putK
  rw [RepKT.any h]
  split
  · exact RepKT.repl rv h
  · exact RepKT.snoc rv h
theorem RepKT.len {kvs : List (List Key × D)} {vs : List (List Key × V)} (h : RepKT K ι H kvs vs) : vs.length = kvs.length := by
  have := congrArg List.length (RepKT.keys h)
  simpa using this
theorem RepKT.lookN {kvs : List (List Key × D)} {vs : List (List Key × V)} (h : RepKT K ι H kvs vs) : (valV vs k).isSome = (lookT kvs k).isSome := by
  cases e : lookT kvs k with
  | some x =>
    obtain ⟨y, h5, h6⟩ := RepKT.look h e
    rw [h5]; rfl
  | none =>
    have hk := RepKT.keys h
    have h1 : ∀ q ∈ kvs, q.1 ≠ k := by
      intro q hq z
      have : (lookT kvs k).isSome = true := by
        unfold lookT
        rw [Option.isSome_map, List.find?_isSome]
        exact ⟨q, hq, by simp [z]⟩
      rw [e] at this; cases this
    have h2 : ∀ q ∈ vs, q.1 ≠ k := fun q hq z => by
      have : k ∈ vs.map (·.1) := List.mem_map.mpr ⟨q, hq, z⟩
      rw [hk] at this
      obtain ⟨r, hr, er⟩ := List.mem_map.mp this
      exact h1 r hr er
    have : valV vs k = none := by
      unfold valV
      rw [Option.map_eq_none_iff, List.find?_eq_none]
      intro q hq
      simpa using h2 q hq
    rw [this]; rfl
end
def eDctT : Ev → Sto → R D := fun _ S => .ok (.loc S.length) (S ++ [.dkt []])
theorem de_dctT {X : Cx} {W : WX} {pos : Pos} : DE X W (.Dict [] [] pos) eDctT := by
  refine PE.imp pe_dnewT fun σ H Q ⟨ι, ρ, S, hE, hS, h⟩ p hp => ?_
  refine h (ι ++ [p]) _ (Grow.push hp) (hS.push hp ⟨[], upd_same, by rw [RepKT]⟩) _ ?_
  rw [RepV]
  exact ⟨p, by rw [← hS.len]; simp, rfl⟩
def dSetT (o i v : D) (S : Sto) : Option Sto := match o, keyT i with
  | .loc n, some k => (match S[n]? with
    | some (.dkt kvs) => if kvs.length < sizeLine then some (S.set n (.dkt (putTD kvs k v))) else none
    | _ => none)
  | _, _ => none
def tSubT (f g : Ev → Sto → R D) : Tg := fun v ρ S => match f ρ S with
  | .ok o S1 => (match g ρ S1 with
    | .ok i S2 => (dSetT o i v S2).map fun S3 => (ρ, S3)
    | _ => none)
  | _ => none
theorem dSetT_some {o i v : D} {S S' : Sto} (h : dSetT o i v S = some S') : ∃ n k kvs, o = .loc n ∧ keyT i = some k ∧ S[n]? = some (.dkt kvs) ∧ kvs.length < sizeLine ∧ S' = S.set n (.dkt (putTD kvs k v)) := by
  unfold dSetT at h
  split at h
  · rename_i n k ek
    split at h
    · rename_i kvs e
      split at h
      · rename_i hl
        cases h
        exact ⟨n, k, kvs, rfl, ek, e, hl, rfl⟩
      · cases h
    · cases h
  · cases h
theorem dg_subT {X : Cx} {W : WX} {o i : Expr} {pos : Pos} {f g : Ev → Sto → R D} (hu : X.A.units + 64 < cLine) (ho : DE X W o f) (hi : DE X W i g) (ha : ∀ v, assign (.Subscript o i pos) X.env v = (do
      let ov ← holding [v] (eval o X.env)
      let iv ← holding [v, ov] (eval i X.env)
      standAt pos
      holding [v, ov, iv] (setItem ov iv v)
      release [v, ov, iv] []) := by intro _; rfl) : DG X (.Subscript o i pos) (tSubT f g) :=
  PG.imp (pg_sub ho hi (set_dict hu) ha) fun v σ H Q ⟨ι, ρ, S, d, ρ', S', hE, hS, r, e, h⟩ => by
    unfold tSubT at e
    cases hf : f ρ S with
    | ok o S1 =>
      simp only [hf] at e
      refine ⟨ι, ρ, S, hE, hS, ?_⟩
      rw [hf]
      intro ι1 H1 G1 s1 x rx
      cases hg : g ρ S1 with
      | ok i S2 =>
        simp only [hg] at e
        refine ⟨ι1, ρ, S1, hE.grow G1, s1, ?_⟩
        rw [hg]
        intro ι2 H2 G2 s2 y ry
        have rx := RepV.grow G2 _ _ rx
        have rv := RepV.grow G2 _ _ (RepV.grow G1 _ _ r)
        have e : (dSetT o i d S2).map (fun S3 => (ρ, S3)) = some (ρ', S') := e
        cases hd : dSetT o i d S2 with
        | none => rw [hd] at e; cases e
        | some S3 =>
          rw [hd] at e
          cases e
          obtain ⟨n, k, kvs, rfl, ek, hL, hl, rfl⟩ := dSetT_some hd
          rw [RepV] at rx
          obtain ⟨a, ea, rfl⟩ := rx
          obtain ⟨vs, h1, h3⟩ := s2.ob _ _ _ ea hL
          obtain ⟨b, rfl, hb⟩ := keyT_at ry ek
          refine ⟨a, _, rfl, DPut.t h1 hb (by rw [RepKT.len h3]; exact hl), ?_⟩
          have G3 : Grow ι2 H2 ι2 (upd H2 a (.dT (putK vs k v))) := Grow.put (List.mem_of_getElem? ea) h1 (fun _ _ z => by cases z)
          exact h ι2 _ σ ((G1.trans G2).trans G3) (s2.put ea h1 (fun _ _ z => by cases z) ⟨_, upd_same, RepKT.put (RepKT.grow G3 _ _ h3) (RepV.grow G3 _ _ rv)⟩) (((hE.grow G1).grow G2).grow G3)
      | er e1 S2 => simp only [hg] at e; cases e
      | stuck => simp only [hg] at e; cases e
    | er e1 S1 => simp only [hf] at e; cases e
    | stuck => simp only [hf] at e; cases e
end DL
namespace DL
open PySem PySem.Spec L2
open PyProof.Rows hiding St
end DL
namespace DL
open PySem PySem.Spec L2
open PyProof.Rows hiding St
end DL
namespace DL
open PySem PySem.Spec PyProof.Rows L2
open PyProof.Rows hiding St
/-- the members, ascending -/
def ins (x : Int) : List Int → List Int
  | [] => [x]
  | y :: l => if x < y then x :: y :: l else if x = y then y :: l else y :: ins x l
theorem Post.grow {α : Type} {K : PySem.W.Frag} {W : WX} {σ : L2.St} {ι ι' : List Addr} {H H' : Hp} {r : R α} {P : α → Sto → List Addr → Hp → Prop} (h : Post K W σ ι H r P) (g : Grow ι H ι' H') : Post K W σ ι' H' r P := by
  cases r with
  | stuck => exact h
  | ok a S => exact fun ι2 H2 G2 s2 => h ι2 H2 (g.trans G2) s2
  | er e S => exact fun ι2 H2 cls dd G2 s2 => h ι2 H2 cls dd (g.trans G2) s2
theorem RepL.ints {K : PySem.W.Frag} {ι : List Addr} {H : Hp} : ∀ is : List Int, RepL K ι H (is.map D.int) (is.map V.int)
  | [] => RepL.nil
  | i :: is => by
    rw [List.map_cons, List.map_cons, RepL]
    exact ⟨_, _, rfl, int_rep, RepL.ints is⟩
end DL
namespace DL
open PySem PySem.Spec L2
open PyProof.Rows hiding St
theorem ps_lockP {X : Cx} {st : Stmt} {t : TS} (h : PS X st t) : PS X st (fun D σ H => ∃ d u, H d = some u ∧ Mut (some u) ∧ ∀ od, t D σ (upd H d (.frz od u))) := by
  refine ⟨fun pins s σ H D I hw => ?_⟩
  obtain ⟨d, u, hd, mu, hw⟩ := hw
  obtain ⟨od, I1⟩ := I.lock hd mu
  exact h.run pins s σ _ D I1 (hw od)
noncomputable def sLockT (i : Nat) (B : Ev → Sto → SR) : Ev → Sto → SR := fun ρ S => match ρ[i]? with
  | some (some (.loc n)) => (match S[n]? with
    | some (.dkt kvs) => B ρ (S.set n (.dkl kvs))
    | _ => .stuck)
  | _ => .stuck
theorem ds_lockT (i : Nat) {X : Cx} {W : WX} {st : Stmt} {B : Ev → Sto → SR} (h : DS X W st B) : DS X W st (sLockT i B) := by
  refine PS.imp (ps_lockP h) fun D σ H ⟨ι, ρ, S, hE, hS, h⟩ => ?_
  unfold sLockT at h
  split at h
  · rename_i n hn
    split at h
    · rename_i kvs hk
      obtain ⟨v, hv, rv⟩ := hE.2 i _ hn
      rw [RepV] at rv
      obtain ⟨a, ea, rfl⟩ := rv
      obtain ⟨ks, h1, h2⟩ := hS.ob _ _ _ ea hk
      have G : ∀ od, Grow ι H ι (upd H a (.frz od (.dT ks))) := fun od => Grow.put (List.mem_of_getElem? ea) h1 (fun _ _ z => by cases z)
      exact ⟨a, .dT ks, h1, trivial, fun od => ⟨ι, ρ, S.set n (.dkl kvs), hE.grow (G od), hS.put ea h1 (fun _ _ z => by cases z) ⟨od, ks, upd_same, RepKT.grow (G od) _ _ h2⟩, PostS.grow h (G od)⟩⟩
    · exact h.elim
  · exact h.elim
def kD : Key → D
  | .inl i => .int i
  | .inr x => .str x
theorem kD_rep {K : PySem.W.Frag} {ι : List Addr} {H : Hp} (k : Key) : RepV K ι H (kD k) (kV k) := by
  cases k with
  | inl i => show RepV K ι H (.int i) _; rw [RepV]; rfl
  | inr x => show RepV K ι H (.str x) _; rw [RepV]; rfl
theorem kD_reps {K : PySem.W.Frag} {ι : List Addr} {H : Hp} : ∀ ks : List Key, RepL K ι H (ks.map kD) (ks.map kV)
  | [] => RepL.nil
  | k :: ks => by
    rw [List.map_cons, List.map_cons, RepL]
    exact ⟨_, _, rfl, kD_rep k, kD_reps ks⟩
def keyTD (k : List Key) : D := .ktp (k.map kD)
noncomputable def iKeysT (f : Ev → Sto → R D) : Ev → Sto → R Src := fun ρ S => (f ρ S).bind fun d S1 => match d with
  | .loc n => (match S1[n]? with
    | some (.dkl kvs) => .ok (kvs.map fun kv => keyTD kv.1, fun S' => S'[n]? = some (.dkl kvs)) S1
    | _ => .stuck)
  | _ => .stuck
theorem itkt_ok {K : PySem.W.Frag} {ι : List Addr} {H : Hp} {a : Addr} {od : Obj} {kvs : List (List Key × D)} {ks : List (List Key × V)} {g : Sto → Prop} (h : H a = some (.frz od (.dT ks))) (r : RepKT K ι H kvs ks) : ItOk K (Itkt a od ks) ι H (kvs.map fun kv => keyTD kv.1, g) := fun ι1 H1 S1 G s gs => by
  have h1 := G.frz _ _ _ h
  have hl := RepKT.len r
  refine ⟨fun i hi => ⟨h1, by rw [hl]; simpa using hi⟩, fun i d e => ?_⟩
  obtain ⟨kv, hkv, rfl⟩ := Option.map_eq_some_iff.mp (by rw [← List.getElem?_map]; exact e)
  have hi := (List.getElem?_eq_some_iff.mp hkv).1
  refine ⟨⟨h1, by rw [hl]; exact hi⟩, fun x H2 y => ?_⟩
  obtain ⟨rfl, k, v, q, hq, rfl, hq2⟩ := y
  refine ⟨Grow.refl _ _, s, ?_⟩
  have ek : kv.1 = k := by
    have e1 : (ks.map (·.1))[i]? = some k := by rw [List.getElem?_map, hq]; rfl
    have e2 : (kvs.map (·.1))[i]? = some kv.1 := by rw [List.getElem?_map, hkv]; rfl
    rw [RepKT.keys r, e2] at e1
    exact Option.some.inj e1
  unfold keyTD
  rw [RepV, ek]
  exact ⟨q, _, rfl, ⟨s.noTup hq2, hq2⟩, kD_reps k⟩
theorem di_keysT {X : Cx} {W : WX} {tg e : Expr} {f : Ev → Sto → R D} (he : DE X W e f) : DI X W tg e (iKeysT f) := by
  refine PI.imp (pi_keys he) fun σ H Rr ⟨ι, ρ, S, hE, hS, q⟩ => ⟨ι, ρ, S, hE, hS, (Post.bind q).mono fun d S1 ι1 H1 G1 s1 h1 v rv => ?_⟩
  split at h1
  · rename_i n
    split at h1
    · rename_i kvs hk
      rw [RepV] at rv
      obtain ⟨a, ea, rfl⟩ := rv
      obtain ⟨od, ks, h2, h3⟩ := s1.ob _ _ _ ea hk
      exact ⟨a, od, rfl, .inr ⟨ks, h2, h1.here s1 _ (itkt_ok h2 h3)⟩⟩
    · exact h1.elim
  · exact h1.elim
def getTL (S : Sto) (d : D) : Option (List (List Key × D)) := match d with
  | .loc n => (match S[n]? with
    | some (.dkt kvs) => some kvs
    | some (.dkl kvs) => some kvs
    | _ => none)
  | _ => none
theorem dktl_at {K : PySem.W.Frag} {ι : List Addr} {H : Hp} {S : Sto} {d : D} {x : V} {kvs : List (List Key × D)} (s : Sim K ι H S) (r : RepV K ι H d x) (e : getTL S d = some kvs) : ∃ p ks, x = .ref p ∧ Rd H p (.dT ks) ∧ RepKT K ι H kvs ks := by
  cases d with
  | loc n =>
    rw [RepV] at r
    obtain ⟨a, ea, rfl⟩ := r
    unfold getTL at e
    dsimp only at e
    split at e
    · rename_i ks h
      cases e
      obtain ⟨vs, h1, h2⟩ := s.ob n a _ ea h
      exact ⟨a, vs, rfl, .inl h1, h2⟩
    · rename_i ks h
      cases e
      obtain ⟨o, vs, h1, h2⟩ := s.ob n a _ ea h
      exact ⟨a, vs, rfl, .inr ⟨o, h1⟩, h2⟩
    · cases e
  | _ => cases e
def dDgL (d k : D) (S : Sto) : R D := match keyT k, getTL S d with
  | some key, some kvs => (match lookT kvs key with
    | some v => .ok v S
    | none => .stuck)
  | _, _ => .stuck
theorem de_dgetL {X : Cx} {W : WX} {o i : Expr} {pos : Pos} {f g : Ev → Sto → R D} (hu : X.A.units + 64 < cLine) (ho : DE X W o f) (hi : DE X W i g) (hs : NoSl i := by intro _ _; rfl) : DE X W (.Subscript o i pos) (eOp dDgL f g) := by
  refine PE.imp (pe_dget (by omega) ho hi hs) fun σ H Q ⟨ι, ρ, S, hE, hS, h⟩ => ⟨ι, ρ, S, hE, hS, (Post.bind h).mono fun d S1 ι1 H1 G1 s1 h1 v rv => ⟨ι1, ρ, S1, hE.grow G1, s1, (Post.bind h1).mono fun k S2 ι2 H2 G2 s2 h2 w rw_ => ?_⟩⟩
  unfold dDgL at h2
  split at h2
  · rename_i key kvs ek eg
    split at h2
    · rename_i x ex
      obtain ⟨p, ks, rfl, h3, h4⟩ := dktl_at s2 (RepV.grow G2 _ _ rv) eg
      obtain ⟨b, rfl, hb⟩ := keyT_at rw_ ek
      obtain ⟨y, h5, h6⟩ := RepKT.look h4 ex
      exact ⟨p, y, rfl, .inr ⟨ks, key, b, h3, rfl, hb, h5.symm⟩, h2.here s2 y h6⟩
    · exact h2.elim
  · exact h2.elim
/-- d.get(k, x) -/
def dGet2 (d k z : D) (S : Sto) : R D := match keyT k, getTL S d with
  | some key, some kvs => .ok ((lookT kvs key).getD z) S
  | _, _ => .stuck
noncomputable def eGet2 (f g h : Ev → Sto → R D) : Ev → Sto → R D := fun ρ S => (f ρ S).bind fun d S1 => if (getTL S1 d).isSome = true then (g ρ S1).bind fun k S2 => (h ρ S2).bind fun z S3 => dGet2 d k z S3 else .stuck
theorem de_get2 {X : Cx} {W : WX} {o e1 e2 : Expr} {apos cpos : Pos} {f g h : Ev → Sto → R D} (hu : X.A.units + 64 < cLine) (ho : DE X W o f) (h1 : DE X W e1 g) (h2 : DE X W e2 h) (m : M2 X o "get" apos e1 e2 cpos := by exact ⟨rfl, rfl, rfl, rfl⟩) : DE X W (.Call (.Attribute o "get" apos) [e1, e2] [] cpos) (eGet2 f g h) := by
  refine PE.imp (pe_dget2 (by omega) ho h1 h2 m) fun σ H Q ⟨ι, ρ, S, hE, hS, q⟩ => ⟨ι, ρ, S, hE, hS, (Post.bind q).mono fun d S1 ι1 H1 G1 s1 q1 v rv => ?_⟩
  split at q1
  · rename_i hs
    obtain ⟨kvs, hk⟩ := Option.isSome_iff_exists.mp hs
    obtain ⟨p, ks, rfl, h3, h4⟩ := dktl_at s1 rv hk
    refine ⟨p, rfl, .inr ⟨ks, h3⟩, ι1, ρ, S1, hE.grow G1, s1, (Post.bind q1).mono fun k S2 ι2 H2 G2 s2 q2 w rw_ => ⟨ι2, ρ, S2, (hE.grow G1).grow G2, s2, (Post.bind q2).mono fun z S3 ι3 H3 G3 s3 q3 y ry => ?_⟩⟩
    unfold dGet2 at q3
    split at q3
    · rename_i key kvs2 ek eg
      obtain ⟨p', ks2, ep, h5, h6⟩ := dktl_at s3 (RepV.grow (G2.trans G3) _ _ rv) eg
      cases ep
      obtain ⟨b, rfl, hb⟩ := keyT_at (RepV.grow G3 _ _ rw_) ek
      refine ⟨valV ks2 key, .inr ⟨ks2, key, b, h5, rfl, hb, rfl⟩, ?_⟩
      cases hl : lookT kvs2 key with
      | some x =>
        obtain ⟨u, h7, h8⟩ := RepKT.look h6 hl
        rw [h7]
        rw [hl] at q3
        exact q3.here s3 u h8
      | none =>
        have hn := RepKT.lookN (k := key) h6
        rw [hl] at hn
        have : valV ks2 key = none := by
          cases hv : valV ks2 key with
          | none => rfl
          | some u => rw [hv] at hn; cases hn
        rw [this]
        rw [hl] at q3
        exact q3.here s3 y ry
    · exact q3.elim
  · exact q1.elim
def tDisp1T (tk tv : TE) : TE := fun σ H Q => ∀ p, H p = none → tk σ (upd H p (.dT [])) fun x H1 => tv σ H1 fun y H2 => H2 p = some (.dT []) ∧ ∃ ks b, x = .ref b ∧ H2 b = some (.tup (ks.map kV)) ∧ Q (.ref p) (upd H2 p (.dT [(ks, y)]))
theorem pe_disp1T {X : Cx} {pos : Pos} {k v : Expr} {tk tv : TE} (hu : X.A.units + 64 < cLine) (hk : PE X k tk) (hv : PE X v tv) : PE X (.Dict [some k] [v] pos) (tDisp1T tk tv) := by
  refine ⟨fun pins s σ H Q I q => ?_⟩
  have hn := I.hok.fresh (Nat.le_refl s.heap.objs.size)
  have I1 := I.laid (a := s.heap.objs.size) (o := .dT []) (h' := s.heap.push { cls := .type "dict", data := .dict #[] }) (t' := s.toks) (fun _ _ q => Heap.get?_push_of_some _ q) (Nat.le_refl _) (dt_empty s.heap I.big)
  have hp : (pairTrees [some k] [v] X.env pos).length = 1 := PySem.pairTrees_length _ _ _ _ rfl rfl
  rw [arm_eval_Dict, zip_pairTrees [some k] [v] X.env pos rfl rfl, dictDisplay_pairs (pairTrees [some k] [v] X.env pos) (fun z => by rw [z] at hp; cases hp) (by rw [hp]; decide)]
  refine wpAny_bind (wpAny_standAt (wpAny_bind (wpAny_subDictH (knd := tupleKind (mixKind X.prog X.w)) (Q := fun d s' => wpAny (model X.prog X.w) X.A (pure (Value.ref d)) (EP X pins σ Q) X.xe s') (show (tupleKind (mixKind X.prog X.w)).room X.A from (by show X.A.units < cLine; omega)) (by rw [hp]; decide) ?_)))
  refine pairTrees_cons_walk (thn (hk.run pins _ σ _ _ I1 (q _ hn)) fun u s1 ⟨x, H1, I2, rx, q1⟩ => thn (hv.run pins s1 σ H1 _ I2 q1) fun w2 s2 ⟨y, H2, I3, ry, e, ks, b, ex, eb, q2⟩ => pairTrees_nil_walk ?_)
  subst ex
  obtain rfl : u = Value.ref b := rx
  obtain ⟨z, hd, xs, rel, dd⟩ := dt_of I3.hok e
  cases rel
  refine ⟨[(ks, b, w2)], ⟨rfl, rfl, key_of I3.hok eb, trivial⟩, dd, fun h' tk' dd' hs => wpAny_pure ?_⟩
  obtain ⟨o, es, ep, ho, hc2, hd2, he, _, hnd⟩ := dd'
  refine ⟨.ref s.heap.objs.size, _, ?_, rfl, q2⟩
  have kt : KT H2 [(ks, y)] [(ks, b, w2)] := .cons ⟨rfl, eb, ry⟩ .nil
  refine d_write I3 (by rw [e]; exact True.intro) hs ⟨o, ho⟩ ⟨by show 1 ≤ sizeLine; decide, hd, _, kt.keeps fun c ys ec => ?_, o, es, ep, ho, hc2, hd2, he, hnd⟩
  rw [upd_ne (ne_of ec e (fun z => nomatch z))]
  exact ec
noncomputable def eDisp1T (f g : Ev → Sto → R D) : Ev → Sto → R D := fun ρ S => (f ρ (S ++ [.dkt []])).bind fun k S1 => (g ρ S1).bind fun v S2 => match keyT k, S2[S.length]? with
  | some key, some (.dkt []) => .ok (.loc S.length) (S2.set S.length (.dkt [(key, v)]))
  | _, _ => .stuck
theorem de_disp1T {X : Cx} {W : WX} {pos : Pos} {k v : Expr} {f g : Ev → Sto → R D} (hu : X.A.units + 64 < cLine) (hk : DE X W k f) (hv : DE X W v g) : DE X W (.Dict [some k] [v] pos) (eDisp1T f g) := by
  refine PE.imp (pe_disp1T hu hk hv) fun σ H Q ⟨ι, ρ, S, hE, hS, h⟩ p hp => ?_
  have G0 : Grow ι H (ι ++ [p]) (upd H p (.dT [])) := Grow.push hp
  have s0 : Sim X.K (ι ++ [p]) (upd H p (.dT [])) (S ++ [.dkt []]) := hS.push hp ⟨[], upd_same, by rw [RepKT]⟩
  have ep : (ι ++ [p])[S.length]? = some p := by rw [← hS.len]; simp
  refine ⟨ι ++ [p], ρ, S ++ [.dkt []], hE.grow G0, s0, (Post.bind (Post.grow h G0)).mono fun d1 S1 ι1 H1 G1 s1 h1 x rx => ⟨ι1, ρ, S1, (hE.grow G0).grow G1, s1, (Post.bind h1).mono fun d2 S2 ι2 H2 G2 s2 h2 y ry => ?_⟩⟩
  split at h2
  · rename_i key ek es
    have ep2 : ι2[S.length]? = some p := getElem?_pre (G1.trans G2).pre ep
    obtain ⟨ks0, hp2, hk0⟩ := s2.ob _ _ _ ep2 es
    rw [RepKT] at hk0
    subst hk0
    obtain ⟨b, rfl, hb⟩ := keyT_at (RepV.grow G2 _ _ rx) ek
    have G3 : Grow ι2 H2 ι2 (upd H2 p (.dT [(key, y)])) := Grow.put (List.mem_of_getElem? ep2) hp2 (fun _ _ z => by cases z)
    refine ⟨hp2, key, b, rfl, hb, h2 ι2 _ G3 (s2.put ep2 hp2 (fun _ _ z => by cases z) ⟨_, upd_same, ?_⟩) _ ?_⟩
    · rw [RepKT]
      exact ⟨y, [], rfl, RepV.grow G3 _ _ ry, by rw [RepKT]⟩
    · rw [RepV]
      exact ⟨p, ep2, rfl⟩
  · exact h2.elim
noncomputable def dAddK1 (a b : D) (S : Sto) : R D := match unK a, b with
  | .tup xs, .ktp (y :: ys) => ifp (xs.length + (y :: ys).length ≤ sizeLine) (.ok (.ktp (xs ++ y :: ys)) S) .stuck
  | _, _ => .stuck
theorem ktp_at {K : PySem.W.Frag} {ι : List Addr} {H : Hp} {ds : List D} {x : V} (r : RepV K ι H (.ktp ds) x) : ∃ p vs, x = .ref p ∧ H p = some (.tup vs) ∧ RepL K ι H ds vs := by
  rw [RepV] at r
  obtain ⟨a, vs, rfl, ⟨_, h1⟩, q⟩ := r
  exact ⟨a, vs, rfl, h1, q⟩
theorem k_catK1 {K : PySem.W.Frag} : OpK K (rCatA K) dAddK1 := by
  intro W σ ι H S v w a b Q s rx ry h
  unfold dAddK1 at h
  split at h
  · rename_i xs b' y ys e
    unfold ifp at h
    split at h
    · rename_i hl
      obtain ⟨p, vs, rfl, hp, rp⟩ := tup_at (e ▸ unK_rep rx)
      obtain ⟨q, us, rfl, h1, rq⟩ := ktp_at ry
      have hne : us ≠ [] := fun z => by
        subst z
        rw [RepL] at rq
        obtain ⟨_, _, hc, _⟩ := rq
        cases hc
      refine ⟨p, q, vs, us, rfl, rfl, hp, .inl (.inl h1), ?_, fun z => ?_, fun _ z => absurd z hne, fun _ _ => new_ktp h s (RepL.app _ _ rp _ _ rq)⟩
      · rw [← RepL.length _ _ rp, ← RepL.length _ _ rq]; exact hl
      · subst z
        have := rep_nil rp
        subst this
        exact h.here s _ ry
    · exact h.elim
  · exact h.elim
noncomputable def dAddK2 (a b : D) (S : Sto) : R D := match a, unK b with
  | .ktp (x :: xs), .tup ys => ifp ((x :: xs).length + ys.length ≤ sizeLine) (.ok (.ktp ((x :: xs) ++ ys)) S) .stuck
  | _, _ => .stuck
theorem k_catK2 {K : PySem.W.Frag} : OpK K (rCatA K) dAddK2 := by
  intro W σ ι H S v w a b Q s rx ry h
  unfold dAddK2 at h
  split at h
  · rename_i a' x xs ys e
    unfold ifp at h
    split at h
    · rename_i hl
      obtain ⟨p, vs, rfl, h1, rp⟩ := ktp_at rx
      obtain ⟨q, us, rfl, hq, rq⟩ := tup_at (e ▸ unK_rep ry)
      have hne : vs ≠ [] := fun z => by
        subst z
        rw [RepL] at rp
        obtain ⟨_, _, hc, _⟩ := rp
        cases hc
      refine ⟨p, q, vs, us, rfl, rfl, .inl (.inl h1), hq, ?_, fun z => absurd z hne, fun _ z => ?_, fun _ _ => new_ktp h s (RepL.app _ _ rp _ _ rq)⟩
      · rw [← RepL.length _ _ rp, ← RepL.length _ _ rq]; exact hl
      · subst z
        have := rep_nil rq
        subst this
        exact h.here s _ (by rw [List.append_nil]; exact rx)
    · exact h.elim
  · exact h.elim
/-- tuple(a list), a made tuple -/
def bTupleK : Fn := fun ds S => match ds with
  | [d] => (match lstOf S d with
    | some xs => .ok (.ktp xs) S
    | none => .stuck)
  | _ => .stuck
theorem k_tupleK {K : PySem.W.Frag} : CallK K (fun xs H Q => ∃ p ys, xs = [.ref p] ∧ ((SqL K H p ys ∧ ∀ l, H l = none → Q (.ref l) (upd H l (.tup ys))) ∨ (SqT K H p ys ∧ Q (.ref p) H))) bTupleK := by
  intro W σ ι H S vs ds Q s rl h
  unfold bTupleK at h
  split at h
  · obtain ⟨v, rfl, rv⟩ := RepL.one_inv rl
    split at h
    · rename_i xs hx
      obtain ⟨p, us, rfl, q, rq⟩ := lst_at s rv hx
      exact ⟨p, us, rfl, .inl ⟨SqL.of q, new_ktp h s rq⟩⟩
    · exact h.elim
  · exact h.elim
end DL
namespace DL
open PySem PySem.Spec L2
open PyProof.Rows hiding St
theorem srcOf_tup (ds : List D) (S : Sto) : srcOf (.tup ds) S = .ok (ds, yes) S := rfl
theorem srcOf_fl (ds : List D) (S : Sto) : srcOf (.fl ds) S = .ok (ds, yes) S := rfl
theorem srcOf_kl (ds : List D) (S : Sto) : srcOf (.kl ds) S = .ok (ds, yes) S := rfl
theorem srcOf_ti (l : List Int) (S : Sto) : srcOf (ti l) S = .ok (l.map D.int, yes) S := rfl
theorem forD_pure {T : Tg} {B Z : Ev → Sto → SR} {S : Sto} (I : Ev → Prop) : ∀ (ds : List D) (ρ : Ev), I ρ → (∀ d ∈ ds, ∀ ρ, I ρ → ∃ ρ1 ρ2, T d ρ S = some (ρ1, S) ∧ (B ρ1 S = .nx ρ2 S ∨ B ρ1 S = .ct ρ2 S) ∧ I ρ2) →
    ∃ ρ', I ρ' ∧ forD yes T B Z ds ρ S = Z ρ' S
  | [], ρ, h, _ => ⟨ρ, h, forD_nil trivial⟩
  | d :: ds, ρ, h, step => by
    obtain ⟨ρ1, ρ2, hT, hB, h2⟩ := step d List.mem_cons_self ρ h
    obtain ⟨ρ', h3, e⟩ := forD_pure I ds ρ2 h2 fun d' hd => step d' (List.mem_cons_of_mem _ hd)
    refine ⟨ρ', h3, ?_⟩
    rw [forD, if_pos (show yes S from trivial), hT]
    rcases hB with hB | hB <;> (simp only [hB]; exact e)
theorem forD_strm {T : Tg} {B Z : Ev → Sto → SR} {rest : Sto} (I : Ev → Prop) (cost : Nat) : ∀ (ds : List D) (ρ : Ev) (S : Sto) (n : Nat), I ρ → Strm S n rest → n + ds.length * cost < 2 ^ 60 →
    (∀ d ∈ ds, ∀ ρ S n, I ρ → Strm S n rest → n + cost < 2 ^ 60 → ∃ ρ1 ρ2 S2, T d ρ S = some (ρ1, S) ∧ (B ρ1 S = .nx ρ2 S2 ∨ B ρ1 S = .ct ρ2 S2) ∧ I ρ2 ∧ Strm S2 (n + cost) rest) →
    ∃ ρ' S', I ρ' ∧ Strm S' (n + ds.length * cost) rest ∧ forD yes T B Z ds ρ S = Z ρ' S'
  | [], ρ, S, n, h, hs, _, _ => ⟨ρ, S, h, by simpa using hs, forD_nil trivial⟩
  | d :: ds, ρ, S, n, h, hs, hn, step => by
    have e1 : n + (d :: ds).length * cost = n + cost + ds.length * cost := by simp [Nat.add_mul]; omega
    rw [e1] at hn ⊢
    obtain ⟨ρ1, ρ2, S2, hT, hB, h2, s2⟩ := step d List.mem_cons_self ρ S n h hs (by omega)
    obtain ⟨ρ', S', h3, s3, e⟩ := forD_strm I cost ds ρ2 S2 (n + cost) h2 s2 hn fun d' hd => step d' (List.mem_cons_of_mem _ hd)
    refine ⟨ρ', S', h3, s3, ?_⟩
    rw [forD, if_pos (show yes S from trivial), hT]
    rcases hB with hB | hB <;> (simp only [hB]; exact e)
theorem dLe_i (i j : Int) (S : Sto) : dLe (.int i) (.int j) S = .ok (.bl (decide (i ≤ j))) S := rfl
/-- the place that a value is -/
def plc (n : Nat) (v : D) : Option Nat := match v with
  | .int i => if 0 ≤ i ∧ i < n then some i.toNat else none
  | _ => none
def noPlace (v : D) : Ex := ⟨.own "NoPlace", [("value", v)]⟩
theorem plc_some {n : Nat} {v : D} {p : Nat} (h : plc n v = some p) : v = .int p ∧ p < n := by
  cases v with
  | int i =>
    simp only [plc] at h
    split at h
    · rename_i hh
      cases h
      refine ⟨?_, by omega⟩
      congr 1
      omega
    · cases h
  | _ => cases h
theorem bMax_two (i j : Int) (S : Sto) : bMax [.int i, .int j] S = .ok (.int (max i j)) S := rfl
structure Shw (b k : Nat) (d : D) : Prop where
  ok : rok d = true
  bulk : bulkD d ≤ b
  dep : depD d ≤ k
theorem Shw.mono {b b' k k' : Nat} {d : D} (h : Shw b k d) (hb : b ≤ b') (hk : k ≤ k') : Shw b' k' d := ⟨h.ok, Nat.le_trans h.bulk hb, Nat.le_trans h.dep hk⟩
theorem repr_s {b k : Nat} {d : D} (h : Shw b k d) (hb : b ≤ 8000) (hk : k ≤ 60) (S : Sto) : bRepr [d] S = .ok (.str (shD d)) S := repr_d h.ok (Nat.le_trans h.bulk hb) (Nat.le_trans h.dep hk) S
theorem shwL {b k : Nat} : ∀ {ds : List D}, (∀ d ∈ ds, Shw b k d) → rokL ds = true ∧ bulkL ds ≤ ds.length * (b + 1) ∧ depL ds ≤ k
  | [], _ => ⟨rfl, by simp [bulkL], by simp [depL]⟩
  | d :: ds, h => by
    obtain ⟨h1, h2, h3⟩ := shwL (ds := ds) fun x hx => h x (List.mem_cons_of_mem _ hx)
    have hd := h d List.mem_cons_self
    refine ⟨by rw [rokL, hd.ok, h1]; rfl, ?_, ?_⟩
    · rw [bulkL, List.length_cons, Nat.add_mul]
      have := hd.bulk
      omega
    · rw [depL]
      exact Nat.max_le.mpr ⟨hd.dep, h3⟩
theorem shw_tup {b k : Nat} {ds : List D} (h : ∀ d ∈ ds, Shw b k d) : Shw (ds.length * (b + 1)) (k + 1) (.tup ds) := by
  obtain ⟨h1, h2, h3⟩ := shwL h
  exact ⟨by rw [rok]; exact h1, by rw [bulkD]; exact h2, by rw [depD]; omega⟩
theorem shw_fl {b k : Nat} {ds : List D} (h : ∀ d ∈ ds, Shw b k d) : Shw (ds.length * (b + 1)) (k + 1) (.fl ds) := by
  obtain ⟨h1, h2, h3⟩ := shwL h
  exact ⟨by rw [rok]; exact h1, by rw [bulkD]; exact h2, by rw [depD]; omega⟩
theorem shw_int {i : Int} (h : i.natAbs < 2 ^ 1000) : Shw 0 0 (.int i) := ⟨rok_int 1000 h (by decide) (by decide), by simp [bulkD], by simp [depD]⟩
theorem big9 : (10 ^ 9 : Nat) < 2 ^ 1000 := by decide
theorem shw_nat {i : Int} (h0 : -(10 ^ 9) < i) (h : i < 10 ^ 9) : Shw 0 0 (.int i) := shw_int (by have := big9; omega)
theorem shw_ti {l : List Int} (h : ∀ t ∈ l, -(10 ^ 9) < t ∧ t < 10 ^ 9) : Shw l.length 1 (ti l) := by
  unfold ti
  have := shw_tup (b := 0) (k := 0) (ds := l.map D.int) fun d hd => by
    obtain ⟨t, ht, rfl⟩ := List.mem_map.mp hd
    exact shw_nat (h t ht).1 (h t ht).2
  rw [List.length_map] at this
  simpa using this.mono (Nat.le_of_eq (Nat.mul_one _)) (Nat.le_refl _)
end DL
namespace DL
open PySem PySem.Spec L2
open PyProof.Rows hiding St
theorem law_std {m N cost : Nat} {L : Ev → Sto → SR} (I : Option D → Ev → Prop) (hm : 2 ≤ m) (hN : (N : Int) < 2 ^ 62) (h0 : ∀ sc, I sc (sc :: some (.loc 1) :: List.replicate (m - 2) none)) (hc : N * cost < 2 ^ 60)
    (step : ∀ sc d ρ S n, I sc ρ → Strm S n [] → n + cost < 2 ^ 60 → ∃ ρ2 S2, L (ρ.set 2 (some d)) S = .nx ρ2 S2 ∧ I sc ρ2 ∧ Strm S2 (n + cost) []) :
    LawOk (fnC close m 1 (sSeq (sSet 1 (eCall F__law_stream (aCons (eVar 0) aNil))) (sSeq (sFor (iRange1 (aCons (eC (.int N)) aNil)) (tN 2) L sNil) (sRet (eC (.bl true)))))) := law_by fun ns hl _ => by
  obtain ⟨S0, h1, s0⟩ := stream_ok hl
  obtain ⟨ρ', S', _, _, hf⟩ := forD_strm (T := tN 2) (B := L) (Z := sNil) (rest := []) (I (some (.kl (ns.map D.int)))) cost (rangeD 0 N) (some (.kl (ns.map D.int)) :: some (.loc 1) :: List.replicate (m - 2) none) S0 0 (h0 _) s0 (by rw [rangeD_len]; omega) (by
    intro d hd ρ S n hI hS hn
    obtain ⟨ρ2, S2, e, i2, s2⟩ := step _ d ρ S n hI hS hn
    exact ⟨_, ρ2, S2, rfl, .inl e, i2, s2⟩)
  refine ⟨S', ?_⟩
  have hst : startD m [D.kl (ns.map D.int)] = some (.kl (ns.map D.int)) :: none :: List.replicate (m - 2) none := by
    obtain ⟨k, rfl⟩ : ∃ k, m = k + 2 := ⟨m - 2, by omega⟩
    simp [startD, List.replicate_succ]
  rw [hst]
  have hr : ((-(2 ^ 62) : Int) ≤ (N : Int) ∧ (N : Int) < 2 ^ 62) = True := by simp; omega
  simp only [eVar, eC, eOp, eT, eAnd, eOr, eNot, eIf, eAndV, eOrV, eNotV, eCall, aNil, aCons, aStar, sOf, eTup, eFl, eLoc, eSl, oNone, oSome, iOf, eNeg, eChain, eMt, bOf, eDict0, eRev, eListRg, iZipD, sRaise1, sRaise0, eCallV, List.lookup, R.bind_ok, R.bind_er, R.bind_stuck, R.toS_ok, R.toS_er, R.toS_stuck, SR.next_nx, SR.next_rt, SR.next_er, SR.next_bk, SR.next_ct, SR.next_stuck, sNil, sSeq, sBrk, sCnt, sExp, sRet, sRetN, sIf, sSet, sAsg, sAug, sPar2, sPar3, tN, DL.tTup, DL.tNil, DL.tCons, DL.tSub, iSeq, srcOf_tup, srcOf_fl, srcOf_kl, srcOf_ti, iRange1, iRange2, sFor, startD, List.map_cons, List.map_nil, List.length_cons, List.length_nil, List.replicate, List.cons_append, List.nil_append, List.getElem?_cons_zero, List.getElem?_cons_succ, List.set_cons_zero, List.set_cons_succ, dSub_int, dFdiv_int, dMod_int, dLt_int, dLe_int, dGt_int, dGe_int, dAddI_int, dSubI_int, dIsN_non, isN, dAdd_int, ll0, ll1, ll2, ll3, ll4, ll5, ll6, ll7, ll8, ll9, ll10, ll11, ll12, ll13, ll14, ll15, ll16, ll17, ll18, ll19, ll20, ll21, ll22, ll23, ll24, ll25, ll26, ll27, ll28, ll29, ll30, ll31, ll32, ll33, ll34, ll35, ll36, ll37, ll38, ll39, ll40, Nat.reduceSub, Nat.reduceAdd, Nat.reduceEqDiff, if_true, if_false, ifp_t, ifp_f, reduceIte, Bool.true_eq_false, Bool.false_eq_true, Option.map_some, Option.map_none, Option.bind_some, Option.bind_none, h1, hr, Int.toNat_natCast, hf]
end DL
namespace DL
open PySem PySem.Spec L2
open PyProof.Rows hiding St
def rp (e : Int × Int) (n : Int) : Int × Int := if n = 0 then (0, 0) else if 0 ≤ (n - 1) * (e.2 - e.1) then (e.1, e.2 + (n - 1) * (e.2 - e.1)) else (e.1 - (n - 1) * (e.2 - e.1), e.2)
def dp (e : Int × Int) : D := .tup [.int e.1, .int e.2]
def wh (v : D) : Bool := match v with
  | .int i => decide (0 ≤ i)
  | _ => false
end DL
namespace DL
open PySem PySem.Spec L2
open PyProof.Rows hiding St
end DL
namespace DL
open PySem PySem.Spec L2
open PyProof.Rows hiding St
/-- beginnings with their gaps; f is the first of all -/
def un (n f : Nat) : List Nat → List (Nat × Nat)
  | [] => []
  | [b] => [(b, n + f - b)]
  | b :: c :: r => (b, c - b) :: un n f (c :: r)
end DL
namespace DL
open PySem PySem.Spec L2
open PyProof.Rows hiding St
structure Run (e : Int × Int) : Prop where
  a0 : 0 ≤ e.1
  a5 : e.1 ≤ 5
  c1 : 1 ≤ e.2
  cM : e.2 ≤ 10 ^ 13
def toks (fs : List (Int × Int)) : List Int := (fs.map fun e => List.replicate e.2.toNat e.1).flatten
def len (fs : List (Int × Int)) : Int := (fs.map fun e => e.2).sum
theorem mulT_int {i j : Int} (h : -(2 ^ 64) < i ∧ i < 2 ^ 64) (S : Sto) : dMulT (.int i) (.int j) S = .ok (.int (i * j)) S := mul_small h S
theorem sum_fli (l : List Int) (S : Sto) : bSum2 [.fl (l.map D.int)] S = .ok (.int l.sum) S := by
  show (match intsOf (l.map D.int) with
    | some is => R.ok (D.int is.sum) S
    | none => R.stuck) = _
  rw [intsOf_map]
end DL
namespace DL
open PySem PySem.Spec L2
open PyProof.Rows hiding St
def two (S : Sto) (b a : List D) : Sto := S ++ [.lst b, .lst a]
end DL
namespace DL
open PySem PySem.Spec L2
open PyProof.Rows hiding St
theorem fnC_strm {n m : Nat} {B : Ev → Sto → SR} {ds : List D} {S S6 : Sto} {d : D} {n0 k : Nat} {rest l : Sto} (h : Strm S n0 rest) (h6 : Strm S6 k (rest ++ l)) (hl : l ≠ []) (hm : ds.length = m) (hB : B (startD n ds) S = .rt d S6) (hd : low S.length d = true) :
    fnC close n m B ds S = .ok d (S6.take S.length) ∧ Strm (S6.take S.length) k rest := by
  obtain ⟨q1, q2⟩ := h.trunc h6
  refine ⟨?_, q2⟩
  unfold fnC
  rw [if_pos hm, hB]
  show close S d S6 = _
  unfold close
  have : 0 < l.length := List.length_pos_iff.mpr hl
  rw [if_neg (by rw [h6.len, h.len, List.length_append]; omega), if_pos ⟨q1, hd⟩]
theorem fdiv_int {i j : Int} (h : 0 < j) (h2 : j < 2 ^ 60) (S : Sto) : dFdiv (.int i) (.int j) S = .ok (.int (i / j)) S := ifp_pos ⟨h, log2_small 60 (by omega) (by decide) (by decide)⟩
end DL
namespace DL
open PySem PySem.Spec L2
open PyProof.Rows hiding St
noncomputable def L1_count_ready (ρ : Ev) (S : Sto) : SR :=
  (sSeq (sAug 2 dAddI (eOp dMulT (eOp dSub (eC (.int 1)) (eVar 4)) (eVar 5)))
    (sSet 3 (eCall bMinT (aCons (eVar 3) (aCons (eVar 2) aNil))))) ρ S
noncomputable def B_count_ready : Ev → Sto → SR :=
  (sSeq (sSet2 2 3 (eOp dIx (eOp dIx (eVar 0) (eVar 1)) (eC (.int 1))))
    (sSeq (sFor (iSeq (eOp dAdd (eSl mkFl (eVar 0) (oSome (eOp dAdd (eVar 1) (eC (.int 1)))) oNone) (eSl mkFl (eVar 0) oNone (oSome (eVar 1))))) (tTup 2 (tCons (tN 4) (tCons (tN 5) tNil))) L1_count_ready sNil)
    (sRet (eCall bMax (aCons (eC (.int 0)) (aCons (eVar 3) aNil))))))
noncomputable def F_count_ready : Fn := fnC close 6 2 B_count_ready
def lo : Int → Int → List (Int × Int) → Int
  | _, m, [] => m
  | h, m, e :: r => lo (h + (1 - e.1) * e.2) (min m (h + (1 - e.1) * e.2)) r
def addR (f : List (Int × Int)) (s m : Int) : List (Int × Int) := if 0 < m then (match f.getLast? with
    | some q => if q.2 = s - 1 then f.dropLast ++ [(q.1, s + m - 1)] else f ++ [(s, s + m - 1)]
    | none => [(s, s + m - 1)]) else f
def rg (ps : List Nat) : List (Int × Int) := ps.foldl (fun f (p : Nat) => addR f (p : Int) 1) []
theorem ready_loop (x0 x1 : Option D) (S : Sto) : ∀ (r : List (Int × Int)) (h m : Int) (x4 x5 : Option D), (∀ e ∈ r, Run e) → ∃ y2 y4 y5, forD yes (tTup 2 (tCons (tN 4) (tCons (tN 5) tNil))) L1_count_ready sNil (r.map dp) [x0, x1, some (.int h), some (.int m), x4, x5] S = .nx [x0, x1, y2, some (.int (lo h m r)), y4, y5] S
  | [], h, m, x4, x5, _ => ⟨some (.int h), x4, x5, by rw [List.map_nil, forD_nil trivial]; rfl⟩
  | e :: r, h, m, x4, x5, hr => by
    have he := hr e List.mem_cons_self
    have a0 := he.a0
    have a5 := he.a5
    obtain ⟨y2, y4, y5, ih⟩ := ready_loop x0 x1 S r (h + (1 - e.1) * e.2) (min m (h + (1 - e.1) * e.2)) (some (.int e.1)) (some (.int e.2)) fun x hx => hr x (List.mem_cons_of_mem _ hx)
    refine ⟨y2, y4, y5, ?_⟩
    have mm := mulT_int (i := 1 - e.1) (j := e.2) (by omega)
    have mn : ∀ a b S, bMinT [.int a, .int b] S = .ok (.int (min a b)) S := fun a b S => rfl
    rw [List.map_cons, forD_cons (ρ1 := [x0, x1, some (.int h), some (.int m), some (.int e.1), some (.int e.2)]) (S1 := S) (ρ2 := [x0, x1, some (.int (h + (1 - e.1) * e.2)), some (.int (min m (h + (1 - e.1) * e.2))), some (.int e.1), some (.int e.2)]) (S2 := S) trivial rfl (by simp only [eVar, eC, eOp, eT, eAnd, eOr, eNot, eIf, eAndV, eOrV, eNotV, eCall, aNil, aCons, aStar, sOf, eTup, eFl, eLoc, eSl, oNone, oSome, iOf, eNeg, eChain, eMt, bOf, eDict0, eRev, eListRg, iZipD, sRaise1, sRaise0, eCallV, List.lookup, R.bind_ok, R.bind_er, R.bind_stuck, R.toS_ok, R.toS_er, R.toS_stuck, SR.next_nx, SR.next_rt, SR.next_er, SR.next_bk, SR.next_ct, SR.next_stuck, sNil, sSeq, sBrk, sCnt, sExp, sRet, sRetN, sIf, sSet, sAsg, sAug, sPar2, sPar3, tN, DL.tTup, DL.tNil, DL.tCons, DL.tSub, iSeq, srcOf_tup, srcOf_fl, srcOf_kl, srcOf_ti, iRange1, iRange2, sFor, startD, List.map_cons, List.map_nil, List.length_cons, List.length_nil, List.replicate, List.cons_append, List.nil_append, List.getElem?_cons_zero, List.getElem?_cons_succ, List.set_cons_zero, List.set_cons_succ, dSub_int, dFdiv_int, dMod_int, dLt_int, dLe_int, dGt_int, dGe_int, dAddI_int, dSubI_int, dIsN_non, isN, dAdd_int, ll0, ll1, ll2, ll3, ll4, ll5, ll6, ll7, ll8, ll9, ll10, ll11, ll12, ll13, ll14, ll15, ll16, ll17, ll18, ll19, ll20, ll21, ll22, ll23, ll24, ll25, ll26, ll27, ll28, ll29, ll30, ll31, ll32, ll33, ll34, ll35, ll36, ll37, ll38, ll39, ll40, Nat.reduceSub, Nat.reduceAdd, Nat.reduceEqDiff, if_true, if_false, ifp_t, ifp_f, reduceIte, Bool.true_eq_false, Bool.false_eq_true, Option.map_some, Option.map_none, Option.bind_some, Option.bind_none, tSq, sSet2, seqOf_fl, seqOf_tup, seqOf_ti, L1_count_ready, mm, mn]), ih, lo]
theorem sl_dpf (fs : List (Int × Int)) (p : Nat) (mk : List D → Sto → R D) (S : Sto) : dSl mk (.tup (fs.map dp)) (some (p : Int)) none S = .ok (.tup ((fs.drop p).map dp)) S := by
  show R.ok (D.tup (cut (fs.map dp) (some (p : Int)) none)) S = _
  rw [cut_from, List.map_drop]
theorem sl_dpt (fs : List (Int × Int)) (p : Nat) (mk : List D → Sto → R D) (S : Sto) : dSl mk (.tup (fs.map dp)) none (some (p : Int)) S = .ok (.tup ((fs.take p).map dp)) S := by
  show R.ok (D.tup (cut (fs.map dp) none (some (p : Int)))) S = _
  rw [cut_to, List.map_take]
theorem add_tup (a b : List D) (h : a.length + b.length ≤ 10 ^ 6) (S : Sto) : dAdd (.tup a) (.tup b) S = .ok (.tup (a ++ b)) S := by
  show ifp (a.length + b.length ≤ sizeLine) (R.ok (D.tup (a ++ b)) S) .stuck = _
  exact ifp_pos (Nat.le_trans h (by decide))
theorem count_ready_ok (fs : List (Int × Int)) (hl : fs.length ≤ 100) (hr : ∀ e ∈ fs, Run e) (i : Nat) {e : Int × Int} (he : fs[i]? = some e) (S : Sto) : F_count_ready [.tup (fs.map dp), .int i] S = .ok (.int (max 0 (lo e.2 e.2 (fs.drop (i + 1) ++ fs.take i)))) S := by
  have hi : i < fs.length := (List.getElem?_eq_some_iff.mp he).1
  have hst : startD 6 [D.tup (fs.map dp), D.int i] = [some (.tup (fs.map dp)), some (.int i), none, none, none, none] := rfl
  have ix : ∀ S, dIx (.tup (fs.map dp)) (.int i) S = .ok (dp e) S := fun S => dIx_tup (by
    rw [atI_nn (by omega) (by simp; omega), Int.toNat_natCast, List.getElem?_map, he]; rfl)
  have i1 : ∀ e S, dIx (dp e) (.int 1) S = .ok (.int e.2) S := fun e S => rfl
  have s1 := sl_dpf fs (i + 1) mkFl
  rw [Int.natCast_add, Int.natCast_one] at s1
  have s2 := sl_dpt fs i mkFl
  have ad : ∀ S, dAdd (.tup ((fs.drop (i + 1)).map dp)) (.tup ((fs.take i).map dp)) S = .ok (.tup ((fs.drop (i + 1) ++ fs.take i).map dp)) S := fun S => by
    rw [List.map_append]
    exact add_tup _ _ (by simp; omega) S
  obtain ⟨y2, y4, y5, lp⟩ := ready_loop (some (.tup (fs.map dp))) (some (.int i)) S (fs.drop (i + 1) ++ fs.take i) e.2 e.2 none none (by
    intro x hx
    rcases List.mem_append.mp hx with hx | hx
    · exact hr x (List.mem_of_mem_drop hx)
    · exact hr x (List.mem_of_mem_take hx))
  have mx : ∀ a S, bMax [.int 0, .int a] S = .ok (.int (max 0 a)) S := fun a S => rfl
  refine fnC_rt rfl ?_ rfl
  rw [hst]
  unfold B_count_ready
  simp only [eVar, eC, eOp, eT, eAnd, eOr, eNot, eIf, eAndV, eOrV, eNotV, eCall, aNil, aCons, aStar, sOf, eTup, eFl, eLoc, eSl, oNone, oSome, iOf, eNeg, eChain, eMt, bOf, eDict0, eRev, eListRg, iZipD, sRaise1, sRaise0, eCallV, List.lookup, R.bind_ok, R.bind_er, R.bind_stuck, R.toS_ok, R.toS_er, R.toS_stuck, SR.next_nx, SR.next_rt, SR.next_er, SR.next_bk, SR.next_ct, SR.next_stuck, sNil, sSeq, sBrk, sCnt, sExp, sRet, sRetN, sIf, sSet, sAsg, sAug, sPar2, sPar3, tN, DL.tTup, DL.tNil, DL.tCons, DL.tSub, iSeq, srcOf_tup, srcOf_fl, srcOf_kl, srcOf_ti, iRange1, iRange2, sFor, startD, List.map_cons, List.map_nil, List.length_cons, List.length_nil, List.replicate, List.cons_append, List.nil_append, List.getElem?_cons_zero, List.getElem?_cons_succ, List.set_cons_zero, List.set_cons_succ, dSub_int, dFdiv_int, dMod_int, dLt_int, dLe_int, dGt_int, dGe_int, dAddI_int, dSubI_int, dIsN_non, isN, dAdd_int, ll0, ll1, ll2, ll3, ll4, ll5, ll6, ll7, ll8, ll9, ll10, ll11, ll12, ll13, ll14, ll15, ll16, ll17, ll18, ll19, ll20, ll21, ll22, ll23, ll24, ll25, ll26, ll27, ll28, ll29, ll30, ll31, ll32, ll33, ll34, ll35, ll36, ll37, ll38, ll39, ll40, Nat.reduceSub, Nat.reduceAdd, Nat.reduceEqDiff, if_true, if_false, ifp_t, ifp_f, reduceIte, Bool.true_eq_false, Bool.false_eq_true, Option.map_some, Option.map_none, Option.bind_some, Option.bind_none, tSq, sSet2, seqOf_fl, seqOf_tup, seqOf_ti, ix, i1, s1, s2, ad, lp, mx]
end DL
namespace DL
open PySem PySem.Spec L2
open PyProof.Rows hiding St
def spr (e : Int × Int) : List Int := (List.range (e.2 - e.1 + 1).toNat).map fun (k : Nat) => e.1 + (k : Int)
theorem spr_len (e : Int × Int) : (spr e).length = (e.2 - e.1 + 1).toNat := by unfold spr; simp
structure Rgs (f : List (Int × Int)) (ps : List Int) : Prop where
  sp : f.flatMap spr = ps
  le : ∀ e ∈ f, e.1 ≤ e.2
  gap : f.Pairwise fun a b => a.2 + 2 ≤ b.1
theorem Rgs.len {f : List (Int × Int)} {ps : List Int} (h : Rgs f ps) : (f.map fun e => e.2 - e.1 + 1).sum = (ps.length : Int) := by
  obtain ⟨sp, le, gap⟩ := h
  subst sp
  clear gap
  induction f with
  | nil => rfl
  | cons e f ih =>
    have he := le e List.mem_cons_self
    have := ih fun x hx => le x (List.mem_cons_of_mem _ hx)
    rw [List.map_cons, List.sum_cons, List.flatMap_cons, List.length_append, spr_len, Int.natCast_add, this]
    omega
end DL
namespace DL
open PySem PySem.Spec L2
open PyProof.Rows hiding St
def optN : Option Nat → D
  | none => .non
  | some i => .int i
end DL
namespace DL
open PySem PySem.Spec L2
open PyProof.Rows hiding St
end DL
namespace DL
open PySem PySem.Spec L2
open PyProof.Rows hiding St
def okS (x : Str) : Prop := ∀ c ∈ x.cps.toList, c < 16 ^ 8
end DL
namespace DL
open PySem PySem.Spec L2
open PyProof.Rows hiding St
/-- what a stack keeps and gives when t are taken -/
def kept (st : List Nat) (t : Nat) : List Nat := st.take (st.length - t)
end DL
namespace DL
open PySem PySem.Spec L2
open PyProof.Rows hiding St
def on (os : List (Option Nat)) : List D := os.map optN
theorem dSet_at {S : Sto} {n : Nat} {ds : List D} {v : D} {k : Nat} (h : getL S n = some ds) (hk : k < ds.length) : dSet (.loc n) (.int (k : Int)) v S = some (S.set n (.lst (ds.set k v))) := by
  show (getL S n).bind (fun ds => (ixN ds.length (k : Int)).map fun j => S.set n (.lst (ds.set j v))) = _
  rw [h, Option.bind_some]
  have : ixN ds.length (k : Int) = some k := by
    unfold ixN
    simp
    omega
  rw [this]
  rfl
end DL
namespace DL
open PySem PySem.Spec L2
open PyProof.Rows hiding St
theorem ix_at {r : List Int} {i : Nat} {x : Int} (h : r[i]? = some x) (S : Sto) : dIx (ti r) (.int (i : Int)) S = .ok (.int x) S := by
  have hl : i < r.length := (List.getElem?_eq_some_iff.mp h).1
  refine dIx_tup ?_
  rw [atI_nn (by omega) (by rw [List.length_map]; omega), Int.toNat_natCast, List.getElem?_map, h]
  rfl
end DL
namespace DL
open PySem PySem.Spec L2
open PyProof.Rows hiding St
end DL
namespace DL
open PySem PySem.Spec L2
open PyProof.Rows hiding St
theorem enumD_ints : ∀ (k : Nat) (l : List Int), enumD k (l.map D.int) = (l.zipIdx k).map fun q => .tup [.int (q.2 : Int), .int q.1]
  | _, [] => rfl
  | k, o :: os => by
    rw [List.map_cons, enumD, enumD_ints (k + 1) os]; rfl
end DL
namespace DL
open PySem PySem.Spec L2
open PyProof.Rows hiding St
end DL
namespace DL
open PySem PySem.Spec L2
open PyProof.Rows hiding St
def ar (l : List Int) (m : Nat) : Nat := ((l[m % l.length]?).getD 0).toNat
end DL
namespace DL
open PySem PySem.Spec L2
open PyProof.Rows hiding St
end DL
namespace DL
open PySem PySem.Spec L2
open PyProof.Rows hiding St
end DL
namespace DL
open PySem PySem.Spec L2
open PyProof.Rows hiding St
def po : Str := "("
theorem sz : 10 ^ 6 ≤ sizeLine := by decide
theorem sl_str {w : Str} (h : w.length ≤ 10 ^ 6) (lo hi : Option Int) (S : Sto) : dSl mkFl (.str w) lo hi S = .ok (.str (cutS w lo hi)) S := ifp_pos (Nat.le_trans h (by decide))
/-- letters alone -/
def ltS (w : Str) : Prop := ∀ c ∈ w.cps.toList, 97 ≤ c ∧ c ≤ 122
theorem ltS.ok {w : Str} (h : ltS w) : okS w := fun c hc => Nat.lt_of_le_of_lt (h c hc).2 (by decide)
structure Gt (n : Nat) (w : Str) : Prop where
  lt : ltS w
  len : w.length ≤ n
theorem Gt.ok {n : Nat} {w : Str} (h : Gt n w) : okS w := h.lt.ok
end DL
namespace DL
open PySem PySem.Spec L2
open PyProof.Rows hiding St
inductive Tre where
  | nd (cs : List Tre)
mutual
def Tre.d : Tre → D
  | .nd cs => .tup (Tre.ds cs)
def Tre.ds : List Tre → List D
  | [] => []
  | t :: ts => t.d :: Tre.ds ts
end
mutual
def Tre.sz : Tre → Nat
  | .nd cs => 1 + Tre.szs cs
def Tre.szs : List Tre → Nat
  | [] => 0
  | t :: ts => t.sz + Tre.szs ts
end
mutual
def Tre.row : Tre → List Int
  | .nd cs => Tre.rows cs ++ [(cs.length : Int)]
def Tre.rows : List Tre → List Int
  | [] => []
  | t :: ts => t.row ++ Tre.rows ts
end
mutual
def Tre.ok : Tre → Prop
  | .nd cs => cs.length ≤ 5 ∧ Tre.oks cs
def Tre.oks : List Tre → Prop
  | [] => True
  | t :: ts => t.ok ∧ Tre.oks ts
end
mutual
theorem Tre.bulk : ∀ t : Tre, bulkD t.d + 1 = t.sz
  | .nd cs => by rw [Tre.d, Tre.sz, bulkD, Tre.bulks cs]; omega
theorem Tre.bulks : ∀ ts : List Tre, bulkL (Tre.ds ts) = Tre.szs ts
  | [] => by rw [Tre.ds, Tre.szs, bulkL]
  | t :: ts => by rw [Tre.ds, Tre.szs, bulkL, Tre.bulk t, Tre.bulks ts]
end
mutual
theorem Tre.dep : ∀ t : Tre, depD t.d ≤ t.sz
  | .nd cs => by
    rw [Tre.d, Tre.sz, depD]
    have := Tre.deps cs
    omega
theorem Tre.deps : ∀ ts : List Tre, depL (Tre.ds ts) ≤ Tre.szs ts
  | [] => by rw [Tre.ds, depL]; omega
  | t :: ts => by
    rw [Tre.ds, Tre.szs, depL]
    have := Tre.dep t
    have := Tre.deps ts
    omega
end
mutual
theorem Tre.low : ∀ (n : Nat) (t : Tre), DL.low n t.d = true
  | n, .nd cs => by rw [Tre.d, DL.low, Tre.lows n cs]
theorem Tre.lows : ∀ (n : Nat) (ts : List Tre), lowL n (Tre.ds ts) = true
  | n, [] => by rw [Tre.ds]; rfl
  | n, t :: ts => by rw [Tre.ds, lowL, Tre.low n t, Tre.lows n ts]; rfl
end
end DL
namespace DL
open PySem PySem.Spec L2
open PyProof.Rows hiding St
def L (l : List Nat) : Str := ⟨l.toArray⟩
def lt (c : Nat) : Bool := decide (97 ≤ c) && decide (c ≤ 122)
structure RS where
  r : List Nat
  row : List Int
  nm : List (List Nat)
  op : List (List Nat × Int)
def clo : List Nat → List Int → List (List Nat) → List (List Nat × Int) → RS
  | [], row, nm, op => ⟨[], row, nm, op⟩
  | c :: r, row, nm, op => if c = 41 then (match op.getLast? with
    | some q => clo r (row ++ [q.2]) (nm ++ [q.1]) op.dropLast
    | none => ⟨c :: r, row, nm, op⟩) else ⟨c :: r, row, nm, op⟩
def nxt (s : RS) : Bool × RS := match s.op.getLast? with
  | none => (false, s)
  | some q => if s.r.take 2 = [44, 32] then (true, ⟨s.r.drop 2, s.row, s.nm, s.op.dropLast ++ [(q.1, q.2 + 1)]⟩) else (false, s)
def aftT (s : RS) : Bool × RS := if (clo s.r s.row s.nm s.op).r = [] then (true, clo s.r s.row s.nm s.op) else nxt (clo s.r s.row s.nm s.op)
def rnm (s : RS) : Bool × RS :=
  if 1 ≤ (s.r.takeWhile lt).length ∧ (s.r.takeWhile lt).length ≤ 8 then
    (if (s.r.dropWhile lt).take 1 = [40] then (true, ⟨(s.r.dropWhile lt).drop 1, s.row, s.nm, s.op ++ [(s.r.takeWhile lt, 1)]⟩)
    else aftT ⟨s.r.dropWhile lt, s.row ++ [0], s.nm ++ [s.r.takeWhile lt], s.op⟩)
  else (false, ⟨s.r.dropWhile lt, s.row, s.nm, s.op⟩)
def fin1 (s : RS) : Bool := s.op.isEmpty && (decide (s.row.length ≤ 24) && decide (maxL s.row ≤ 5))
/-- the whole reading, by fuel -/
def trun : Nat → RS → Bool × RS
  | 0, s => (false, s)
  | f + 1, s => match rnm s with
    | (false, s') => (false, s')
    | (true, s') => if s'.r = [] then (fin1 s', s') else trun f s'
end DL
namespace DL
open PySem PySem.Spec L2
open PyProof.Rows hiding St
end DL
namespace DL
open PySem PySem.Spec L2
open PyProof.Rows hiding St
end DL
namespace DL
open PySem PySem.Spec L2
open PyProof.Rows hiding St
end DL
namespace DL
open PySem PySem.Spec L2
open PyProof.Rows hiding St
def T (s : RS) : Bool × RS := trun (s.r.length + 1) s
end DL
namespace DL
open PySem PySem.Spec L2
open PyProof.Rows hiding St
end DL
namespace DL
open PySem PySem.Spec L2
open PyProof.Rows hiding St
def rlF (now st dn ch bz : D) : List (Str × D) := [("now", now), ("states", st), ("done", dn), ("chosen", ch), ("is_busy", bz)]
def rlO (now st dn ch bz : D) : Ob := .ins "Reel" (rlF now st dn ch bz)
section
variable {S : Sto} {n : Nat} {now st dn ch bz : D}
theorem set_set (o p : Ob) : (S.set n o).set n p = S.set n p := List.set_set ..
end
end DL
namespace DL
open PySem PySem.Spec L2
open PyProof.Rows hiding St
end DL
namespace DL
open PySem PySem.Spec L2
open PyProof.Rows hiding St
structure Rg (l : List Int) : Prop where
  pos : 0 < l.length
  len : l.length ≤ 24
  ar : ∀ t ∈ l, Arity t
def putT (l : List Int) (p : Nat) (a : Int) : List Int := l.take p ++ [a] ++ l.drop (p + 1)
def insT (l : List Int) (p : Nat) (a : Int) : List Int := l.take p ++ [a] ++ l.drop p
def delT (l : List Int) (p : Nat) : List Int := l.take p ++ l.drop (p + 1)
theorem Rg.putT {l : List Int} (h : Rg l) {p : Nat} {a : Int} (hp : p < l.length) (ha : Arity a) : Rg (putT l p a) := by
  have hlen : (DL.putT l p a).length = l.length := by unfold DL.putT; simp; omega
  refine ⟨by rw [hlen]; exact h.pos, by rw [hlen]; exact h.len, fun t ht => ?_⟩
  unfold DL.putT at ht
  rcases List.mem_append.mp ht with ht | ht
  · rcases List.mem_append.mp ht with ht | ht
    · exact h.ar t (List.mem_of_mem_take ht)
    · rw [List.mem_singleton.mp ht]; exact ha
  · exact h.ar t (List.mem_of_mem_drop ht)
theorem Rg.insT {l : List Int} (h : Rg l) {p : Nat} {a : Int} (hp : p ≤ l.length) (hl : ¬ l.length = 24) (ha : Arity a) : Rg (insT l p a) := by
  have hlen : (DL.insT l p a).length = l.length + 1 := by unfold DL.insT; simp; omega
  have := h.len
  refine ⟨by rw [hlen]; omega, by rw [hlen]; omega, fun t ht => ?_⟩
  unfold DL.insT at ht
  rcases List.mem_append.mp ht with ht | ht
  · rcases List.mem_append.mp ht with ht | ht
    · exact h.ar t (List.mem_of_mem_take ht)
    · rw [List.mem_singleton.mp ht]; exact ha
  · exact h.ar t (List.mem_of_mem_drop ht)
theorem Rg.delT {l : List Int} (h : Rg l) {p : Nat} (hp : p < l.length) (hl : ¬ l.length = 1) : Rg (delT l p) := by
  have hlen : (DL.delT l p).length = l.length - 1 := by unfold DL.delT; simp; omega
  have := h.len
  have := h.pos
  refine ⟨by rw [hlen]; omega, by rw [hlen]; omega, fun t ht => ?_⟩
  unfold DL.delT at ht
  rcases List.mem_append.mp ht with ht | ht
  · exact h.ar t (List.mem_of_mem_take ht)
  · exact h.ar t (List.mem_of_mem_drop ht)
def noArity (v : D) : Ex := ⟨.own "NoArity", [("value", v)]⟩
def tooLong : Ex := ⟨.own "TooLong", [("limit", .int 24)]⟩
def lastTok : Ex := ⟨.own "LastToken", []⟩
/-- an edit as it is asked for -/
inductive Ed where
  | put (v a : D)
  | ins (v a : D)
  | rem (v : D)
def Ed.d : Ed → D
  | .put v a => .tup [.str "put", v, a]
  | .ins v a => .tup [.str "insert", v, a]
  | .rem v => .tup [.str "remove", v]
def Ed.on (l : List Int) : Ed → Except Ex (List Int)
  | .put v a => match plc l.length v with
    | none => .error (noPlace v)
    | some p => match plc 6 a with
      | none => .error (noArity a)
      | some t => .ok (putT l p t)
  | .ins v a => match plc (l.length + 1) v with
    | none => .error (noPlace v)
    | some p => match plc 6 a with
      | none => .error (noArity a)
      | some t => if l.length = 24 then .error tooLong else .ok (insT l p t)
  | .rem v => match plc l.length v with
    | none => .error (noPlace v)
    | some p => if l.length = 1 then .error lastTok else .ok (delT l p)
theorem ar6 {t : Nat} (h : t < 6) : Arity (t : Int) := by unfold Arity; omega
theorem Ed.rg {l r : List Int} (h : Rg l) : ∀ {e : Ed}, e.on l = .ok r → Rg r := by
  intro e
  cases e with
  | put v a =>
    intro he
    unfold Ed.on at he
    cases e1 : plc l.length v with
    | none => simp only [e1] at he; cases he
    | some p =>
      cases e2 : plc 6 a with
      | none => simp only [e1, e2] at he; cases he
      | some t =>
        simp only [e1, e2] at he
        cases he
        exact h.putT (plc_some e1).2 (ar6 (plc_some e2).2)
  | ins v a =>
    intro he
    unfold Ed.on at he
    cases e1 : plc (l.length + 1) v with
    | none => simp only [e1] at he; cases he
    | some p =>
      cases e2 : plc 6 a with
      | none => simp only [e1, e2] at he; cases he
      | some t =>
        simp only [e1, e2] at he
        split at he
        · cases he
        · rename_i hc
          cases he
          exact h.insT (by have := (plc_some e1).2; omega) hc (ar6 (plc_some e2).2)
  | rem v =>
    intro he
    unfold Ed.on at he
    cases e1 : plc l.length v with
    | none => simp only [e1] at he; cases he
    | some p =>
      simp only [e1] at he
      split at he
      · cases he
      · rename_i hc
        cases he
        exact h.delT (plc_some e1).2 hc
end DL
namespace DL
open PySem PySem.Spec L2
open PyProof.Rows hiding St
end DL
namespace DL
open PySem PySem.Spec L2
open PyProof.Rows hiding St
theorem i1 (a b c : D) (S : Sto) : dIx (.tup [a, b, c]) (.int 1) S = .ok b S := rfl
theorem i2 (a b c : D) (S : Sto) : dIx (.tup [a, b, c]) (.int 2) S = .ok c S := rfl
/-- reel, rings and edits go side by side -/
structure RI (S : Sto) (r g d : Nat) (l : List Int) (sts dn : List D) (ch : D) : Prop where
  reel : S[r]? = some (rlO (ti l) (.tup (sts ++ [ti l])) (.tup dn) ch (.bl false))
  rings : S[g]? = some (.lst (sts ++ [ti l]))
  done : S[d]? = some (.lst dn)
  rg : Rg l
  all : ∀ x ∈ sts, ∃ k, Rg k ∧ x = ti k
  len : sts.length = dn.length
  most : dn.length ≤ 60
  shw : ∀ x ∈ dn, Shw 21 1 x
  ng : g ≠ r ∧ d ≠ r ∧ d ≠ g
  low : 2 ≤ r ∧ 2 ≤ g ∧ 2 ≤ d
theorem Strm.get {S : Sto} {n : Nat} {rest : Sto} (h : Strm S n rest) {i : Nat} (hi : 2 ≤ i) : S[i]? = rest[i - 2]? := by
  obtain ⟨big, cells, t, rfl, _⟩ := h
  obtain ⟨k, rfl⟩ : ∃ k, i = k + 2 := ⟨i - 2, by omega⟩
  rfl
theorem Strm.set {S : Sto} {n : Nat} {rest : Sto} (h : Strm S n rest) {i : Nat} (hi : 2 ≤ i) (o : Ob) : Strm (S.set i o) n (rest.set (i - 2) o) := by
  obtain ⟨big, cells, t, rfl, hk⟩ := h
  obtain ⟨k, rfl⟩ : ∃ k, i = k + 2 := ⟨i - 2, by omega⟩
  exact ⟨big, cells, t, rfl, hk⟩
theorem get_app {S : Sto} {i : Nat} {o : Ob} (h : S[i]? = some o) (t : Sto) : (S ++ t)[i]? = some o := by
  obtain ⟨hn, _⟩ := List.getElem?_eq_some_iff.mp h
  rw [List.getElem?_append_left hn]; exact h
theorem RI.app {S : Sto} {r g d : Nat} {l : List Int} {sts dn : List D} {ch : D} (h : RI S r g d l sts dn ch) (t : Sto) : RI (S ++ t) r g d l sts dn ch :=
  ⟨get_app h.reel t, get_app h.rings t, get_app h.done t, h.rg, h.all, h.len, h.most, h.shw, h.ng, h.low⟩
theorem q2 (a b : D) (S : Sto) : dIx (.fl [a, b]) (.int 0) S = .ok a S := rfl
theorem q3 (a b : D) (S : Sto) : dIx (.fl [a, b]) (.int 1) S = .ok b S := rfl
end DL
namespace DL
open PySem PySem.Spec L2
open PyProof.Rows hiding St
mutual
theorem low_rok : ∀ {d : D}, rok d = true → ∀ n, low n d = true
  | .int _, _, _ => rfl
  | .bl _, _, _ => rfl
  | .non, _, _ => rfl
  | .str _, _, _ => rfl
  | .tup ds, h, n => by
    rw [low]; exact lowL_rok (by rw [rok] at h; exact h) n
  | .fl ds, h, n => by
    rw [low]; exact lowL_rok (by rw [rok] at h; exact h) n
  | .kl ds, h, n => by simp [rok] at h
  | .ktp ds, h, n => by simp [rok] at h
  | .ztp ds, h, n => by simp [rok] at h
  | .loc _, h, _ => by simp [rok] at h
  | .ty _, h, _ => by simp [rok] at h
  | .fn _, h, _ => by simp [rok] at h
  | .exc _ _, h, _ => by simp [rok] at h
  | .fd kvs, h, n => by
    rw [low]; exact lowK_rok (by rw [rok] at h; exact h) n
theorem lowL_rok : ∀ {ds : List D}, rokL ds = true → ∀ n, lowL n ds = true
  | [], _, _ => rfl
  | d :: ds, h, n => by
    rw [rokL, Bool.and_eq_true] at h
    rw [lowL, low_rok h.1 n, lowL_rok h.2 n]; rfl
theorem lowK_rok : ∀ {ds : List (Key × D)}, rokK ds = true → ∀ n, lowK n ds = true
  | [], _, _ => rfl
  | (k, d) :: ds, h, n => by
    have h' : rok d = true ∧ rokK ds = true := by
      cases k <;> (simp only [rokK, Bool.and_eq_true] at h; exact ⟨h.1.2, h.2⟩)
    rw [lowK, low_rok h'.1 n, lowK_rok h'.2 n]; rfl
end
theorem lowL_all {n : Nat} : ∀ {ds : List D}, (∀ d ∈ ds, low n d = true) → lowL n ds = true
  | [], _ => rfl
  | d :: ds, h => by
    rw [lowL, h d List.mem_cons_self, lowL_all fun x hx => h x (List.mem_cons_of_mem _ hx)]; rfl
theorem low_ti (l : List Int) (n : Nat) : low n (ti l) = true := by
  unfold ti
  rw [low]
  exact lowL_all fun d hd => by
    obtain ⟨i, _, rfl⟩ := List.mem_map.mp hd
    rfl
theorem RI.trunc {S S' : Sto} {n m : Nat} {rest rest' : Sto} {r g d : Nat} {l : List Int} {sts dn : List D} {ch : D} (s : Strm S n rest) (s' : Strm S' m rest') (h : RI S' r g d l sts dn ch) (hc : rok ch = true) (hb : r < S.length ∧ g < S.length ∧ d < S.length) (hlen : S.length ≤ S'.length)
    (far : ∀ i, 2 ≤ i → i < S.length → i ≠ r → i ≠ g → i ≠ d → S'[i]? = S[i]?) : Trunc S S' ∧ RI (S'.take S.length) r g d l sts dn ch ∧ ∃ rest2, Strm (S'.take S.length) m rest2 := by
  have lsts : lowL S.length (sts ++ [ti l]) = true := lowL_all fun x hx => by
    rcases List.mem_append.mp hx with hx | hx
    · obtain ⟨k, _, rfl⟩ := h.all x hx
      exact low_ti k _
    · rw [List.mem_singleton.mp hx]; exact low_ti l _
  have ldn : lowL S.length dn = true := lowL_all fun x hx => low_rok (h.shw x hx).ok _
  have tk : ∀ i, i < S.length → (S'.take S.length)[i]? = S'[i]? := fun i hi => List.getElem?_take_of_lt hi
  have two : 2 ≤ S.length := by have := s.len; omega
  refine ⟨⟨hlen, fun k o hk e => ?_⟩, ⟨by rw [tk r hb.1]; exact h.reel, by rw [tk g hb.2.1]; exact h.rings, by rw [tk d hb.2.2]; exact h.done, h.rg, h.all, h.len, h.most, h.shw, h.ng, h.low⟩, ?_⟩
  · by_cases k2 : 2 ≤ k
    · by_cases kr : k = r
      · subst kr
        rw [h.reel] at e
        cases e
        right
        have e1 : DL.low S.length (.tup (sts ++ [ti l])) = true := by rw [DL.low]; exact lsts
        have e2 : DL.low S.length (.tup dn) = true := by rw [DL.low]; exact ldn
        have e3 : DL.low S.length (.bl false) = true := rfl
        simp only [rlO, rlF, lowO, lowF, low_ti, e1, e2, e3, low_rok hc, Bool.and_true]
      · by_cases kg : k = g
        · subst kg
          rw [h.rings] at e
          cases e
          right
          exact lsts
        · by_cases kd : k = d
          · subst kd
            rw [h.done] at e
            cases e
            right
            exact ldn
          · left
            rw [← far k k2 hk kr kg kd]
            exact e
    · right
      obtain ⟨b', c', t', rfl, o'⟩ := s'
      match k, k2, e with
      | 0, _, e => cases e; simp [lowO, lowL_ints]
      | 1, _, e =>
        cases e
        have z : 0 < S.length := by omega
        simp [lowO, lowL, DL.low, lowL_ints]
        exact z
      | k + 2, k2, _ => omega
  · obtain ⟨b', c', t', rfl, o'⟩ := s'
    obtain ⟨N, hN⟩ : ∃ N, S.length = N + 2 := ⟨S.length - 2, by omega⟩
    rw [hN]
    exact ⟨rest'.take N, b', c', t', rfl, o'⟩
theorem fnC_trunc {n m : Nat} {B : Ev → Sto → SR} {ds : List D} {S S' : Sto} {d : D} (hm : ds.length = m) (h : B (startD n ds) S = .rt d S') (hlen : S.length < S'.length) (t : Trunc S S') (hl : low S.length d = true) : fnC close n m B ds S = .ok d (S'.take S.length) := by
  unfold fnC
  rw [if_pos hm, h]
  show close S d S' = _
  unfold close
  rw [if_neg (by omega), if_pos ⟨t, hl⟩]
end DL
namespace DL
open PySem PySem.Spec L2
open PyProof.Rows hiding St
end DL
namespace DL
open PySem PySem.Spec L2
open PyProof.Rows hiding St
def nxA (h : Int) : Nat → List Int → List Nat
  | _, [] => []
  | a, c :: cs => (if 0 < c ∧ (a : Int) ≤ h then [a] else []) ++ nxA h (a + 1) cs
end DL
namespace DL
open PySem PySem.Spec L2
open PyProof.Rows hiding St
/-- one token of arity a less -/
def decr (c : List Int) (a : Nat) : List Int := c.take a ++ (c.getD a 0 - 1) :: c.drop (a + 1)
/-- the rows in which all tokens can be read from a height on, in ascending order -/
def cmpl : Nat → Int → List Int → List (List Int)
  | 0, _, _ => [[]]
  | n + 1, h, c => (nxA h 0 c).flatMap fun a => (cmpl n (h + 1 - (a : Nat)) (decr c a)).map fun r => ((a : Nat) : Int) :: r
def wys (n : Nat) (h : Int) (c : List Int) : Nat := (cmpl n h c).length
def balC : Nat → List Int → Int
  | _, [] => 0
  | k, x :: cs => x * (1 - (k : Nat)) + balC (k + 1) cs
theorem decr_cons_zero (x : Int) (cs : List Int) : decr (x :: cs) 0 = (x - 1) :: cs := by simp [decr]
theorem decr_cons_succ (x : Int) (cs : List Int) (a : Nat) : decr (x :: cs) (a + 1) = x :: decr cs a := by simp [decr]
theorem decr_len : ∀ {c : List Int} {a : Nat}, a < c.length → (decr c a).length = c.length
  | x :: cs, 0, _ => by rw [decr_cons_zero]; rfl
  | x :: cs, a + 1, h => by
    rw [decr_cons_succ, List.length_cons, List.length_cons, decr_len (by simpa using h)]
theorem decr_sum : ∀ {c : List Int} {a : Nat}, a < c.length → (decr c a).sum = c.sum - 1
  | x :: cs, 0, _ => by rw [decr_cons_zero, List.sum_cons, List.sum_cons]; omega
  | x :: cs, a + 1, h => by
    rw [decr_cons_succ, List.sum_cons, List.sum_cons, decr_sum (by simpa using h)]; omega
theorem decr_nn : ∀ {c : List Int} {a : Nat}, (∀ x ∈ c, 0 ≤ x) → 0 < c.getD a 0 → ∀ x ∈ decr c a, 0 ≤ x
  | [], a, _, h => by simp at h
  | x :: cs, 0, hc, h => by
    rw [decr_cons_zero]
    intro y hy
    rcases List.mem_cons.mp hy with rfl | hy
    · have : 0 < x := by simpa using h
      omega
    · exact hc y (List.mem_cons_of_mem _ hy)
  | x :: cs, a + 1, hc, h => by
    rw [decr_cons_succ]
    intro y hy
    rcases List.mem_cons.mp hy with rfl | hy
    · exact hc _ List.mem_cons_self
    · exact decr_nn (fun z hz => hc z (List.mem_cons_of_mem _ hz)) (by simpa using h) y hy
theorem decr_bal : ∀ {c : List Int} {a : Nat} (k : Nat), a < c.length → balC k (decr c a) = balC k c - (1 - ((k + a : Nat) : Int))
  | x :: cs, 0, k, _ => by
    rw [decr_cons_zero, balC, balC, Int.sub_mul, Int.one_mul, Nat.add_zero]; omega
  | x :: cs, a + 1, k, h => by
    rw [decr_cons_succ, balC, balC, decr_bal (k + 1) (by simpa using h)]
    have : k + 1 + a = k + (a + 1) := by omega
    rw [this]; omega
theorem wys_succ (n : Nat) (h : Int) (c : List Int) : wys (n + 1) h c = ((nxA h 0 c).map fun a => wys n (h + 1 - (a : Nat)) (decr c a)).sum := by
  unfold wys
  rw [cmpl, List.length_flatMap]
  congr 1
  refine List.map_congr_left fun a _ => ?_
  rw [List.length_map]
def keyC (c : List Int) : List Key := c.map Sum.inl
theorem keyC_inj {a b : List Int} (h : keyC a = keyC b) : a = b := by
  unfold keyC at h
  exact (List.map_inj_right (fun x y e => Sum.inl.inj e)).mp h
theorem keysOf_ints : ∀ c : List Int, keysOf (c.map D.int) = some (keyC c)
  | [] => rfl
  | x :: c => by rw [List.map_cons, keysOf, keysOf_ints c]; rfl
def Memo (E : Int) (kvs : List (List Key × D)) : Prop := ∀ c v, lookT kvs (keyC c) = some v → v = .int ((wys c.sum.toNat (E - balC 0 c) c : Nat) : Int)
theorem lookT_put {kvs : List (List Key × D)} {k : List Key} {v : D} : lookT (putTD kvs k v) k = some v := by
  unfold putTD
  split
  · rename_i h
    obtain ⟨q, hq, e⟩ := List.any_eq_true.mp h
    have e := of_decide_eq_true e
    induction kvs with
    | nil => cases hq
    | cons p r ih =>
      rw [List.map_cons]
      unfold lookT
      by_cases hp : p.1 = k
      · simp [List.find?_cons, hp]
      · rw [if_neg hp, List.find?_cons]
        have : decide (p.1 = k) = false := decide_eq_false hp
        rw [this]
        have hq' : q ∈ r := by
          rcases List.mem_cons.mp hq with rfl | hq
          · exact absurd e hp
          · exact hq
        exact ih (List.any_eq_true.mpr ⟨q, hq', decide_eq_true e⟩) hq'
  · rename_i h
    have : kvs.find? (fun kv => decide (kv.1 = k)) = none := by
      rw [List.find?_eq_none]
      intro q hq z
      exact h (List.any_eq_true.mpr ⟨q, hq, z⟩)
    unfold lookT
    rw [List.find?_append, this]
    simp
theorem lookT_other {kvs : List (List Key × D)} {k j : List Key} {v : D} (hj : j ≠ k) : lookT (putTD kvs k v) j = lookT kvs j := by
  unfold putTD
  split
  · rename_i hh
    clear hh
    induction kvs with
    | nil => rfl
    | cons p r ih =>
      rw [List.map_cons]
      unfold lookT at ih ⊢
      by_cases hp : p.1 = k
      · rw [if_pos hp, List.find?_cons, List.find?_cons]
        have : decide (p.1 = j) = false := decide_eq_false fun z => hj (z.symm.trans hp)
        simp only [this]
        exact ih
      · rw [if_neg hp, List.find?_cons, List.find?_cons]
        cases decide (p.1 = j) with
        | true => rfl
        | false => exact ih
  · unfold lookT
    rw [List.find?_append]
    cases kvs.find? (fun kv => decide (kv.1 = j)) with
    | some q => rfl
    | none =>
      have : decide (k = j) = false := decide_eq_false fun z => hj z.symm
      simp [this]
theorem Memo.put {E : Int} {kvs : List (List Key × D)} (h : Memo E kvs) (c : List Int) : Memo E (putTD kvs (keyC c) (.int ((wys c.sum.toNat (E - balC 0 c) c : Nat) : Int))) := by
  intro c2 v hv
  by_cases e : c2 = c
  · subst e
    rw [lookT_put] at hv
    exact (Option.some.inj hv).symm
  · rw [lookT_other (fun z => e (keyC_inj z))] at hv
    exact h c2 v hv
theorem Memo.nil (E : Int) : Memo E [] := fun c v h => by cases h
/-- how many results a call may add -/
def TT : Nat → Nat
  | 0 => 0
  | n + 1 => 1 + 6 * TT n
end DL
namespace DL
open PySem PySem.Spec L2
open PyProof.Rows hiding St
noncomputable def L1_count_rows (ρ : Ev) (S : Sto) : SR :=
  (sSeq (sAug 2 dAddI (eC (.int 1)))
    (sSet 1 (eOp dFdiv (eOp dMulT (eVar 1) (eVar 2)) (eOp dAdd (eVar 4) (eC (.int 1)))))) ρ S
noncomputable def L2_count_rows (ρ : Ev) (S : Sto) : SR :=
  (sFor (iRange1 (aCons (eVar 3) aNil)) (tN 4) L1_count_rows sNil) ρ S
noncomputable def B_count_rows : Ev → Sto → SR :=
  (sSeq (sAsg (eTup (aCons (eC (.int 1)) (aCons (eC (.int 0)) aNil))) (tTup 2 (tCons (tN 1) (tCons (tN 2) tNil))))
    (sSeq (sFor (iSeq (eVar 0)) (tN 3) L2_count_rows sNil)
    (sRet (eVar 1))))
noncomputable def F_count_rows : Fn := fnC close 5 1 B_count_rows
noncomputable def E1_balance_of (ρ : Ev) (S : Sto) : R D :=
  (eOp dMulT (eVar 2) (eOp dSub (eC (.int 1)) (eVar 1))) ρ S
noncomputable def B_balance_of : Ev → Sto → SR :=
  (sRet (eCall bSum2 (aCons (eLc finFl (iEnumD (aCons (eVar 0) aNil)) (tTup 2 (tCons (tN 1) (tCons (tN 2) tNil))) [1, 2] cYes E1_balance_of) aNil)))
noncomputable def F_balance_of : Fn := fnC close 3 1 B_balance_of
theorem ktp_sum (c : List Int) (S : Sto) : bSum2 [ti c] S = .ok (.int c.sum) S := ti_sum c S
theorem dSetT_at {S : Sto} {d : Nat} {kvs : List (List Key × D)} (h : S[d]? = some (.dkt kvs)) (c : List Int) (v : D) (hl : kvs.length < sizeLine) : dSetT (.loc d) (.ktp (c.map D.int)) v S = some (S.set d (.dkt (putTD kvs (keyC c) v))) := by
  have e1 : keyT (.ktp (c.map D.int)) = some (keyC c) := keysOf_ints c
  unfold dSetT
  rw [e1]
  simp only [h]
  rw [if_pos hl]
end DL
namespace DL
open PySem PySem.Spec L2
open PyProof.Rows hiding St
end DL
namespace DL
open PySem PySem.Spec L2
open PyProof.Rows hiding St
end DL
namespace DL
open PySem PySem.Spec L2
open PyProof.Rows hiding St
theorem ar_nat {t : Int} (h : Arity t) : ∃ a : Nat, t = ((a : Nat) : Int) ∧ a < 6 := by
  unfold Arity at h
  exact ⟨t.toNat, by omega, by omega⟩
end DL
namespace DL
open PySem PySem.Spec L2
open PyProof.Rows hiding St
def s2 (S : Sto) (xs : List D) (kvs : List (List Key × D)) : Sto := S ++ [.lst xs, .dkt kvs]
end DL
namespace DL
open PySem PySem.Spec L2
open PyProof.Rows hiding St
def crS (p : Int × Nat) (k : Nat) : Int × Nat := (p.1 * ((p.2 + 1 : Nat) : Int) / ((k + 1 : Nat) : Int), p.2 + 1)
def crI (p : Int × Nat) (x : Int) : Int × Nat := (List.range x.toNat).foldl crS p
def crF (c : List Int) : Int := (c.foldl crI (1, 0)).1
def comps : Nat → Nat → List (List Int)
  | 0, 0 => [[]]
  | 0, _ + 1 => []
  | k + 1, n => (List.range (n + 1)).flatMap fun a => (comps k (n - a)).map fun c => ((a : Nat) : Int) :: c
theorem sum_nn0 : ∀ {l : List Int}, (∀ x ∈ l, 0 ≤ x) → 0 ≤ l.sum
  | [], _ => by decide
  | y :: l, h => by
    rw [List.sum_cons]
    have h1 := h y List.mem_cons_self
    have h2 := sum_nn0 (l := l) fun z hz => h z (List.mem_cons_of_mem _ hz)
    omega
theorem comps_mem : ∀ {c : List Int} {n : Nat}, (∀ x ∈ c, 0 ≤ x) → c.sum = ((n : Nat) : Int) → c ∈ comps c.length n
  | [], 0, _, _ => by rw [List.length_nil, comps]; exact List.mem_singleton.mpr rfl
  | [], n + 1, _, h => by rw [List.sum_nil] at h; omega
  | x :: cs, n, hc, hs => by
    have hx := hc x List.mem_cons_self
    rw [List.sum_cons] at hs
    have hcs : 0 ≤ cs.sum := sum_nn0 fun z hz => hc z (List.mem_cons_of_mem _ hz)
    rw [List.length_cons, comps, List.mem_flatMap]
    refine ⟨x.toNat, List.mem_range.mpr (by omega), List.mem_map.mpr ⟨cs, comps_mem (fun z hz => hc z (List.mem_cons_of_mem _ hz)) (by omega), ?_⟩⟩
    congr 1
    omega
theorem crS_le {p : Int × Nat} {k : Nat} (h : 0 ≤ p.1 ∧ p.1 ≤ 16 ^ p.2) (hs : p.2 ≤ 14) : 0 ≤ (crS p k).1 ∧ (crS p k).1 ≤ 16 ^ (p.2 + 1) := by
  unfold crS
  obtain ⟨h1, h2⟩ := h
  have a : 0 ≤ p.1 * ((p.2 + 1 : Nat) : Int) := Int.mul_nonneg h1 (by omega)
  refine ⟨Int.ediv_nonneg a (by omega), ?_⟩
  have b : p.1 * ((p.2 + 1 : Nat) : Int) / ((k + 1 : Nat) : Int) ≤ p.1 * ((p.2 + 1 : Nat) : Int) := Int.ediv_le_self _ a
  have c : p.1 * ((p.2 + 1 : Nat) : Int) ≤ 16 ^ p.2 * 16 := by
    have c1 : p.1 * ((p.2 + 1 : Nat) : Int) ≤ p.1 * 16 := Int.mul_le_mul_of_nonneg_left (by omega) h1
    have c2 : p.1 * 16 ≤ 16 ^ p.2 * 16 := Int.mul_le_mul_of_nonneg_right h2 (by omega)
    omega
  show p.1 * ((p.2 + 1 : Nat) : Int) / ((k + 1 : Nat) : Int) ≤ 16 ^ (p.2 + 1)
  rw [Int.pow_succ]
  omega
theorem pow16 {n : Nat} (h : n ≤ 15) : (16 : Int) ^ n ≤ 16 ^ 15 := by
  have : ((List.range 16).all fun n => decide ((16 : Int) ^ n ≤ 16 ^ 15)) = true := by decide
  exact of_decide_eq_true (List.all_eq_true.mp this n (List.mem_range.mpr (by omega)))
theorem cr_inner (x0 x3 : Option D) (S : Sto) : ∀ (ks : List Nat) (p : Int × Nat) (x4 : Option D), (∀ k ∈ ks, k < 1000) → (0 ≤ p.1 ∧ p.1 ≤ 16 ^ p.2) → p.2 + ks.length ≤ 14 →
    ∃ y4, forD yes (tN 4) L1_count_rows sNil (ks.map fun k => .int ((k : Nat) : Int)) [x0, some (.int p.1), some (.int ((p.2 : Nat) : Int)), x3, x4] S = .nx [x0, some (.int (ks.foldl crS p).1), some (.int (((ks.foldl crS p).2 : Nat) : Int)), x3, y4] S ∧ (0 ≤ (ks.foldl crS p).1 ∧ (ks.foldl crS p).1 ≤ 16 ^ (ks.foldl crS p).2) ∧ (ks.foldl crS p).2 = p.2 + ks.length
  | [], p, x4, _, hp, _ => ⟨x4, by rw [List.map_nil, forD_nil trivial]; rfl, hp, rfl⟩
  | k :: ks, p, x4, hk, hp, hl => by
    rw [List.length_cons] at hl
    have kk := hk k List.mem_cons_self
    have up := crS_le (k := k) hp (by omega)
    obtain ⟨y4, e, b, s⟩ := cr_inner x0 x3 S ks (crS p k) (some (.int ((k : Nat) : Int))) (fun z hz => hk z (List.mem_cons_of_mem _ hz)) up (by show p.2 + 1 + ks.length ≤ 14; omega)
    refine ⟨y4, ?_, b, by rw [List.foldl_cons, s, List.length_cons]; show p.2 + 1 + ks.length = _; omega⟩
    have lim := pow16 (n := p.2) (by omega)
    have ad : ∀ S, dAddI (.int ((p.2 : Nat) : Int)) (.int 1) S = .ok (.int ((p.2 + 1 : Nat) : Int)) S := fun S => by rw [dAddI_int]; rfl
    have ad2 : ∀ S, dAdd (.int ((k : Nat) : Int)) (.int 1) S = .ok (.int ((k + 1 : Nat) : Int)) S := fun S => by rw [dAdd_int]; rfl
    have ml := mulT_int (i := p.1) (j := ((p.2 + 1 : Nat) : Int)) ⟨by omega, by omega⟩
    have fd := fdiv_int (i := p.1 * ((p.2 + 1 : Nat) : Int)) (j := ((k + 1 : Nat) : Int)) (by omega) (by omega)
    have body : L1_count_rows [x0, some (.int p.1), some (.int ((p.2 : Nat) : Int)), x3, some (.int ((k : Nat) : Int))] S = .nx [x0, some (.int (crS p k).1), some (.int (((crS p k).2 : Nat) : Int)), x3, some (.int ((k : Nat) : Int))] S := by
      show _ = SR.nx [x0, some (.int (p.1 * ((p.2 + 1 : Nat) : Int) / ((k + 1 : Nat) : Int))), some (.int ((p.2 + 1 : Nat) : Int)), x3, some (.int ((k : Nat) : Int))] S
      simp only [eVar, eC, eOp, eT, eAnd, eOr, eNot, eIf, eAndV, eOrV, eNotV, eCall, aNil, aCons, aStar, sOf, eTup, eFl, eLoc, eSl, oNone, oSome, iOf, eNeg, eChain, eMt, bOf, eDict0, eRev, eListRg, iZipD, sRaise1, sRaise0, eCallV, List.lookup, R.bind_ok, R.bind_er, R.bind_stuck, R.toS_ok, R.toS_er, R.toS_stuck, SR.next_nx, SR.next_rt, SR.next_er, SR.next_bk, SR.next_ct, SR.next_stuck, sNil, sSeq, sBrk, sCnt, sExp, sRet, sRetN, sIf, sSet, sAsg, sAug, sPar2, sPar3, tN, DL.tTup, DL.tNil, DL.tCons, DL.tSub, iSeq, srcOf_tup, srcOf_fl, srcOf_kl, srcOf_ti, iRange1, iRange2, sFor, startD, List.map_cons, List.map_nil, List.length_cons, List.length_nil, List.replicate, List.cons_append, List.nil_append, List.getElem?_cons_zero, List.getElem?_cons_succ, List.set_cons_zero, List.set_cons_succ, dSub_int, dFdiv_int, dMod_int, dLt_int, dLe_int, dGt_int, dGe_int, dAddI_int, dSubI_int, dIsN_non, isN, dAdd_int, ll0, ll1, ll2, ll3, ll4, ll5, ll6, ll7, ll8, ll9, ll10, ll11, ll12, ll13, ll14, ll15, ll16, ll17, ll18, ll19, ll20, ll21, ll22, ll23, ll24, ll25, ll26, ll27, ll28, ll29, ll30, ll31, ll32, ll33, ll34, ll35, ll36, ll37, ll38, ll39, ll40, Nat.reduceSub, Nat.reduceAdd, Nat.reduceEqDiff, if_true, if_false, ifp_t, ifp_f, reduceIte, Bool.true_eq_false, Bool.false_eq_true, Option.map_some, Option.map_none, Option.bind_some, Option.bind_none, L1_count_rows, ad, ad2, ml, fd]
    rw [List.map_cons, forD_cons (ρ1 := [x0, some (.int p.1), some (.int ((p.2 : Nat) : Int)), x3, some (.int ((k : Nat) : Int))]) (S1 := S) trivial rfl body, e]
    rfl
theorem cr_outer (x0 : Option D) (S : Sto) : ∀ (c : List Int) (p : Int × Nat) (x3 x4 : Option D), (∀ x ∈ c, 0 ≤ x) → (0 ≤ p.1 ∧ p.1 ≤ 16 ^ p.2) → ((p.2 : Nat) : Int) + c.sum ≤ 14 →
    ∃ y3 y4, forD yes (tN 3) L2_count_rows sNil (c.map D.int) [x0, some (.int p.1), some (.int ((p.2 : Nat) : Int)), x3, x4] S = .nx [x0, some (.int (c.foldl crI p).1), some (.int (((c.foldl crI p).2 : Nat) : Int)), y3, y4] S ∧ (0 ≤ (c.foldl crI p).1 ∧ (c.foldl crI p).1 ≤ 16 ^ 15)
  | [], p, x3, x4, _, hp, hl => ⟨x3, x4, by rw [List.map_nil, forD_nil trivial]; rfl, hp.1, by
    have h0 : ([] : List Int).sum = 0 := rfl
    rw [h0] at hl
    exact Int.le_trans hp.2 (pow16 (by omega))⟩
  | x :: cs, p, x3, x4, hc, hp, hl => by
    have hx := hc x List.mem_cons_self
    rw [List.sum_cons] at hl
    have nn := sum_nn0 (l := cs) fun z hz => hc z (List.mem_cons_of_mem _ hz)
    obtain ⟨z4, e1, b1, s1⟩ := cr_inner x0 (some (.int x)) S (List.range x.toNat) p x4 (fun k hk => by have := List.mem_range.mp hk; omega) hp (by rw [List.length_range]; omega)
    rw [List.length_range] at s1
    have es : (List.range x.toNat).foldl crS p = crI p x := rfl
    rw [es] at e1 b1 s1
    obtain ⟨y3, y4, e2, b2⟩ := cr_outer x0 S cs (crI p x) (some (.int x)) z4 (fun z hz => hc z (List.mem_cons_of_mem _ hz)) b1 (by rw [s1]; omega)
    refine ⟨y3, y4, ?_, b2⟩
    have rg : iRange1 (aCons (eVar 3) aNil) [x0, some (.int p.1), some (.int ((p.2 : Nat) : Int)), some (.int x), x4] S = .ok ((List.range x.toNat).map (fun k => D.int ((k : Nat) : Int)), yes) S := by
      have hr : ((-(2 ^ 62) : Int) ≤ x ∧ x < 2 ^ 62) = True := by simp; omega
      simp only [eVar, eC, eOp, eT, eAnd, eOr, eNot, eIf, eAndV, eOrV, eNotV, eCall, aNil, aCons, aStar, sOf, eTup, eFl, eLoc, eSl, oNone, oSome, iOf, eNeg, eChain, eMt, bOf, eDict0, eRev, eListRg, iZipD, sRaise1, sRaise0, eCallV, List.lookup, R.bind_ok, R.bind_er, R.bind_stuck, R.toS_ok, R.toS_er, R.toS_stuck, SR.next_nx, SR.next_rt, SR.next_er, SR.next_bk, SR.next_ct, SR.next_stuck, sNil, sSeq, sBrk, sCnt, sExp, sRet, sRetN, sIf, sSet, sAsg, sAug, sPar2, sPar3, tN, DL.tTup, DL.tNil, DL.tCons, DL.tSub, iSeq, srcOf_tup, srcOf_fl, srcOf_kl, srcOf_ti, iRange1, iRange2, sFor, startD, List.map_cons, List.map_nil, List.length_cons, List.length_nil, List.replicate, List.cons_append, List.nil_append, List.getElem?_cons_zero, List.getElem?_cons_succ, List.set_cons_zero, List.set_cons_succ, dSub_int, dFdiv_int, dMod_int, dLt_int, dLe_int, dGt_int, dGe_int, dAddI_int, dSubI_int, dIsN_non, isN, dAdd_int, ll0, ll1, ll2, ll3, ll4, ll5, ll6, ll7, ll8, ll9, ll10, ll11, ll12, ll13, ll14, ll15, ll16, ll17, ll18, ll19, ll20, ll21, ll22, ll23, ll24, ll25, ll26, ll27, ll28, ll29, ll30, ll31, ll32, ll33, ll34, ll35, ll36, ll37, ll38, ll39, ll40, Nat.reduceSub, Nat.reduceAdd, Nat.reduceEqDiff, if_true, if_false, ifp_t, ifp_f, reduceIte, Bool.true_eq_false, Bool.false_eq_true, Option.map_some, Option.map_none, Option.bind_some, Option.bind_none, hr]
      unfold rangeD
      simp only [Int.zero_add]
    have body : L2_count_rows [x0, some (.int p.1), some (.int ((p.2 : Nat) : Int)), some (.int x), x4] S = .nx [x0, some (.int (crI p x).1), some (.int (((crI p x).2 : Nat) : Int)), some (.int x), z4] S := by
      unfold L2_count_rows sFor
      rw [rg]
      exact e1
    rw [List.map_cons, forD_cons (ρ1 := [x0, some (.int p.1), some (.int ((p.2 : Nat) : Int)), some (.int x), x4]) (S1 := S) trivial rfl body, e2]
    rfl
theorem count_rows_ok {c : List Int} (cn : ∀ x ∈ c, 0 ≤ x) (cs : c.sum ≤ 14) (S : Sto) : F_count_rows [ti c] S = .ok (.int (crF c)) S := by
  have hst : startD 5 [ti c] = [some (ti c), none, none, none, none] := rfl
  obtain ⟨y3, y4, e, _⟩ := cr_outer (some (ti c)) S c (1, 0) none none cn ⟨by decide, by decide⟩ (by show (0 : Int) + c.sum ≤ 14; omega)
  have e' : forD yes (tN 3) L2_count_rows sNil (c.map D.int) [some (ti c), some (.int 1), some (.int 0), none, none] S = .nx [some (ti c), some (.int (crF c)), some (.int (((c.foldl crI (1, 0)).2 : Nat) : Int)), y3, y4] S := e
  have sr : ∀ S, srcOf (ti c) S = .ok (c.map D.int, yes) S := fun S => rfl
  refine fnC_rt rfl ?_ rfl
  rw [hst]
  have t2 : ∀ (a b : D) S, (ifp ([a, b].length ≤ sizeLine) (R.ok (D.tup [a, b]) S) .stuck : R D) = .ok (.tup [a, b]) S := fun a b S => ifp_pos (Nat.le_trans (show 2 ≤ 10 by omega) (by decide))
  unfold B_count_rows
  generalize hL : L2_count_rows = LL at *
  generalize ti c = TC at *
  generalize c.map D.int = CC at *
  simp only [eVar, eC, eOp, eT, eAnd, eOr, eNot, eIf, eAndV, eOrV, eNotV, eCall, aNil, aCons, aStar, sOf, eTup, eFl, eLoc, eSl, oNone, oSome, iOf, eNeg, eChain, eMt, bOf, eDict0, eRev, eListRg, iZipD, sRaise1, sRaise0, eCallV, List.lookup, R.bind_ok, R.bind_er, R.bind_stuck, R.toS_ok, R.toS_er, R.toS_stuck, SR.next_nx, SR.next_rt, SR.next_er, SR.next_bk, SR.next_ct, SR.next_stuck, sNil, sSeq, sBrk, sCnt, sExp, sRet, sRetN, sIf, sSet, sAsg, sAug, sPar2, sPar3, tN, DL.tTup, DL.tNil, DL.tCons, DL.tSub, iSeq, srcOf_tup, srcOf_fl, srcOf_kl, srcOf_ti, iRange1, iRange2, sFor, startD, List.map_cons, List.map_nil, List.length_cons, List.length_nil, List.replicate, List.cons_append, List.nil_append, List.getElem?_cons_zero, List.getElem?_cons_succ, List.set_cons_zero, List.set_cons_succ, dSub_int, dFdiv_int, dMod_int, dLt_int, dLe_int, dGt_int, dGe_int, dAddI_int, dSubI_int, dIsN_non, isN, dAdd_int, ll0, ll1, ll2, ll3, ll4, ll5, ll6, ll7, ll8, ll9, ll10, ll11, ll12, ll13, ll14, ll15, ll16, ll17, ll18, ll19, ll20, ll21, ll22, ll23, ll24, ll25, ll26, ll27, ll28, ll29, ll30, ll31, ll32, ll33, ll34, ll35, ll36, ll37, ll38, ll39, ll40, Nat.reduceSub, Nat.reduceAdd, Nat.reduceEqDiff, if_true, if_false, ifp_t, ifp_f, reduceIte, Bool.true_eq_false, Bool.false_eq_true, Option.map_some, Option.map_none, Option.bind_some, Option.bind_none, t2, sr, e']
theorem count_rows_le {c : List Int} (cn : ∀ x ∈ c, 0 ≤ x) (cs : c.sum ≤ 14) : 0 ≤ crF c ∧ crF c ≤ 16 ^ 15 := by
  obtain ⟨y3, y4, e, b⟩ := cr_outer none [] c (1, 0) none none cn ⟨by decide, by decide⟩ (by show (0 : Int) + c.sum ≤ 14; omega)
  exact b
theorem bal_sum : ∀ (c : List Int) (k : Nat), ((c.zipIdx k).map fun q => q.1 * (1 - ((q.2 : Nat) : Int))).sum = balC k c
  | [], k => rfl
  | x :: cs, k => by rw [List.zipIdx_cons, List.map_cons, List.sum_cons, bal_sum cs (k + 1), balC]
theorem balance_of_ok {c : List Int} (cl : c.length ≤ 100) (hc : ∀ x ∈ c, 0 ≤ x ∧ x ≤ 1000) (S : Sto) : F_balance_of [ti c] S = .ok (.int (balC 0 c)) S := by
  have hst : startD 3 [ti c] = [some (ti c), none, none] := rfl
  have sq : iEnumD (aCons (eVar 0) aNil) [some (ti c), none, none] S = .ok ((c.zipIdx 0).map (fun q => D.tup [.int (q.2 : Int), .int q.1]), yes) S := by
    have : iEnumD (aCons (eVar 0) aNil) [some (ti c), none, none] S = .ok (enumD 0 (c.map D.int), yes) S := rfl
    rw [this, enumD_ints]
  have key := eLc_pure (T := tTup 2 (tCons (tN 1) (tCons (tN 2) tNil))) (vs := [1, 2]) (c := cYes) (f := E1_balance_of) (ρ := [some (ti c), none, none]) (S := S) (src := iEnumD (aCons (eVar 0) aNil)) ((c.zipIdx 0).map (fun q => D.tup [.int (q.2 : Int), .int q.1])) (fun d => match d with
    | .tup [a, b] => [some (ti c), some a, some b]
    | _ => []) (fun _ => true) (fun d => match d with
    | .tup [.int a, .int b] => .int (b * (1 - a))
    | _ => .non) sq (by
      intro d hd S'
      obtain ⟨q, hq, rfl⟩ := List.mem_map.mp hd
      refine ⟨rfl, rfl, fun _ => ?_⟩
      have hm : q.1 ∈ c := (List.mem_zipIdx hq).2.2 ▸ List.getElem_mem _
      obtain ⟨m1, m2⟩ := hc q.1 hm
      have ml := mulT_int (i := q.1) (j := 1 - ((q.2 : Nat) : Int)) ⟨by omega, by omega⟩
      show E1_balance_of [some (ti c), some (.int (q.2 : Int)), some (.int q.1)] S' = _
      simp only [eVar, eC, eOp, eT, eAnd, eOr, eNot, eIf, eAndV, eOrV, eNotV, eCall, aNil, aCons, aStar, sOf, eTup, eFl, eLoc, eSl, oNone, oSome, iOf, eNeg, eChain, eMt, bOf, eDict0, eRev, eListRg, iZipD, sRaise1, sRaise0, eCallV, List.lookup, R.bind_ok, R.bind_er, R.bind_stuck, R.toS_ok, R.toS_er, R.toS_stuck, SR.next_nx, SR.next_rt, SR.next_er, SR.next_bk, SR.next_ct, SR.next_stuck, sNil, sSeq, sBrk, sCnt, sExp, sRet, sRetN, sIf, sSet, sAsg, sAug, sPar2, sPar3, tN, DL.tTup, DL.tNil, DL.tCons, DL.tSub, iSeq, srcOf_tup, srcOf_fl, srcOf_kl, srcOf_ti, iRange1, iRange2, sFor, startD, List.map_cons, List.map_nil, List.length_cons, List.length_nil, List.replicate, List.cons_append, List.nil_append, List.getElem?_cons_zero, List.getElem?_cons_succ, List.set_cons_zero, List.set_cons_succ, dSub_int, dFdiv_int, dMod_int, dLt_int, dLe_int, dGt_int, dGe_int, dAddI_int, dSubI_int, dIsN_non, isN, dAdd_int, ll0, ll1, ll2, ll3, ll4, ll5, ll6, ll7, ll8, ll9, ll10, ll11, ll12, ll13, ll14, ll15, ll16, ll17, ll18, ll19, ll20, ll21, ll22, ll23, ll24, ll25, ll26, ll27, ll28, ll29, ll30, ll31, ll32, ll33, ll34, ll35, ll36, ll37, ll38, ll39, ll40, Nat.reduceSub, Nat.reduceAdd, Nat.reduceEqDiff, if_true, if_false, ifp_t, ifp_f, reduceIte, Bool.true_eq_false, Bool.false_eq_true, Option.map_some, Option.map_none, Option.bind_some, Option.bind_none, E1_balance_of, dSub_int, ml]) (by rw [List.length_map, List.length_zipIdx]; exact Nat.le_trans cl (by decide)) (by
      intro d hd _
      obtain ⟨q, hq, rfl⟩ := List.mem_map.mp hd
      rfl)
  rw [List.filter_eq_self.mpr (fun _ _ => rfl), List.map_map] at key
  have e : (c.zipIdx 0).map ((fun d => match d with
    | D.tup [.int a, .int b] => D.int (b * (1 - a))
    | _ => .non) ∘ fun q => D.tup [.int (q.2 : Int), .int q.1]) = ((c.zipIdx 0).map fun q => q.1 * (1 - ((q.2 : Nat) : Int))).map D.int := by
    rw [List.map_map]
    rfl
  rw [e] at key
  have bs := sum_fli ((c.zipIdx 0).map fun q => q.1 * (1 - ((q.2 : Nat) : Int)))
  rw [bal_sum] at bs
  refine fnC_rt rfl ?_ rfl
  rw [hst]
  unfold B_balance_of
  generalize eLc finFl (iEnumD (aCons (eVar 0) aNil)) (tTup 2 (tCons (tN 1) (tCons (tN 2) tNil))) [1, 2] cYes E1_balance_of = LC at key ⊢
  generalize D.fl (((c.zipIdx 0).map fun q => q.1 * (1 - ((q.2 : Nat) : Int))).map D.int) = FL at *
  generalize ti c = TC at *
  simp only [eVar, eC, eOp, eT, eAnd, eOr, eNot, eIf, eAndV, eOrV, eNotV, eCall, aNil, aCons, aStar, sOf, eTup, eFl, eLoc, eSl, oNone, oSome, iOf, eNeg, eChain, eMt, bOf, eDict0, eRev, eListRg, iZipD, sRaise1, sRaise0, eCallV, List.lookup, R.bind_ok, R.bind_er, R.bind_stuck, R.toS_ok, R.toS_er, R.toS_stuck, SR.next_nx, SR.next_rt, SR.next_er, SR.next_bk, SR.next_ct, SR.next_stuck, sNil, sSeq, sBrk, sCnt, sExp, sRet, sRetN, sIf, sSet, sAsg, sAug, sPar2, sPar3, tN, DL.tTup, DL.tNil, DL.tCons, DL.tSub, iSeq, srcOf_tup, srcOf_fl, srcOf_kl, srcOf_ti, iRange1, iRange2, sFor, startD, List.map_cons, List.map_nil, List.length_cons, List.length_nil, List.replicate, List.cons_append, List.nil_append, List.getElem?_cons_zero, List.getElem?_cons_succ, List.set_cons_zero, List.set_cons_succ, dSub_int, dFdiv_int, dMod_int, dLt_int, dLe_int, dGt_int, dGe_int, dAddI_int, dSubI_int, dIsN_non, isN, dAdd_int, ll0, ll1, ll2, ll3, ll4, ll5, ll6, ll7, ll8, ll9, ll10, ll11, ll12, ll13, ll14, ll15, ll16, ll17, ll18, ll19, ll20, ll21, ll22, ll23, ll24, ll25, ll26, ll27, ll28, ll29, ll30, ll31, ll32, ll33, ll34, ll35, ll36, ll37, ll38, ll39, ll40, Nat.reduceSub, Nat.reduceAdd, Nat.reduceEqDiff, if_true, if_false, ifp_t, ifp_f, reduceIte, Bool.true_eq_false, Bool.false_eq_true, Option.map_some, Option.map_none, Option.bind_some, Option.bind_none, key, bs]
end DL
namespace DL
open PySem PySem.Spec L2
open PyProof.Rows hiding St
def fct : Nat → Int
  | 0 => 1
  | n + 1 => ((n + 1 : Nat) : Int) * fct n
theorem fct_pos : ∀ n, 0 < fct n
  | 0 => by decide
  | n + 1 => Int.mul_pos (by omega) (fct_pos n)
def chs : Nat → Nat → Int
  | _, 0 => 1
  | 0, _ + 1 => 0
  | n + 1, k + 1 => chs n k + chs n (k + 1)
theorem chs_succ : ∀ n k, chs (n + 1) (k + 1) * ((k + 1 : Nat) : Int) = chs n k * ((n + 1 : Nat) : Int)
  | 0, 0 => rfl
  | 0, k + 1 => by simp [chs]
  | n + 1, 0 => by
    have h := chs_succ n 0
    have e : chs (n + 1 + 1) (0 + 1) = chs (n + 1) 0 + chs (n + 1) (0 + 1) := rfl
    have e0 : ∀ m, chs m 0 = 1 := fun m => by cases m <;> rfl
    rw [e0] at h e
    rw [e, e0]
    omega
  | n + 1, k + 1 => by
    have h1 := chs_succ n k
    have h2 := chs_succ n (k + 1)
    have e : chs (n + 1 + 1) (k + 1 + 1) = chs (n + 1) (k + 1) + chs (n + 1) (k + 1 + 1) := rfl
    have e2 : chs (n + 1) (k + 1) = chs n k + chs n (k + 1) := rfl
    have c1 : ((k + 1 + 1 : Nat) : Int) = ((k + 1 : Nat) : Int) + 1 := by omega
    have c2 : ((n + 1 + 1 : Nat) : Int) = ((n + 1 : Nat) : Int) + 1 := by omega
    rw [c1] at h2
    rw [c1, c2, e]
    generalize ((k + 1 : Nat) : Int) = K at *
    generalize ((n + 1 : Nat) : Int) = N at *
    grind
theorem chs_fct (s : Nat) : ∀ k, chs (s + k) k * (fct k * fct s) = fct (s + k)
  | 0 => by
    have e0 : ∀ m, chs m 0 = 1 := fun m => by cases m <;> rfl
    simp [e0, fct]
  | k + 1 => by
    have h := chs_fct s k
    have h2 := chs_succ (s + k) k
    rw [show s + (k + 1) = (s + k) + 1 from rfl, fct, fct]
    generalize ((k + 1 : Nat) : Int) = K at *
    generalize ((s + k + 1 : Nat) : Int) = N at *
    grind
theorem crS_fold (f : Int) (s : Nat) : ∀ k, (List.range k).foldl crS (f, s) = (f * chs (s + k) k, s + k)
  | 0 => by
    have e0 : ∀ m, chs m 0 = 1 := fun m => by cases m <;> rfl
    rw [e0]; simp
  | k + 1 => by
    rw [List.range_succ, List.foldl_append, crS_fold f s k]
    show ((f * chs (s + k) k) * ((s + k + 1 : Nat) : Int) / ((k + 1 : Nat) : Int), s + k + 1) = _
    have h := chs_succ (s + k) k
    rw [Int.mul_assoc, ← h, ← Int.mul_assoc, Int.mul_ediv_cancel _ (by omega)]
    rfl
def pfc : List Int → Int
  | [] => 1
  | x :: cs => fct x.toNat * pfc cs
theorem pfc_pos : ∀ c, 0 < pfc c
  | [] => by decide
  | x :: cs => Int.mul_pos (fct_pos _) (pfc_pos cs)
theorem crF_go : ∀ (cs : List Int) (f : Int) (s : Nat), (∀ x ∈ cs, 0 ≤ x) → (cs.foldl crI (f, s)).1 * pfc cs * fct s = f * fct (s + cs.sum.toNat)
  | [], f, s, _ => by simp [pfc]
  | x :: cs, f, s, h => by
    have x0 := h x List.mem_cons_self
    have h' : ∀ z ∈ cs, 0 ≤ z := fun z hz => h z (List.mem_cons_of_mem _ hz)
    have nn := sum_nn0 h'
    have e1 : crI (f, s) x = (f * chs (s + x.toNat) x.toNat, s + x.toNat) := crS_fold f s x.toNat
    have ih := crF_go cs (f * chs (s + x.toNat) x.toNat) (s + x.toNat) h'
    have c := chs_fct s x.toNat
    have e2 : s + (x :: cs).sum.toNat = s + x.toNat + cs.sum.toNat := by rw [List.sum_cons]; omega
    rw [List.foldl_cons, e1, pfc, e2]
    have p1 := fct_pos (s + x.toNat)
    have hne : chs (s + x.toNat) x.toNat ≠ 0 := fun z => by rw [z, Int.zero_mul] at c; omega
    generalize (cs.foldl crI (f * chs (s + x.toNat) x.toNat, s + x.toNat)).1 = R at *
    refine Int.eq_of_mul_eq_mul_left hne ?_
    generalize chs (s + x.toNat) x.toNat = C at *
    generalize fct (s + x.toNat + cs.sum.toNat) = G at *
    generalize fct (s + x.toNat) = F at *
    generalize fct x.toNat = A at *
    generalize fct s = B at *
    generalize pfc cs = P at *
    grind
theorem crF_fct {c : List Int} (h : ∀ x ∈ c, 0 ≤ x) : crF c * pfc c = fct c.sum.toNat := by
  have := crF_go c 1 0 h
  rw [show fct 0 = 1 from rfl, Int.mul_one, Int.one_mul, Nat.zero_add] at this
  exact this
theorem pfc_decr : ∀ {c : List Int} {a : Nat}, 0 < c.getD a 0 → pfc c = c.getD a 0 * pfc (decr c a)
  | [], a, h => by simp at h
  | x :: cs, 0, h => by
    have h0 : 0 < x := by simpa using h
    obtain ⟨k, hk⟩ : ∃ k : Nat, x = ((k + 1 : Nat) : Int) := ⟨(x - 1).toNat, by omega⟩
    subst hk
    rw [decr_cons_zero, pfc, pfc, List.getD_cons_zero]
    have e1 : ((k + 1 : Nat) : Int).toNat = k + 1 := by omega
    have e2 : (((k + 1 : Nat) : Int) - 1).toNat = k := by omega
    rw [e1, e2, fct, Int.mul_assoc]
  | x :: cs, a + 1, h => by
    have ih := pfc_decr (c := cs) (a := a) (by simpa using h)
    rw [decr_cons_succ, pfc, pfc, List.getD_cons_succ]
    generalize cs.getD a 0 = z at *
    generalize fct x.toNat = A at *
    grind
theorem crF_decr {c : List Int} {a : Nat} (hl : a < c.length) (cn : ∀ x ∈ c, 0 ≤ x) (ha : 0 < c.getD a 0) : c.sum * crF (decr c a) = crF c * c.getD a 0 := by
  have h1 := crF_fct cn
  have h2 := crF_fct (decr_nn cn ha)
  have h3 := pfc_decr ha
  have h4 := decr_sum hl
  have nn := sum_nn0 (decr_nn cn ha)
  obtain ⟨k, hk⟩ : ∃ k : Nat, c.sum = ((k + 1 : Nat) : Int) := ⟨(c.sum - 1).toNat, by omega⟩
  have e1 : c.sum.toNat = k + 1 := by omega
  have e2 : (decr c a).sum.toNat = k := by omega
  rw [e1, fct, ← hk] at h1
  rw [e2] at h2
  have p := pfc_pos (decr c a)
  refine Int.eq_of_mul_eq_mul_right (a := pfc (decr c a)) (by omega) ?_
  generalize crF (decr c a) = R at *
  generalize pfc (decr c a) = P at *
  generalize crF c = R1 at *
  generalize pfc c = P1 at *
  generalize c.getD a 0 = z at *
  generalize c.sum = s at *
  generalize fct k = F at *
  grind
def S6 (f : Nat → Int) : Int := f 0 + (f 1 + (f 2 + (f 3 + (f 4 + f 5))))
theorem S6_congr {f g : Nat → Int} (h : ∀ a, a < 6 → f a = g a) : S6 f = S6 g := by
  unfold S6
  rw [h 0 (by decide), h 1 (by decide), h 2 (by decide), h 3 (by decide), h 4 (by decide), h 5 (by decide)]
theorem S6_swap (f : Nat → Nat → Int) : (S6 fun a => S6 fun b => f a b) = S6 fun b => S6 fun a => f a b := by
  simp only [S6]; omega
theorem S6_ite {p : Prop} [Decidable p] (f : Nat → Int) : (if p then S6 f else 0) = S6 fun a => if p then f a else 0 := by
  by_cases h : p
  · simp only [if_pos h]
  · simp only [if_neg h]; rfl
def wI (n : Nat) (h : Int) (c : List Int) : Int := ((wys n h c : Nat) : Int)
theorem six {c : List Int} (h : c.length = 6) : ∃ x0 x1 x2 x3 x4 x5, c = [x0, x1, x2, x3, x4, x5] := by
  match c, h with
  | [x0, x1, x2, x3, x4, x5], _ => exact ⟨_, _, _, _, _, _, rfl⟩
theorem ite_sum {p : Prop} [Decidable p] (F : Nat → Nat) (k : Nat) : (((((if p then [k] else []) : List Nat).map F).sum : Nat) : Int) = if p then ((F k : Nat) : Int) else 0 := by
  by_cases h : p
  · simp [h]
  · simp [h]
theorem first_tok {n : Nat} {h : Int} {c : List Int} (c6 : c.length = 6) : wI (n + 1) h c = S6 fun a => if 0 < c.getD a 0 ∧ ((a : Nat) : Int) ≤ h then wI n (h + 1 - ((a : Nat) : Int)) (decr c a) else 0 := by
  unfold wI
  rw [wys_succ]
  obtain ⟨x0, x1, x2, x3, x4, x5, rfl⟩ := six c6
  generalize hF : (fun a : Nat => wys n (h + 1 - ((a : Nat) : Int)) (decr [x0, x1, x2, x3, x4, x5] a)) = F
  have hF' : ∀ a : Nat, wys n (h + 1 - ((a : Nat) : Int)) (decr [x0, x1, x2, x3, x4, x5] a) = F a := fun a => by rw [← hF]
  simp only [hF']
  simp only [nxA, List.map_append, List.sum_append, Int.natCast_add, ite_sum, S6]
  simp
theorem decr_get : ∀ {c : List Int} {a b : Nat}, a < c.length → (decr c a).getD b 0 = if a = b then c.getD b 0 - 1 else c.getD b 0
  | x :: cs, 0, 0, _ => by rw [decr_cons_zero]; simp
  | x :: cs, 0, b + 1, _ => by rw [decr_cons_zero]; simp
  | x :: cs, a + 1, 0, _ => by rw [decr_cons_succ]; simp
  | x :: cs, a + 1, b + 1, h => by
    rw [decr_cons_succ, List.getD_cons_succ, List.getD_cons_succ, decr_get (by simpa using h)]
    simp
theorem decr_comm : ∀ {c : List Int} {a b : Nat}, a < c.length → b < c.length → decr (decr c a) b = decr (decr c b) a
  | x :: cs, 0, 0, _, _ => rfl
  | x :: cs, 0, b + 1, _, _ => by rw [decr_cons_zero, decr_cons_succ, decr_cons_succ, decr_cons_zero]
  | x :: cs, a + 1, 0, _, _ => by rw [decr_cons_zero, decr_cons_succ, decr_cons_succ, decr_cons_zero]
  | x :: cs, a + 1, b + 1, h, g => by rw [decr_cons_succ, decr_cons_succ, decr_cons_succ, decr_cons_succ, decr_comm (by simpa using h) (by simpa using g)]
theorem bal_zero : ∀ {c : List Int} (k : Nat), (∀ x ∈ c, 0 ≤ x) → c.sum = 0 → balC k c = 0
  | [], k, _, _ => rfl
  | x :: cs, k, h, hs => by
    have x0 := h x List.mem_cons_self
    have nn := sum_nn0 (l := cs) fun z hz => h z (List.mem_cons_of_mem _ hz)
    rw [List.sum_cons] at hs
    have e : x = 0 := by omega
    rw [balC, bal_zero (k + 1) (fun z hz => h z (List.mem_cons_of_mem _ hz)) (by omega), e]
    simp
theorem last_tok : ∀ (n : Nat) (h : Int) (c : List Int), c.length = 6 → (∀ x ∈ c, 0 ≤ x) → c.sum = ((n + 1 : Nat) : Int) → wI (n + 1) h c = S6 fun a => if 0 < c.getD a 0 ∧ 1 ≤ h + balC 0 c then wI n h (decr c a) else 0
  | 0, h, c, c6, cn, cs => by
    rw [first_tok c6]
    refine S6_congr fun a ha => ?_
    have w0 : ∀ h c, wI 0 h c = 1 := fun h c => rfl
    rw [w0, w0]
    by_cases hp : 0 < c.getD a 0
    · have e1 := decr_bal (c := c) (a := a) 0 (by omega)
      have e2 := bal_zero 0 (decr_nn cn hp) (by rw [decr_sum (by omega), cs]; rfl)
      rw [Nat.zero_add] at e1
      have e3 : (0 < c.getD a 0 ∧ ((a : Nat) : Int) ≤ h) = (0 < c.getD a 0 ∧ 1 ≤ h + balC 0 c) := by
        apply propext
        constructor <;> (intro z; exact ⟨hp, by omega⟩)
      simp only [e3]
    · rw [if_neg fun z => hp z.1, if_neg fun z => hp z.1]
  | n + 1, h, c, c6, cn, cs => by
    have e1 : wI (n + 1 + 1) h c = S6 fun b => S6 fun a => if (0 < c.getD b 0 ∧ ((b : Nat) : Int) ≤ h) ∧ (0 < (decr c b).getD a 0 ∧ 1 ≤ h + balC 0 c) then wI n (h + 1 - ((b : Nat) : Int)) (decr (decr c b) a) else 0 := by
      rw [first_tok c6]
      refine S6_congr fun b hb => ?_
      by_cases hp : 0 < c.getD b 0 ∧ ((b : Nat) : Int) ≤ h
      · have db := decr_bal (c := c) (a := b) 0 (by omega)
        rw [Nat.zero_add] at db
        have eb : h + 1 - ((b : Nat) : Int) + balC 0 (decr c b) = h + balC 0 c := by omega
        rw [if_pos hp, last_tok n (h + 1 - ((b : Nat) : Int)) (decr c b) (by rw [decr_len (by omega)]; exact c6) (decr_nn cn hp.1) (by rw [decr_sum (by omega), cs]; omega), eb]
        refine S6_congr fun a _ => ?_
        simp only [hp, true_and, and_self]
      · rw [if_neg hp]
        have : (S6 fun a => if (0 < c.getD b 0 ∧ ((b : Nat) : Int) ≤ h) ∧ (0 < (decr c b).getD a 0 ∧ 1 ≤ h + balC 0 c) then wI n (h + 1 - ((b : Nat) : Int)) (decr (decr c b) a) else 0) = S6 fun _ => 0 := S6_congr fun a _ => if_neg fun z => hp z.1
        rw [this]; rfl
    have e2 : (S6 fun a => if 0 < c.getD a 0 ∧ 1 ≤ h + balC 0 c then wI (n + 1) h (decr c a) else 0) = S6 fun a => S6 fun b => if (0 < c.getD a 0 ∧ 1 ≤ h + balC 0 c) ∧ (0 < (decr c a).getD b 0 ∧ ((b : Nat) : Int) ≤ h) then wI n (h + 1 - ((b : Nat) : Int)) (decr (decr c a) b) else 0 := by
      refine S6_congr fun a ha => ?_
      rw [first_tok (by rw [decr_len (by omega)]; exact c6), S6_ite]
      refine S6_congr fun b _ => ?_
      by_cases hp : 0 < c.getD a 0 ∧ 1 ≤ h + balC 0 c
      · simp only [hp, true_and, and_self, if_true]
      · rw [if_neg hp, if_neg fun z => hp z.1]
    rw [e1, e2, S6_swap]
    refine S6_congr fun a ha => S6_congr fun b hb => ?_
    rw [decr_comm (show b < c.length by omega) (show a < c.length by omega)]
    have e3 : ((0 < c.getD b 0 ∧ ((b : Nat) : Int) ≤ h) ∧ (0 < (decr c b).getD a 0 ∧ 1 ≤ h + balC 0 c)) = ((0 < c.getD a 0 ∧ 1 ≤ h + balC 0 c) ∧ (0 < (decr c a).getD b 0 ∧ ((b : Nat) : Int) ≤ h)) := by
      rw [decr_get (by omega), decr_get (by omega)]
      by_cases hab : a = b
      · subst hab
        apply propext
        constructor <;> (rintro ⟨⟨q1, q2⟩, q3, q4⟩; exact ⟨⟨q1, q4⟩, q3, q2⟩)
      · rw [if_neg (fun z => hab z.symm), if_neg hab]
        apply propext
        constructor <;> (rintro ⟨⟨q1, q2⟩, q3, q4⟩; exact ⟨⟨q3, q4⟩, q1, q2⟩)
    simp only [e3]
theorem cyc_alg {N F B x0 x1 x2 x3 x4 x5 W0 W1 W2 W3 W4 W5 : Int} (hB : B = x0 - x2 - 2 * x3 - 3 * x4 - 4 * x5) (hN : N = x0 + (x1 + (x2 + (x3 + (x4 + x5)))) - 1)
    (k0 : N * ((N + 1) * W0) = F * (x0 * (B - 1))) (k1 : N * ((N + 1) * W1) = F * (x1 * (B - 1 + 1))) (k2 : N * ((N + 1) * W2) = F * (x2 * (B - 1 + 2))) (k3 : N * ((N + 1) * W3) = F * (x3 * (B - 1 + 3))) (k4 : N * ((N + 1) * W4) = F * (x4 * (B - 1 + 4))) (k5 : N * ((N + 1) * W5) = F * (x5 * (B - 1 + 5))) :
    N * ((N + 1) * (W0 + (W1 + (W2 + (W3 + (W4 + W5)))))) = N * (F * B) := by
  have e : x0 * (B - 1) + (x1 * (B - 1 + 1) + (x2 * (B - 1 + 2) + (x3 * (B - 1 + 3) + (x4 * (B - 1 + 4) + x5 * (B - 1 + 5))))) = B * N := by
    clear k0 k1 k2 k3 k4 k5
    subst hB hN
    grind
  have e2 : N * ((N + 1) * (W0 + (W1 + (W2 + (W3 + (W4 + W5)))))) = F * (B * N) := by
    rw [← e]
    simp only [Int.mul_add] at k0 k1 k2 k3 k4 k5 ⊢
    omega
  rw [e2, Int.mul_comm B N, ← Int.mul_assoc, Int.mul_comm F N, Int.mul_assoc]
theorem cyc : ∀ (n : Nat) (c : List Int), c.length = 6 → (∀ x ∈ c, 0 ≤ x) → c.sum = ((n + 1 : Nat) : Int) → ((n + 1 : Nat) : Int) * wI (n + 1) 0 c = crF c * max 0 (balC 0 c)
  | n, c, c6, cn, cs => by
    have lt := last_tok n 0 c c6 cn cs
    by_cases hb : balC 0 c ≤ 0
    · have : (S6 fun a => if 0 < c.getD a 0 ∧ 1 ≤ 0 + balC 0 c then wI n 0 (decr c a) else 0) = S6 fun _ => 0 := S6_congr fun a _ => if_neg fun z => by omega
      rw [lt, this, show max 0 (balC 0 c) = 0 by omega, Int.mul_zero]
      simp [S6]
    · rw [show max 0 (balC 0 c) = balC 0 c by omega]
      match n, lt, cs with
      | 0, lt, cs =>
        obtain ⟨x0, x1, x2, x3, x4, x5, rfl⟩ := six c6
        have z0 := cn x0 (by simp)
        have z1 := cn x1 (by simp)
        have z2 := cn x2 (by simp)
        have z3 := cn x3 (by simp)
        have z4 := cn x4 (by simp)
        have z5 := cn x5 (by simp)
        simp only [balC] at hb
        simp at cs hb
        have e0 : x0 = 1 := by omega
        have e1 : x1 = 0 := by omega
        have e2 : x2 = 0 := by omega
        have e3 : x3 = 0 := by omega
        have e4 : x4 = 0 := by omega
        have e5 : x5 = 0 := by omega
        subst e0 e1 e2 e3 e4 e5
        decide
      | n + 1, lt, cs =>
        generalize hW : (fun a : Nat => if 0 < c.getD a 0 ∧ 1 ≤ 0 + balC 0 c then wI (n + 1) 0 (decr c a) else 0) = W at lt
        have hWa : ∀ a, W a = if 0 < c.getD a 0 ∧ 1 ≤ 0 + balC 0 c then wI (n + 1) 0 (decr c a) else 0 := fun a => by rw [← hW]
        have key : ∀ a, a < 6 → ((n + 1 : Nat) : Int) * (((n + 1 + 1 : Nat) : Int) * W a) = crF c * (c.getD a 0 * (balC 0 c - 1 + ((a : Nat) : Int))) := fun a ha => by
          rw [hWa]
          by_cases hp : 0 < c.getD a 0
          · have ih := cyc n (decr c a) (by rw [decr_len (by omega)]; exact c6) (decr_nn cn hp) (by rw [decr_sum (by omega), cs]; omega)
            have db := decr_bal (c := c) (a := a) 0 (by omega)
            rw [Nat.zero_add] at db
            rw [show max 0 (balC 0 (decr c a)) = balC 0 c - 1 + ((a : Nat) : Int) by omega] at ih
            have cd := crF_decr (c := c) (a := a) (by omega) cn hp
            rw [cs] at cd
            rw [if_pos ⟨hp, by omega⟩]
            generalize wI (n + 1) 0 (decr c a) = W at *
            generalize crF (decr c a) = R at *
            generalize c.getD a 0 = z at *
            generalize balC 0 c - 1 + ((a : Nat) : Int) = B at *
            generalize crF c = F at *
            generalize ((n + 1 : Nat) : Int) = N at *
            generalize ((n + 1 + 1 : Nat) : Int) = M at *
            clear hW hWa lt db cs hb
            grind
          · have nn : 0 ≤ c.getD a 0 := by
              rw [List.getD_eq_getElem?_getD, List.getElem?_eq_getElem (by omega)]
              exact cn _ (List.getElem_mem _)
            rw [if_neg (fun z => hp z.1), show c.getD a 0 = 0 by omega]
            simp
        rw [lt]
        refine Int.eq_of_mul_eq_mul_left (a := ((n + 1 : Nat) : Int)) (by omega) ?_
        have k0 := key 0 (by decide)
        have k1 := key 1 (by decide)
        have k2 := key 2 (by decide)
        have k3 := key 3 (by decide)
        have k4 := key 4 (by decide)
        have k5 := key 5 (by decide)
        simp only [S6]
        clear hW hWa lt key
        generalize W 0 = W0 at *
        generalize W 1 = W1 at *
        generalize W 2 = W2 at *
        generalize W 3 = W3 at *
        generalize W 4 = W4 at *
        generalize W 5 = W5 at *
        generalize crF c = F at *
        obtain ⟨x0, x1, x2, x3, x4, x5, rfl⟩ := six c6
        have eb : balC 0 [x0, x1, x2, x3, x4, x5] = x0 - x2 - 2 * x3 - 3 * x4 - 4 * x5 := by
          simp [balC]; omega
        have es : [x0, x1, x2, x3, x4, x5].sum = x0 + (x1 + (x2 + (x3 + (x4 + x5)))) := by simp
        rw [es] at cs
        rw [eb] at k0 k1 k2 k3 k4 k5 ⊢
        have cM : ((n + 1 + 1 : Nat) : Int) = ((n + 1 : Nat) : Int) + 1 := by omega
        rw [cM] at k0 k1 k2 k3 k4 k5 cs ⊢
        generalize ((n + 1 : Nat) : Int) = N at *
        have hN : N = x0 + (x1 + (x2 + (x3 + (x4 + x5)))) - 1 := by omega
        exact cyc_alg rfl hN (by simpa using k0) (by simpa using k1) (by simpa using k2) (by simpa using k3) (by simpa using k4) (by simpa using k5)
theorem counted_all {n : Nat} {c : List Int} (c6 : c.length = 6) (cn : ∀ x ∈ c, 0 ≤ x) (cs : c.sum = ((n : Nat) : Int)) (n0 : 0 < n) : crF c * max 0 (balC 0 c) / c.sum = (((cmpl n 0 c).length : Nat) : Int) := by
  obtain ⟨k, rfl⟩ : ∃ k, n = k + 1 := ⟨n - 1, by omega⟩
  rw [← cyc k c c6 cn cs, cs]
  rw [Int.mul_ediv_cancel_left _ (by omega)]
  rfl
end DL
namespace DL
open PySem PySem.Spec L2
open PyProof.Rows hiding St
theorem mem_le_sum : ∀ {l : List Int} {x : Int}, (∀ y ∈ l, 0 ≤ y) → x ∈ l → x ≤ l.sum
  | [], x, _, h => by cases h
  | y :: l, x, hn, h => by
    rw [List.sum_cons]
    have nn := sum_nn0 (l := l) fun z hz => hn z (List.mem_cons_of_mem _ hz)
    have y0 := hn y List.mem_cons_self
    rcases List.mem_cons.mp h with rfl | h
    · omega
    · have := mem_le_sum (fun z hz => hn z (List.mem_cons_of_mem _ hz)) h
      omega
theorem bal_le : ∀ (c : List Int) (k : Nat), (∀ x ∈ c, 0 ≤ x) → balC k c ≤ c.sum
  | [], k, _ => Int.le_refl _
  | x :: cs, k, h => by
    have ih := bal_le cs (k + 1) fun z hz => h z (List.mem_cons_of_mem _ hz)
    have x0 := h x List.mem_cons_self
    have : x * (1 - ((k : Nat) : Int)) ≤ x * 1 := Int.mul_le_mul_of_nonneg_left (by omega) x0
    rw [balC, List.sum_cons]
    omega
end DL
namespace DL
open PySem PySem.Spec L2
open PyProof.Rows hiding St
end DL
namespace DL
open PySem PySem.Spec L2
open PyProof.Rows hiding St
abbrev En := List (List Int × Int)
def enc (es : En) : List (List Key × D) := es.map fun e => (keyC e.1, .int e.2)
def addE (c : List Int) (x : Int) : En → En
  | [] => [(c, x)]
  | e :: es => if e.1 = c then (e.1, e.2 + x) :: es else e :: addE c x es
def lookE (es : En) (c : List Int) : Int := match es.find? fun e => decide (e.1 = c) with
  | some e => e.2
  | none => 0
theorem look_enc : ∀ (es : En) (c : List Int), ((lookT (enc es) (keyC c)).getD (.int 0)) = .int (lookE es c)
  | [], c => rfl
  | e :: es, c => by
    by_cases h : e.1 = c
    · have h' : keyC e.1 = keyC c := by rw [h]
      simp [enc, lookT, lookE, List.find?_cons, h, h']
    · have h' : ¬ keyC e.1 = keyC c := fun z => h (keyC_inj z)
      have ih := look_enc es c
      have e1 : lookT (enc (e :: es)) (keyC c) = lookT (enc es) (keyC c) := by simp [enc, lookT, List.find?_cons, h']
      have e2 : lookE (e :: es) c = lookE es c := by simp [lookE, List.find?_cons, h]
      rw [e1, e2, ih]
theorem look_in : ∀ {es : En} {c : List Int} {v : Int}, (es.map (·.1)).Nodup → (c, v) ∈ es → lookT (enc es) (keyC c) = some (.int v)
  | e :: es, c, v, hn, hm => by
    rw [List.map_cons] at hn
    obtain ⟨n1, n2⟩ := List.nodup_cons.mp hn
    rcases List.mem_cons.mp hm with rfl | hm
    · simp [enc, lookT, List.find?_cons]
    · have hne : ¬ e.1 = c := fun z => n1 (List.mem_map.mpr ⟨(c, v), hm, z.symm⟩)
      have h' : ¬ keyC e.1 = keyC c := fun z => hne (keyC_inj z)
      have e1 : lookT (enc (e :: es)) (keyC c) = lookT (enc es) (keyC c) := by simp [enc, lookT, List.find?_cons, h']
      rw [e1]
      exact look_in n2 hm
theorem put_enc : ∀ {es : En} {c : List Int} (x : Int), (es.map (·.1)).Nodup → putTD (enc es) (keyC c) (.int (lookE es c + x)) = enc (addE c x es)
  | [], c, x, _ => by
    show [(keyC c, D.int (0 + x))] = [(keyC c, D.int x)]
    rw [Int.zero_add]
  | e :: es, c, x, hn => by
    rw [List.map_cons] at hn
    obtain ⟨n1, n2⟩ := List.nodup_cons.mp hn
    have e0 : enc (e :: es) = (keyC e.1, .int e.2) :: enc es := rfl
    by_cases h : e.1 = c
    · have hl : lookE (e :: es) c = e.2 := by simp [lookE, List.find?_cons, h]
      have ha : addE c x (e :: es) = (e.1, e.2 + x) :: es := by rw [addE, if_pos h]
      have hk : keyC e.1 = keyC c := by rw [h]
      have nm : ∀ kv ∈ enc es, ¬ kv.1 = keyC c := fun kv hkv z => by
        obtain ⟨e', he', rfl⟩ := List.mem_map.mp hkv
        exact n1 (List.mem_map.mpr ⟨e', he', (keyC_inj z).trans h.symm⟩)
      unfold putTD
      rw [hl, ha, e0, if_pos (by rw [List.any_cons]; simp [hk])]
      rw [List.map_cons, if_pos hk]
      have : (enc es).map (fun kv => if kv.1 = keyC c then (kv.1, D.int (e.2 + x)) else kv) = enc es := by
        conv => rhs; rw [← List.map_id (enc es)]
        refine List.map_congr_left fun kv hkv => ?_
        rw [if_neg (nm kv hkv)]; rfl
      rw [this]
      rfl
    · have hl : lookE (e :: es) c = lookE es c := by simp [lookE, List.find?_cons, h]
      have ha : addE c x (e :: es) = e :: addE c x es := by rw [addE, if_neg h]
      have hk : ¬ keyC e.1 = keyC c := fun z => h (keyC_inj z)
      have ih := put_enc (es := es) (c := c) x n2
      rw [hl, ha]
      have e1 : enc (e :: addE c x es) = (keyC e.1, .int e.2) :: enc (addE c x es) := rfl
      rw [e1, ← ih]
      unfold putTD
      rw [e0, List.any_cons]
      have hd : decide ((keyC e.1, D.int e.2).1 = keyC c) = false := decide_eq_false hk
      rw [hd, Bool.false_or]
      split
      · rw [List.map_cons, if_neg hk]
      · rw [List.cons_append]
theorem addE_keys (c : List Int) (x : Int) : ∀ (es : En) (k : List Int), k ∈ (addE c x es).map (·.1) ↔ k = c ∨ k ∈ es.map (·.1)
  | [], k => by simp [addE]
  | e :: es, k => by
    unfold addE
    by_cases h : e.1 = c
    · rw [if_pos h]; simp only [List.map_cons, List.mem_cons]
      constructor
      · rintro (z | z)
        · exact .inr (.inl z)
        · exact .inr (.inr z)
      · rintro (z | z | z)
        · exact .inl (z.trans h.symm)
        · exact .inl z
        · exact .inr z
    · rw [if_neg h]; simp only [List.map_cons, List.mem_cons, addE_keys c x es k]
      constructor
      · rintro (z | z | z)
        · exact .inr (.inl z)
        · exact .inl z
        · exact .inr (.inr z)
      · rintro (z | z | z)
        · exact .inr (.inl z)
        · exact .inl z
        · exact .inr (.inr z)
theorem addE_nodup (c : List Int) (x : Int) : ∀ {es : En}, (es.map (·.1)).Nodup → ((addE c x es).map (·.1)).Nodup
  | [], _ => by simp [addE]
  | e :: es, hn => by
    have hn' := hn
    rw [List.map_cons] at hn
    obtain ⟨n1, n2⟩ := List.nodup_cons.mp hn
    unfold addE
    by_cases h : e.1 = c
    · rw [if_pos h]; exact hn'
    · rw [if_neg h, List.map_cons]
      refine List.nodup_cons.mpr ⟨fun z => ?_, addE_nodup c x n2⟩
      rcases (addE_keys c x es e.1).mp z with z | z
      · exact h z
      · exact n1 z
/-- the numbers of ways, each times what follows -/
def phi (W : List Int → Int) (es : En) : Int := (es.map fun e => e.2 * W e.1).sum
theorem phi_add (W : List Int → Int) (c : List Int) (x : Int) : ∀ es : En, phi W (addE c x es) = phi W es + x * W c
  | [] => by simp [phi, addE]
  | e :: es => by
    have ih := phi_add W c x es
    unfold phi at ih ⊢
    unfold addE
    by_cases h : e.1 = c
    · rw [if_pos h, List.map_cons, List.map_cons, List.sum_cons, List.sum_cons, h]
      show (e.2 + x) * W c + _ = _
      rw [Int.add_mul]
      omega
    · rw [if_neg h, List.map_cons, List.map_cons, List.sum_cons, List.sum_cons, ih]
      omega
/-- one rest of the tokens: all its next tokens -/
def stepT (h : Int) (c : List Int) (v : Int) (lg : En) (ts : List Nat) : En := ts.foldl (fun lg t => if 0 < c.getD t 0 ∧ ((t : Nat) : Int) ≤ h then addE (decr c t) v lg else lg) lg
def stepE (hf : List Int → Int) (es : En) : En := es.foldl (fun lg e => stepT (hf e.1) e.1 e.2 lg (List.range 6)) []
theorem phi_stepT (W : List Int → Int) (h : Int) (c : List Int) (v : Int) : ∀ (ts : List Nat) (lg : En), phi W (stepT h c v lg ts) = phi W lg + v * (ts.map fun t => if 0 < c.getD t 0 ∧ ((t : Nat) : Int) ≤ h then W (decr c t) else 0).sum
  | [], lg => by simp [stepT]
  | t :: ts, lg => by
    have e : stepT h c v lg (t :: ts) = stepT h c v (if 0 < c.getD t 0 ∧ ((t : Nat) : Int) ≤ h then addE (decr c t) v lg else lg) ts := rfl
    rw [e, phi_stepT W h c v ts, List.map_cons, List.sum_cons, Int.mul_add]
    by_cases hp : 0 < c.getD t 0 ∧ ((t : Nat) : Int) ≤ h
    · simp only [if_pos hp]
      rw [phi_add]
      omega
    · simp only [if_neg hp]
      omega
theorem six_sum (f : Nat → Int) : ((List.range 6).map f).sum = S6 f := by
  show f 0 + (f 1 + (f 2 + (f 3 + (f 4 + (f 5 + 0))))) = _
  simp only [S6]; omega
/-- what stands at a key: counts that sum to n -/
def GoodE (n : Nat) (es : En) : Prop := (es.map (·.1)).Nodup ∧ ∀ c ∈ es.map (·.1), c.length = 6 ∧ (∀ x ∈ c, 0 ≤ x) ∧ c.sum = ((n : Nat) : Int)
theorem good_stepT {n : Nat} {h : Int} {c : List Int} {v : Int} (c6 : c.length = 6) (cn : ∀ x ∈ c, 0 ≤ x) (cs : c.sum = ((n + 1 : Nat) : Int)) : ∀ (ts : List Nat) (lg : En), (∀ t ∈ ts, t < 6) → GoodE n lg → GoodE n (stepT h c v lg ts)
  | [], lg, _, g => g
  | t :: ts, lg, ht, g => by
    have e : stepT h c v lg (t :: ts) = stepT h c v (if 0 < c.getD t 0 ∧ ((t : Nat) : Int) ≤ h then addE (decr c t) v lg else lg) ts := rfl
    rw [e]
    refine good_stepT c6 cn cs ts _ (fun x hx => ht x (List.mem_cons_of_mem _ hx)) ?_
    have t6 := ht t List.mem_cons_self
    split
    · rename_i hp
      refine ⟨addE_nodup _ _ g.1, fun k hk => ?_⟩
      rcases (addE_keys _ _ lg k).mp hk with rfl | hk
      · exact ⟨by rw [decr_len (by omega)]; exact c6, decr_nn cn hp.1, by rw [decr_sum (by omega), cs]; omega⟩
      · exact g.2 k hk
    · exact g
theorem fold_step {n : Nat} (hf : List Int → Int) (W : List Int → Int) : ∀ (es lg : En), (∀ e ∈ es, e.1.length = 6 ∧ (∀ x ∈ e.1, 0 ≤ x) ∧ e.1.sum = ((n + 1 : Nat) : Int)) → GoodE n lg →
    GoodE n (es.foldl (fun lg e => stepT (hf e.1) e.1 e.2 lg (List.range 6)) lg) ∧ phi W (es.foldl (fun lg e => stepT (hf e.1) e.1 e.2 lg (List.range 6)) lg) = phi W lg + (es.map fun e => e.2 * S6 fun t => if 0 < e.1.getD t 0 ∧ ((t : Nat) : Int) ≤ hf e.1 then W (decr e.1 t) else 0).sum
  | [], lg, _, g => ⟨g, by simp⟩
  | e :: es, lg, he, g => by
    obtain ⟨a1, a2, a3⟩ := he e List.mem_cons_self
    have g1 := good_stepT (h := hf e.1) (v := e.2) a1 a2 a3 (List.range 6) lg (fun t ht => List.mem_range.mp ht) g
    obtain ⟨g2, p2⟩ := fold_step hf W es (stepT (hf e.1) e.1 e.2 lg (List.range 6)) (fun x hx => he x (List.mem_cons_of_mem _ hx)) g1
    rw [List.foldl_cons]
    refine ⟨g2, ?_⟩
    rw [p2, phi_stepT, six_sum, List.map_cons, List.sum_cons]
    omega
/-- one step: the ways are kept -/
theorem step_ok {n : Nat} {B : Int} {es : En} (g : GoodE (n + 1) es) : GoodE n (stepE (fun c => B - balC 0 c) es) ∧ phi (fun c => wI n (B - balC 0 c) c) (stepE (fun c => B - balC 0 c) es) = phi (fun c => wI (n + 1) (B - balC 0 c) c) es := by
  have ge : ∀ e ∈ es, e.1.length = 6 ∧ (∀ x ∈ e.1, 0 ≤ x) ∧ e.1.sum = ((n + 1 : Nat) : Int) := fun e he => g.2 e.1 (List.mem_map.mpr ⟨e, he, rfl⟩)
  obtain ⟨g2, p2⟩ := fold_step (n := n) (fun c => B - balC 0 c) (fun c => wI n (B - balC 0 c) c) es [] ge ⟨List.nodup_nil, fun c hc => by cases hc⟩
  refine ⟨g2, ?_⟩
  show phi _ (es.foldl _ []) = _
  rw [p2]
  have e0 : phi (fun c => wI n (B - balC 0 c) c) [] = 0 := rfl
  rw [e0, Int.zero_add]
  unfold phi
  congr 1
  refine List.map_congr_left fun e he => ?_
  obtain ⟨a1, a2, a3⟩ := ge e he
  show _ = e.2 * wI (n + 1) (B - balC 0 e.1) e.1
  rw [first_tok a1]
  congr 1
  refine S6_congr fun t ht => ?_
  by_cases hp : 0 < e.1.getD t 0 ∧ ((t : Nat) : Int) ≤ B - balC 0 e.1
  · rw [if_pos hp, if_pos hp]
    have db := decr_bal (c := e.1) (a := t) 0 (by omega)
    rw [Nat.zero_add] at db
    have : B - balC 0 (decr e.1 t) = B - balC 0 e.1 + 1 - ((t : Nat) : Int) := by omega
    rw [this]
  · rw [if_neg hp, if_neg hp]
theorem nodup_le {α : Type} [DecidableEq α] : ∀ {l m : List α}, l.Nodup → (∀ x ∈ l, x ∈ m) → l.length ≤ m.length
  | [], m, _, _ => Nat.zero_le _
  | x :: l, m, hn, h => by
    obtain ⟨n1, n2⟩ := List.nodup_cons.mp hn
    have hx := h x List.mem_cons_self
    have := nodup_le (l := l) (m := m.erase x) n2 fun y hy => (List.mem_erase_of_ne (fun z => n1 (by rw [← z]; exact hy))).mpr (h y (List.mem_cons_of_mem _ hy))
    rw [List.length_erase_of_mem hx] at this
    have := List.length_pos_of_mem hx
    rw [List.length_cons]
    omega
theorem comps_few : ((List.range 11).all fun n => decide ((comps 6 n).length ≤ 5000)) = true := by decide +kernel
theorem GoodE.few {n : Nat} {es : En} (g : GoodE n es) (hn : n ≤ 10) : (enc es).length ≤ 5000 := by
  have h1 := nodup_le (m := comps 6 n) g.1 fun c hc => by
    obtain ⟨a1, a2, a3⟩ := g.2 c hc
    have := comps_mem a2 a3
    rw [a1] at this
    exact this
  have h2 := of_decide_eq_true (List.all_eq_true.mp comps_few n (List.mem_range.mpr (by omega)))
  unfold enc
  rw [List.length_map] at h1 ⊢
  omega
/-- no token left: one key at most -/
theorem GoodE.last {es : En} (g : GoodE 0 es) (W : List Int → Int) : lookE es [0, 0, 0, 0, 0, 0] * W [0, 0, 0, 0, 0, 0] = phi W es := by
  have all0 : ∀ c ∈ es.map (·.1), c = [0, 0, 0, 0, 0, 0] := fun c hc => by
    obtain ⟨a1, a2, a3⟩ := g.2 c hc
    have : c = List.replicate 6 0 := List.eq_replicate_iff.mpr ⟨a1, fun x hx => by
      have := mem_le_sum a2 hx
      have := a2 x hx
      omega⟩
    exact this
  match es, g, all0 with
  | [], _, _ => simp [lookE, phi]
  | [e], _, all0 =>
    have := all0 e.1 (by simp)
    simp [lookE, phi, List.find?_cons, this]
  | e :: e' :: es, g, all0 =>
    have h1 := all0 e.1 (by simp)
    have h2 := all0 e'.1 (by simp)
    have := g.1
    simp [h1, h2] at this
end DL
namespace TX
open PySem PySem.Spec L2 DL
open PyProof.Rows hiding St
def topS (i : Nat) : Stmt := PySem.Challenge.pw_ringpostfix_k45_rows_counted.main.body.getD i (.Pass ⟨0, 0, 0, 0⟩)
abbrev st__law_stream : Stmt := topS 5
abbrev nm__law_stream : List Str := ["_law_script", "_law_cells", "_law_cell"]
abbrev st__law_draw : Stmt := topS 6
abbrev nm__law_draw : List Str := ["_law_stream_here", "_law_many", "_law_rest", "_law_turn", "_law_cell", "_law_mixed"]
abbrev st__law_pick : Stmt := topS 7
abbrev nm__law_pick : List Str := ["_law_stream_here", "_law_items"]
abbrev st__law_counts : Stmt := topS 8
abbrev nm__law_counts : List Str := ["_law_stream_here", "_law_most", "_law_menus", "_law_counts_here", "_law_menu", "_law_k", "_law_token"]
abbrev st__law_factorial : Stmt := topS 10
abbrev nm__law_factorial : List Str := ["_law_number", "_law_found", "_law_k"]
abbrev st_count_rows : Stmt := topS 2
abbrev nm_count_rows : List Str := ["counts", "found", "size", "many", "step"]
abbrev st_balance_of : Stmt := topS 1
abbrev nm_balance_of : List Str := ["counts", "arity", "many"]
abbrev st_count_ready : Stmt := topS 3
abbrev nm_count_ready : List Str := ["counts"]
abbrev st__law_less : Stmt := topS 9
abbrev nm__law_less : List Str := ["_law_counts_here", "_law_token"]
abbrev st__law_ways : Stmt := topS 11
abbrev nm__law_ways : List Str := ["_law_counts_here", "_law_ways_here", "_law_k", "_law_longer", "_law_rest", "_law_token", "_law_depth", "_law_other"]
abbrev st_law : Stmt := topS 12
abbrev nm_law : List Str := ["_law_script", "_law_stream_here", "_law_turn", "_law_counts_here", "_law_shown", "_law_due", "_law_many", "_law_again", "_law_found"]
noncomputable def L1__law_counts (ρ : Ev) (S : Sto) : SR :=
  (sSeq (sSet 6 (eCall F__law_pick (aCons (eVar 0) (aCons (eVar 4) aNil))))
    (sAsg (eOp dAdd (eOp dIx (eVar 3) (eVar 6)) (eC (.int 1))) (tSub (eVar 3) (eVar 6)))) ρ S
noncomputable def B__law_counts : Ev → Sto → SR :=
  (sSeq (sSet 2 (eFl (aCons (eFl (aCons (eC (.int 0)) (aCons (eC (.int 0)) (aCons (eC (.int 1)) (aCons (eC (.int 2)) aNil))))) (aCons (eFl (aCons (eC (.int 0)) (aCons (eC (.int 0)) (aCons (eC (.int 0)) (aCons (eC (.int 2)) (aCons (eC (.int 3)) aNil)))))) (aCons (eFl (aCons (eC (.int 0)) (aCons (eC (.int 1)) aNil))) (aCons (eFl (aCons (eC (.int 0)) (aCons (eC (.int 0)) (aCons (eC (.int 0)) (aCons (eC (.int 0)) (aCons (eC (.int 4)) (aCons (eC (.int 5)) (aCons (eC (.int 1)) aNil)))))))) (aCons (eFl (aCons (eC (.int 0)) (aCons (eC (.int 2)) aNil))) (aCons (eFl (aCons (eC (.int 1)) (aCons (eC (.int 2)) aNil))) aNil))))))))
    (sSeq (sPar2 3 4 (aCons (eOp dMulL (eFl (aCons (eC (.int 0)) aNil)) (eC (.int 6))) (aCons (eCall F__law_pick (aCons (eVar 0) (aCons (eVar 2) aNil))) aNil)))
    (sSeq (sFor (iRange1 (aCons (eOp dAdd (eC (.int 1)) (eCall F__law_draw (aCons (eVar 0) (aCons (eVar 1) aNil)))) aNil)) (tN 5) L1__law_counts sNil)
    (sRet (eCall bTupleK (aCons (eVar 3) aNil))))))
noncomputable def F__law_counts : Fn := fnC close 7 2 B__law_counts
noncomputable def L1__law_factorial (ρ : Ev) (S : Sto) : SR :=
  (sSet 1 (eOp dMulT (eVar 1) (eOp dAdd (eVar 2) (eC (.int 1))))) ρ S
noncomputable def B__law_factorial : Ev → Sto → SR :=
  (sSeq (sSet 1 (eC (.int 1)))
    (sSeq (sFor (iRange1 (aCons (eVar 0) aNil)) (tN 2) L1__law_factorial sNil)
    (sRet (eVar 1))))
noncomputable def F__law_factorial : Fn := fnC close 3 1 B__law_factorial
noncomputable def B_count_ready : Ev → Sto → SR :=
  (sRet (eOp dFdiv (eOp dMulT (eCall F_count_rows (aCons (eVar 0) aNil)) (eCall bMax (aCons (eC (.int 0)) (aCons (eCall F_balance_of (aCons (eVar 0) aNil)) aNil)))) (eCall bSum2 (aCons (eVar 0) aNil))))
noncomputable def F_count_ready : Fn := fnC close 1 1 B_count_ready
noncomputable def B__law_less : Ev → Sto → SR :=
  (sRet (eOp dAddK2 (eOp dAddK1 (eSl mkFl (eVar 0) oNone (oSome (eVar 1))) (eTupK (aCons (eOp dSub (eOp dIx (eVar 0) (eVar 1)) (eC (.int 1))) aNil))) (eSl mkFl (eVar 0) (oSome (eOp dAdd (eVar 1) (eC (.int 1)))) oNone)))
noncomputable def F__law_less : Fn := fnC close 2 2 B__law_less
noncomputable def E1__law_ways (ρ : Ev) (S : Sto) : R D :=
  (eOp dMulT (eOp dSub (eOp dIx (eUn (eVar 0)) (eVar 5)) (eOp dIx (eUn (eVar 4)) (eVar 5))) (eVar 5)) ρ S
noncomputable def L1__law_ways (ρ : Ev) (S : Sto) : SR :=
  (sIf (eAnd (eT (eOp dGt (eOp dIx (eUn (eVar 4)) (eVar 5)) (eC (.int 0)))) (eT (eOp dLe (eVar 5) (eVar 6)))) (sSeq (sSet 7 (eCall F__law_less (aCons (eUn (eVar 4)) (aCons (eVar 5) aNil))))
    (sAsg (eOp dAdd (eGet2 (eVar 3) (eVar 7) (eC (.int 0))) (eOp dDgL (eVar 1) (eVar 4))) (tSubT (eVar 3) (eVar 7)))) sNil) ρ S
noncomputable def L2__law_ways (ρ : Ev) (S : Sto) : SR :=
  (sSeq (sSet 6 (eOp dSub (eVar 2) (eCall bSum2 (aCons (eLc finFl (iRange1 (aCons (eC (.int 6)) aNil)) (tN 5) [5] cYes E1__law_ways) aNil))))
    (sFor (iRange1 (aCons (eC (.int 6)) aNil)) (tN 5) L1__law_ways sNil)) ρ S
noncomputable def L3__law_ways (ρ : Ev) (S : Sto) : SR :=
  (sSeq (sSet 3 eDctT)
    (sSeq (sLockT 1 (sFor (iKeysT (eVar 1)) (tN 4) L2__law_ways sNil))
    (sSet 1 (eVar 3)))) ρ S
noncomputable def B__law_ways : Ev → Sto → SR :=
  (sSeq (sSet 1 (eDisp1T (eVar 0) (eC (.int 1))))
    (sSeq (sFor (iRange1 (aCons (eCall bSum2 (aCons (eUn (eVar 0)) aNil)) aNil)) (tN 2) L3__law_ways sNil)
    (sRet (eGet2 (eVar 1) (eTupK (aCons (eC (.int 0)) (aCons (eC (.int 0)) (aCons (eC (.int 0)) (aCons (eC (.int 0)) (aCons (eC (.int 0)) (aCons (eC (.int 0)) aNil))))))) (eC (.int 0))))))
noncomputable def F__law_ways : Fn := fnC close 8 1 B__law_ways
noncomputable def L1_law (ρ : Ev) (S : Sto) : SR :=
  (sSet 5 (eOp dFdiv (eVar 5) (eCall F__law_factorial (aCons (eVar 6) aNil)))) ρ S
noncomputable def L2_law (ρ : Ev) (S : Sto) : SR :=
  (sSeq (sSet 8 (eFl (aCons (eCall F_count_rows (aCons (eUn (eVar 3)) aNil)) (aCons (eCall F_count_ready (aCons (eUn (eVar 3)) aNil)) aNil))))
    (sIf (eOr (eT (eOp (dEq true) (eCall bRepr (aCons (eVar 8) aNil)) (eCall bRepr (aCons (eFl (aCons (eVar 5) (aCons (eCall F__law_ways (aCons (eVar 3) aNil)) aNil))) aNil)))) (eT (eOp (dEq true) (eCall bRepr (aCons (eUn (eVar 3)) aNil)) (eVar 4)))) (sRet (eC (.bl false))) sNil)) ρ S
noncomputable def L3_law (ρ : Ev) (S : Sto) : SR :=
  (sSeq (sSet 3 (eCall F__law_counts (aCons (eVar 1) (aCons (eC (.int 10)) aNil))))
    (sSeq (sPar2 4 5 (aCons (eCall bRepr (aCons (eUn (eVar 3)) aNil)) (aCons (eCall F__law_factorial (aCons (eCall bSum2 (aCons (eUn (eVar 3)) aNil)) aNil)) aNil)))
    (sSeq (sFor (iSeq (eUn (eVar 3))) (tN 6) L1_law sNil)
    (sFor (iRange1 (aCons (eC (.int 2)) aNil)) (tN 7) L2_law sNil)))) ρ S
noncomputable def B_law : Ev → Sto → SR :=
  (sSeq (sSet 1 (eCall F__law_stream (aCons (eVar 0) aNil)))
    (sSeq (sFor (iRange1 (aCons (eC (.int 8)) aNil)) (tN 2) L3_law sNil)
    (sRet (eC (.bl true)))))
noncomputable def F_law : Fn := fnC close 9 1 B_law
end TX
namespace TX
open PySem PySem.Spec L2 DL
open PyProof.Rows hiding St
abbrev KT (c : List Int) : D := .ktp (c.map D.int)
theorem bTupleK_loc {S : Sto} {n : Nat} {l : List D} (h : getL S n = some l) : bTupleK [.loc n] S = .ok (.ktp l) S := by
  unfold bTupleK
  simp only [show lstOf S (.loc n) = some l from h]
def menus9 : List D := [.fl [.int 0, .int 0, .int 1, .int 2], .fl [.int 0, .int 0, .int 0, .int 2, .int 3], .fl [.int 0, .int 1], .fl [.int 0, .int 0, .int 0, .int 0, .int 4, .int 5, .int 1], .fl [.int 0, .int 2], .fl [.int 1, .int 2]]
theorem menus9_ok : ∀ d ∈ menus9, ∃ ms : List Int, d = .fl (ms.map D.int) ∧ ms ≠ [] ∧ ms.length ≤ 7 ∧ ∀ t ∈ ms, Arity t := by
  have am : ∀ l : List Int, (l.all fun t => decide (0 ≤ t ∧ t ≤ 5)) = true → ∀ t ∈ l, Arity t := fun l hl t ht => by
    have := List.all_eq_true.mp hl t ht
    simpa [Arity] using this
  intro d hd
  unfold menus9 at hd
  simp only [List.mem_cons, List.not_mem_nil, or_false] at hd
  rcases hd with rfl | rfl | rfl | rfl | rfl | rfl
  · exact ⟨[0, 0, 1, 2], rfl, by simp, by simp, am _ (by decide)⟩
  · exact ⟨[0, 0, 0, 2, 3], rfl, by simp, by simp, am _ (by decide)⟩
  · exact ⟨[0, 1], rfl, by simp, by simp, am _ (by decide)⟩
  · exact ⟨[0, 0, 0, 0, 4, 5, 1], rfl, by simp, by simp, am _ (by decide)⟩
  · exact ⟨[0, 2], rfl, by simp, by simp, am _ (by decide)⟩
  · exact ⟨[1, 2], rfl, by simp, by simp, am _ (by decide)⟩
def incr (c : List Int) (a : Nat) : List Int := c.set a (c.getD a 0 + 1)
theorem incr_sum : ∀ {c : List Int} {a : Nat}, a < c.length → (incr c a).sum = c.sum + 1
  | x :: cs, 0, _ => by unfold incr; simp; omega
  | x :: cs, a + 1, h => by
    have ih := incr_sum (c := cs) (a := a) (by simpa using h)
    unfold incr at ih ⊢
    simp only [List.set_cons_succ, List.sum_cons, List.getD_cons_succ]
    omega
theorem incr_nn {c : List Int} {a : Nat} (hc : ∀ x ∈ c, 0 ≤ x) : ∀ x ∈ incr c a, 0 ≤ x := fun x hx => by
  unfold incr at hx
  rcases List.mem_or_eq_of_mem_set hx with h | rfl
  · exact hc x h
  · by_cases ha : a < c.length
    · have := hc c[a] (List.getElem_mem ha)
      rw [List.getD_eq_getElem?_getD, List.getElem?_eq_getElem ha]
      show 0 ≤ c[a] + 1
      omega
    · rw [List.getD_eq_getElem?_getD, List.getElem?_eq_none (by omega)]; decide
theorem counts_turn {S : Sto} {n : Nat} {rest : Sto} {c ms : List Int} (st : Strm S n (rest ++ [.lst (c.map D.int)])) (hn : n + 10 < 2 ^ 60) (c6 : c.length = 6) (m0 : ms ≠ []) (m7 : ms.length ≤ 7) (ma : ∀ t ∈ ms, Arity t) (x1 x2 x5 x6 : Option D) :
    ∃ a S' , a < 6 ∧ L1__law_counts [some (.loc 1), x1, x2, some (.loc (rest.length + 2)), some (.fl (ms.map D.int)), x5, x6] S = .nx [some (.loc 1), x1, x2, some (.loc (rest.length + 2)), some (.fl (ms.map D.int)), x5, some (.int ((a : Nat) : Int))] S' ∧ Strm S' (n + 1) (rest ++ [.lst ((incr c a).map D.int)]) := by
  obtain ⟨d, S1, p1, p2, s1⟩ := pick_fl st (xs := ms.map D.int) (by simpa using m0) (by rw [List.length_map]; exact Nat.lt_of_le_of_lt m7 (by decide)) (by omega)
  obtain ⟨t, ht, rfl⟩ := List.mem_map.mp p2
  obtain ⟨a, rfl, ha⟩ := ar_nat (ma t ht)
  have g := s1.getL_end
  have hx : c[a]? = some (c.getD a 0) := by
    rw [List.getD_eq_getElem?_getD, List.getElem?_eq_getElem (by omega)]; rfl
  have ix : dIx (.loc (rest.length + 2)) (.int ((a : Nat) : Int)) S1 = .ok (.int (c.getD a 0)) S1 := by
    have e : seqOf S1 (.loc (rest.length + 2)) = some (c.map D.int) := s1.getQ_end
    show (match seqOf S1 (.loc (rest.length + 2)) with
      | some xs => (match atI xs ((a : Nat) : Int) with
        | some d => R.ok d S1
        | none => .stuck)
      | none => .stuck) = _
    rw [e]
    simp only
    rw [atI_nn (by omega) (by rw [List.length_map]; omega), Int.toNat_natCast, List.getElem?_map, hx]
    rfl
  have ds := dSet_at (v := .int (c.getD a 0 + 1)) g (k := a) (by rw [List.length_map]; omega)
  have st2 := s1.set_end (.lst ((incr c a).map D.int))
  have es : (c.map D.int).set a (.int (c.getD a 0 + 1)) = (incr c a).map D.int := by unfold incr; rw [List.map_set]
  rw [es] at ds
  refine ⟨a, _, ha, ?_, st2⟩
  unfold L1__law_counts
  generalize S1.set (rest.length + 2) (.lst ((incr c a).map D.int)) = S2 at *
  generalize ms.map D.int = MS at *
  simp only [eVar, eC, eOp, eT, eAnd, eOr, eNot, eIf, eAndV, eOrV, eNotV, eCall, aNil, aCons, aStar, sOf, eTup, eFl, eLoc, eSl, oNone, oSome, iOf, eNeg, eChain, eMt, bOf, eDict0, eRev, eListRg, iZipD, sRaise1, sRaise0, eCallV, List.lookup, R.bind_ok, R.bind_er, R.bind_stuck, R.toS_ok, R.toS_er, R.toS_stuck, SR.next_nx, SR.next_rt, SR.next_er, SR.next_bk, SR.next_ct, SR.next_stuck, sNil, sSeq, sBrk, sCnt, sExp, sRet, sRetN, sIf, sSet, sAsg, sAug, sPar2, sPar3, tN, DL.tTup, DL.tNil, DL.tCons, DL.tSub, iSeq, srcOf_tup, srcOf_fl, srcOf_kl, srcOf_ti, iRange1, iRange2, sFor, startD, List.map_cons, List.map_nil, List.length_cons, List.length_nil, List.replicate, List.cons_append, List.nil_append, List.getElem?_cons_zero, List.getElem?_cons_succ, List.set_cons_zero, List.set_cons_succ, dSub_int, dFdiv_int, dMod_int, dLt_int, dLe_int, dGt_int, dGe_int, dAddI_int, dSubI_int, dIsN_non, isN, dAdd_int, ll0, ll1, ll2, ll3, ll4, ll5, ll6, ll7, ll8, ll9, ll10, ll11, ll12, ll13, ll14, ll15, ll16, ll17, ll18, ll19, ll20, ll21, ll22, ll23, ll24, ll25, ll26, ll27, ll28, ll29, ll30, ll31, ll32, ll33, ll34, ll35, ll36, ll37, ll38, ll39, ll40, Nat.reduceSub, Nat.reduceAdd, Nat.reduceEqDiff, if_true, if_false, ifp_t, ifp_f, reduceIte, Bool.true_eq_false, Bool.false_eq_true, Option.map_some, Option.map_none, Option.bind_some, Option.bind_none, tSq, sSet2, seqOf_fl, seqOf_tup, seqOf_ti, p1, ix, DL.tSub, ds]
theorem counts_ok {S : Sto} {n : Nat} {rest : Sto} (h : Strm S n rest) (hn : n + 30 < 2 ^ 60) : ∃ (c : List Int) (m : Nat) (S' : Sto), F__law_counts [.loc 1, .int 10] S = .ok (KT c) S' ∧ c.length = 6 ∧ (∀ x ∈ c, 0 ≤ x) ∧ c.sum = ((m : Nat) : Int) ∧ 0 < m ∧ m ≤ 10 ∧ Strm S' (n + 20) rest := by
  have sA := h.app [.lst (([0, 0, 0, 0, 0, 0] : List Int).map D.int)]
  have hlen : S.length = rest.length + 2 := h.len
  have ml : dMulL (.fl [.int 0]) (.int 6) S = .ok (.loc (rest.length + 2)) (S ++ [.lst (([0, 0, 0, 0, 0, 0] : List Int).map D.int)]) := by
    show ifp (-(2 ^ 63) ≤ (6 : Int) ∧ (6 : Int) < 2 ^ 63 ∧ [D.int 0].length * (6 : Int).toNat ≤ sizeLine) (mkLoc (List.replicate (6 : Int).toNat [D.int 0]).flatten S) .stuck = _
    rw [ifp_pos ⟨by decide, by decide, Nat.le_trans (show 1 * 6 ≤ 1000 by omega) (by decide)⟩, ← hlen]
    rfl
  obtain ⟨d, S1, p1, p2, s1⟩ := pick_fl sA (xs := menus9) (by unfold menus9; simp) (by unfold menus9; simp) (by omega)
  obtain ⟨ms, rfl, m0, m7, ma⟩ := menus9_ok d p2
  obtain ⟨z, S2, z1, z2, z3, s2⟩ := draw_ok s1 (m := 10) (by decide) (by decide) (by omega)
  obtain ⟨size, hsz⟩ : ∃ size : Nat, 1 + z = (size : Int) := ⟨(1 + z).toNat, by omega⟩
  have hr : ((-(2 ^ 62) : Int) ≤ (size : Int) ∧ (size : Int) < 2 ^ 62) = True := by simp; omega
  obtain ⟨ρ', S3, ⟨x5, x6, c, rfl, s3, c6, cn, cs⟩, hf⟩ := forD_all (T := tN 5) (B := L1__law_counts) (Z := sNil) (fun i ρ S => ∃ x5 x6, ∃ c : List Int, ρ = [some (.loc 1), some (.int 10), some (.fl menus9), some (.loc (rest.length + 2)), some (.fl (ms.map D.int)), x5, x6] ∧ Strm S (n + 2 + i) (rest ++ [.lst (c.map D.int)]) ∧ c.length = 6 ∧ (∀ x ∈ c, 0 ≤ x) ∧ c.sum = ((i : Nat) : Int))
    (rangeD 0 size) 0 [some (.loc 1), some (.int 10), some (.fl menus9), some (.loc (rest.length + 2)), some (.fl (ms.map D.int)), none, none] S2 ⟨none, none, _, rfl, s2, rfl, by simp, rfl⟩ (by
      rintro j d ρ S' hj ⟨x5, x6, c, rfl, sj, c6, cn, cs⟩
      obtain ⟨hj', rfl⟩ := rangeD_get hj
      rw [Nat.zero_add] at sj cs ⊢
      obtain ⟨a, S'', ha, t3, t4⟩ := counts_turn sj (by omega) c6 m0 m7 ma (some (.int 10)) (some (.fl menus9)) (some (.int (0 + (j : Int)))) x6
      refine ⟨_, _, _, S'', rfl, .inl t3, _, _, incr c a, rfl, t4, by unfold incr; rw [List.length_set]; exact c6, incr_nn cn, ?_⟩
      rw [incr_sum (by omega), cs]; rfl)
  rw [rangeD_len, Nat.zero_add] at s3 cs
  have tp : bTupleK [.loc (rest.length + 2)] S3 = .ok (KT c) S3 := bTupleK_loc s3.getL_end
  have hst : startD 7 [D.loc 1, .int 10] = [some (.loc 1), some (.int 10), none, none, none, none, none] := rfl
  have key := fnC_strm (n := 7) (m := 2) (B := B__law_counts) (ds := [D.loc 1, .int 10]) (S := S) (S6 := S3) (d := KT c) h (l := [.lst (c.map D.int)]) s3 (by simp) rfl ?_ (by show lowL _ _ = true; exact lowL_ints _ _)
  · exact ⟨c, size, _, key.1, c6, cn, cs, by omega, by omega, key.2.mono (by omega)⟩
  · rw [hst]
    unfold B__law_counts
    have f2 : ∀ (a b : D) S, (ifp ([a, b].length ≤ sizeLine) (R.ok (D.fl [a, b]) S) .stuck : R D) = .ok (.fl [a, b]) S := fun a b S => ifp_pos (Nat.le_trans (show 2 ≤ 10 by omega) (by decide))
    have f1 : ∀ (a : D) S, (ifp ([a].length ≤ sizeLine) (R.ok (D.fl [a]) S) .stuck : R D) = .ok (.fl [a]) S := fun a S => ifp_pos (Nat.le_trans (show 1 ≤ 10 by omega) (by decide))
    unfold menus9 at p1 hf
    generalize hD : ms.map D.int = MS at *
    generalize S ++ [Ob.lst (([0, 0, 0, 0, 0, 0] : List Int).map D.int)] = SA at *
    simp only [eVar, eC, eOp, eT, eAnd, eOr, eNot, eIf, eAndV, eOrV, eNotV, eCall, aNil, aCons, aStar, sOf, eTup, eFl, eLoc, eSl, oNone, oSome, iOf, eNeg, eChain, eMt, bOf, eDict0, eRev, eListRg, iZipD, sRaise1, sRaise0, eCallV, List.lookup, R.bind_ok, R.bind_er, R.bind_stuck, R.toS_ok, R.toS_er, R.toS_stuck, SR.next_nx, SR.next_rt, SR.next_er, SR.next_bk, SR.next_ct, SR.next_stuck, sNil, sSeq, sBrk, sCnt, sExp, sRet, sRetN, sIf, sSet, sAsg, sAug, sPar2, sPar3, tN, DL.tTup, DL.tNil, DL.tCons, DL.tSub, iSeq, srcOf_tup, srcOf_fl, srcOf_kl, srcOf_ti, iRange1, iRange2, sFor, startD, List.map_cons, List.map_nil, List.length_cons, List.length_nil, List.replicate, List.cons_append, List.nil_append, List.getElem?_cons_zero, List.getElem?_cons_succ, List.set_cons_zero, List.set_cons_succ, dSub_int, dFdiv_int, dMod_int, dLt_int, dLe_int, dGt_int, dGe_int, dAddI_int, dSubI_int, dIsN_non, isN, dAdd_int, ll0, ll1, ll2, ll3, ll4, ll5, ll6, ll7, ll8, ll9, ll10, ll11, ll12, ll13, ll14, ll15, ll16, ll17, ll18, ll19, ll20, ll21, ll22, ll23, ll24, ll25, ll26, ll27, ll28, ll29, ll30, ll31, ll32, ll33, ll34, ll35, ll36, ll37, ll38, ll39, ll40, Nat.reduceSub, Nat.reduceAdd, Nat.reduceEqDiff, if_true, if_false, ifp_t, ifp_f, reduceIte, Bool.true_eq_false, Bool.false_eq_true, Option.map_some, Option.map_none, Option.bind_some, Option.bind_none, tSq, sSet2, seqOf_fl, seqOf_tup, seqOf_ti, ml, p1, z1, hsz, hr, Int.toNat_natCast, hf, tp]
theorem count_ready_ok {n : Nat} {c : List Int} (n0 : 0 < n) (n6 : n ≤ 14) (c6 : c.length = 6) (cn : ∀ x ∈ c, 0 ≤ x) (cs : c.sum = ((n : Nat) : Int)) (S : Sto) : F_count_ready [ti c] S = .ok (.int (((cmpl n 0 c).length : Nat) : Int)) S := by
  refine fnC_rt rfl ?_ rfl
  have hst : startD 1 [ti c] = [some (ti c)] := rfl
  rw [hst]
  have cr := count_rows_ok cn (by omega)
  have bo := balance_of_ok (c := c) (by omega) (fun x hx => ⟨cn x hx, by have := mem_le_sum cn hx; omega⟩)
  have bm := bMax_two 0 (balC 0 c)
  have le := count_rows_le cn (by omega)
  have p16 : (16 : Int) ^ 15 < 2 ^ 64 := by decide
  have ml := mulT_int (i := crF c) (j := max 0 (balC 0 c)) ⟨by omega, by omega⟩
  have su := ti_sum c
  have fd := fdiv_int (i := crF c * max 0 (balC 0 c)) (j := c.sum) (by omega) (by omega)
  rw [counted_all c6 cn cs n0] at fd
  unfold B_count_ready
  generalize crF c * max 0 (balC 0 c) = M at *
  generalize ti c = TC at *
  simp only [eVar, eC, eOp, eT, eAnd, eOr, eNot, eIf, eAndV, eOrV, eNotV, eCall, aNil, aCons, aStar, sOf, eTup, eFl, eLoc, eSl, oNone, oSome, iOf, eNeg, eChain, eMt, bOf, eDict0, eRev, eListRg, iZipD, sRaise1, sRaise0, eCallV, List.lookup, R.bind_ok, R.bind_er, R.bind_stuck, R.toS_ok, R.toS_er, R.toS_stuck, SR.next_nx, SR.next_rt, SR.next_er, SR.next_bk, SR.next_ct, SR.next_stuck, sNil, sSeq, sBrk, sCnt, sExp, sRet, sRetN, sIf, sSet, sAsg, sAug, sPar2, sPar3, tN, DL.tTup, DL.tNil, DL.tCons, DL.tSub, iSeq, srcOf_tup, srcOf_fl, srcOf_kl, srcOf_ti, iRange1, iRange2, sFor, startD, List.map_cons, List.map_nil, List.length_cons, List.length_nil, List.replicate, List.cons_append, List.nil_append, List.getElem?_cons_zero, List.getElem?_cons_succ, List.set_cons_zero, List.set_cons_succ, dSub_int, dFdiv_int, dMod_int, dLt_int, dLe_int, dGt_int, dGe_int, dAddI_int, dSubI_int, dIsN_non, isN, dAdd_int, ll0, ll1, ll2, ll3, ll4, ll5, ll6, ll7, ll8, ll9, ll10, ll11, ll12, ll13, ll14, ll15, ll16, ll17, ll18, ll19, ll20, ll21, ll22, ll23, ll24, ll25, ll26, ll27, ll28, ll29, ll30, ll31, ll32, ll33, ll34, ll35, ll36, ll37, ll38, ll39, ll40, Nat.reduceSub, Nat.reduceAdd, Nat.reduceEqDiff, if_true, if_false, ifp_t, ifp_f, reduceIte, Bool.true_eq_false, Bool.false_eq_true, Option.map_some, Option.map_none, Option.bind_some, Option.bind_none, tSq, sSet2, seqOf_fl, seqOf_tup, seqOf_ti, cr, bo, bm, ml, su, fd]
theorem KT_key (c : List Int) : keyT (KT c) = some (keyC c) := keysOf_ints c
theorem un_KT (c : List Int) (S : Sto) : (R.ok (unK (KT c)) S : R D) = .ok (ti c) S := rfl
theorem key_KT (c : List Int) : keyTD (keyC c) = KT c := by
  unfold keyTD keyC
  rw [List.map_map]
  rfl
theorem less_ok {c : List Int} {a : Nat} (ha : a < c.length) (hl : c.length ≤ 100) (S : Sto) : F__law_less [ti c, .int ((a : Nat) : Int)] S = .ok (KT (decr c a)) S := by
  refine fnC_rt rfl ?_ rfl
  have hst : startD 2 [ti c, D.int ((a : Nat) : Int)] = [some (ti c), some (.int ((a : Nat) : Int))] := rfl
  rw [hst]
  have s1 := sl_to c a mkFl
  have s2 := sl_from c (a + 1) mkFl
  rw [Int.natCast_add, Int.natCast_one] at s2
  have ix := ix_at (r := c) (i := a) (x := c[a]) (List.getElem?_eq_getElem ha)
  have t1 : ∀ S, (ifp ([D.int (c[a] - 1)].length ≤ sizeLine) (R.ok (D.ktp [D.int (c[a] - 1)]) S) .stuck : R D) = .ok (KT [c[a] - 1]) S := fun S => ifp_pos (Nat.le_trans (show 1 ≤ 10 by omega) (by decide))
  have a1 : ∀ S, dAddK1 (ti (c.take a)) (KT [c[a] - 1]) S = .ok (KT (c.take a ++ [c[a] - 1])) S := fun S => by
    show ifp (((c.take a).map D.int).length + ([c[a] - 1].map D.int).length ≤ sizeLine) (R.ok (D.ktp ((c.take a).map D.int ++ [c[a] - 1].map D.int)) S) .stuck = _
    rw [ifp_pos (by rw [List.length_map, List.length_take]; exact Nat.le_trans (show min a c.length + 1 ≤ 1000 by omega) (by decide)), ← List.map_append]
  have a2 : ∀ S, dAddK2 (KT (c.take a ++ [c[a] - 1])) (ti (c.drop (a + 1))) S = .ok (KT (decr c a)) S := fun S => by
    have e : c.take a ++ [c[a] - 1] ++ c.drop (a + 1) = decr c a := by
      unfold decr
      rw [List.append_assoc, List.getD_eq_getElem?_getD, List.getElem?_eq_getElem ha]
      rfl
    have g : ∀ (x : Int) (l m : List Int), l.length + 1 + m.length ≤ 1000 → ∀ S, dAddK2 (KT (x :: l)) (ti m) S = .ok (KT (x :: l ++ m)) S := fun x l m h S => by
      show ifp (((x :: l).map D.int).length + (m.map D.int).length ≤ sizeLine) (R.ok (D.ktp ((x :: l).map D.int ++ m.map D.int)) S) .stuck = _
      rw [ifp_pos (by rw [List.length_map, List.length_map, List.length_cons]; exact Nat.le_trans h (by decide)), ← List.map_append]
    obtain ⟨x, l, hx⟩ : ∃ x l, c.take a ++ [c[a] - 1] = x :: l := by
      cases hh : c.take a ++ [c[a] - 1] with
      | nil => simp at hh
      | cons x l => exact ⟨x, l, rfl⟩
    have hl2 : l.length + 1 = (c.take a).length + 1 := by
      have := congrArg List.length hx
      simpa using this.symm
    rw [← e, hx]
    exact g x l _ (by rw [hl2, List.length_take, List.length_drop]; omega) S
  unfold B__law_less
  generalize KT (decr c a) = K1 at *
  generalize KT (c.take a ++ [c[a] - 1]) = K2 at *
  generalize KT [c[a] - 1] = K3 at *
  simp only [sRet, eTupK, eSl, eVar, oNone, oSome, iOf, aCons, aNil, eOp, eC, List.getElem?_cons_zero, List.getElem?_cons_succ, R.bind_ok, s1, s2, ix, dSub_int, dAdd_int, t1, a1, a2, R.toS_ok]
section
variable {C : List Int} {n : Nat}
theorem getD_ix {c : List Int} {t : Nat} (ht : t < c.length) (S : Sto) : dIx (ti c) (.int ((t : Nat) : Int)) S = .ok (.int (c.getD t 0)) S := by
  refine ix_at ?_ S
  rw [List.getD_eq_getElem?_getD, List.getElem?_eq_getElem ht]
  rfl
theorem in_turn {d1 d2 : Nat} {es lg : En} {c : List Int} {v h : Int} {t : Nat} (c6 : c.length = 6) (t6 : t < 6) {S : Sto} (h1 : S[d1]? = some (.dkl (enc es))) (h2 : S[d2]? = some (.dkt (enc lg))) (hes : (es.map (·.1)).Nodup) (hm : (c, v) ∈ es) (hlg : (lg.map (·.1)).Nodup) (few : (enc lg).length ≤ 5000) (x0 x2 x7 : Option D) :
    ∃ y7, L1__law_ways [x0, some (.loc d1), x2, some (.loc d2), some (KT c), some (.int ((t : Nat) : Int)), some (.int h), x7] S = .nx [x0, some (.loc d1), x2, some (.loc d2), some (KT c), some (.int ((t : Nat) : Int)), some (.int h), y7] (S.set d2 (.dkt (enc (if 0 < c.getD t 0 ∧ ((t : Nat) : Int) ≤ h then addE (decr c t) v lg else lg)))) := by
  have un := un_KT c
  have ix := getD_ix (c := c) (t := t) (by omega)
  have ss : S.set d2 (.dkt (enc lg)) = S := by
    obtain ⟨hn, e⟩ := List.getElem?_eq_some_iff.mp h2
    rw [← e]; exact List.set_getElem_self ..
  unfold L1__law_ways
  by_cases p1 : 0 < c.getD t 0
  · have g1 : ∀ S, dGt (.int (c.getD t 0)) (.int 0) S = .ok (.bl true) S := fun S => by rw [dGt_int, decide_eq_true (show c.getD t 0 > 0 from p1)]
    by_cases p2 : ((t : Nat) : Int) ≤ h
    · rw [if_pos ⟨p1, p2⟩]
      have g2 : ∀ S, dLe (.int ((t : Nat) : Int)) (.int h) S = .ok (.bl true) S := fun S => by rw [dLe_i, decide_eq_true p2]
      have le := less_ok (c := c) (a := t) (by omega) (by omega)
      have gs : (getTL S (.loc d2)).isSome = true := by
        show (match S[d2]? with
          | some (.dkt kvs) => some kvs
          | some (.dkl kvs) => some kvs
          | _ => none).isSome = true
        rw [h2]; rfl
      have ge : dGet2 (.loc d2) (KT (decr c t)) (.int 0) S = .ok (.int (lookE lg (decr c t))) S := by
        have e2 : getTL S (.loc d2) = some (enc lg) := by
          show (match S[d2]? with
            | some (.dkt kvs) => some kvs
            | some (.dkl kvs) => some kvs
            | _ => none) = _
          rw [h2]
        unfold dGet2
        rw [KT_key, e2]
        simp only
        rw [look_enc]
      have dg : dDgL (.loc d1) (KT c) S = .ok (.int v) S := by
        have e2 : getTL S (.loc d1) = some (enc es) := by
          show (match S[d1]? with
            | some (.dkt kvs) => some kvs
            | some (.dkl kvs) => some kvs
            | _ => none) = _
          rw [h1]
        unfold dDgL
        rw [KT_key, e2]
        simp only
        rw [look_in hes hm]
      have ds := dSetT_at h2 (decr c t) (.int (lookE lg (decr c t) + v)) (Nat.lt_of_le_of_lt few (by decide))
      rw [put_enc v hlg] at ds
      refine ⟨some (KT (decr c t)), ?_⟩
      have ds' : dSetT (.loc d2) (KT (decr c t)) (.int (lookE lg (decr c t) + v)) S = some (S.set d2 (.dkt (enc (addE (decr c t) v lg)))) := ds
      generalize S.set d2 (.dkt (enc (addE (decr c t) v lg))) = S2 at *
      generalize KT (decr c t) = K2 at *
      generalize KT c = K1 at *
      generalize ti c = TC at *
      simp only [eVar, eC, eOp, eT, eAnd, eOr, eNot, eIf, eAndV, eOrV, eNotV, eCall, aNil, aCons, aStar, sOf, eTup, eFl, eLoc, eSl, oNone, oSome, iOf, eNeg, eChain, eMt, bOf, eDict0, eRev, eListRg, iZipD, sRaise1, sRaise0, eCallV, List.lookup, R.bind_ok, R.bind_er, R.bind_stuck, R.toS_ok, R.toS_er, R.toS_stuck, SR.next_nx, SR.next_rt, SR.next_er, SR.next_bk, SR.next_ct, SR.next_stuck, sNil, sSeq, sBrk, sCnt, sExp, sRet, sRetN, sIf, sSet, sAsg, sAug, sPar2, sPar3, tN, DL.tTup, DL.tNil, DL.tCons, DL.tSub, iSeq, srcOf_tup, srcOf_fl, srcOf_kl, srcOf_ti, iRange1, iRange2, sFor, startD, List.map_cons, List.map_nil, List.length_cons, List.length_nil, List.replicate, List.cons_append, List.nil_append, List.getElem?_cons_zero, List.getElem?_cons_succ, List.set_cons_zero, List.set_cons_succ, dSub_int, dFdiv_int, dMod_int, dLt_int, dLe_int, dGt_int, dGe_int, dAddI_int, dSubI_int, dIsN_non, isN, dAdd_int, ll0, ll1, ll2, ll3, ll4, ll5, ll6, ll7, ll8, ll9, ll10, ll11, ll12, ll13, ll14, ll15, ll16, ll17, ll18, ll19, ll20, ll21, ll22, ll23, ll24, ll25, ll26, ll27, ll28, ll29, ll30, ll31, ll32, ll33, ll34, ll35, ll36, ll37, ll38, ll39, ll40, Nat.reduceSub, Nat.reduceAdd, Nat.reduceEqDiff, if_true, if_false, ifp_t, ifp_f, reduceIte, Bool.true_eq_false, Bool.false_eq_true, Option.map_some, Option.map_none, Option.bind_some, Option.bind_none, tSq, sSet2, seqOf_fl, seqOf_tup, seqOf_ti, eUn, un, ix, g1, g2, le, eGet2, gs, ge, dg, tSubT, ds']
    · rw [if_neg fun z => p2 z.2, ss]
      have g2 : ∀ S, dLe (.int ((t : Nat) : Int)) (.int h) S = .ok (.bl false) S := fun S => by rw [dLe_i, decide_eq_false p2]
      refine ⟨x7, ?_⟩
      generalize KT c = K1 at *
      generalize ti c = TC at *
      simp only [eVar, eC, eOp, eT, eAnd, eOr, eNot, eIf, eAndV, eOrV, eNotV, eCall, aNil, aCons, aStar, sOf, eTup, eFl, eLoc, eSl, oNone, oSome, iOf, eNeg, eChain, eMt, bOf, eDict0, eRev, eListRg, iZipD, sRaise1, sRaise0, eCallV, List.lookup, R.bind_ok, R.bind_er, R.bind_stuck, R.toS_ok, R.toS_er, R.toS_stuck, SR.next_nx, SR.next_rt, SR.next_er, SR.next_bk, SR.next_ct, SR.next_stuck, sNil, sSeq, sBrk, sCnt, sExp, sRet, sRetN, sIf, sSet, sAsg, sAug, sPar2, sPar3, tN, DL.tTup, DL.tNil, DL.tCons, DL.tSub, iSeq, srcOf_tup, srcOf_fl, srcOf_kl, srcOf_ti, iRange1, iRange2, sFor, startD, List.map_cons, List.map_nil, List.length_cons, List.length_nil, List.replicate, List.cons_append, List.nil_append, List.getElem?_cons_zero, List.getElem?_cons_succ, List.set_cons_zero, List.set_cons_succ, dSub_int, dFdiv_int, dMod_int, dLt_int, dLe_int, dGt_int, dGe_int, dAddI_int, dSubI_int, dIsN_non, isN, dAdd_int, ll0, ll1, ll2, ll3, ll4, ll5, ll6, ll7, ll8, ll9, ll10, ll11, ll12, ll13, ll14, ll15, ll16, ll17, ll18, ll19, ll20, ll21, ll22, ll23, ll24, ll25, ll26, ll27, ll28, ll29, ll30, ll31, ll32, ll33, ll34, ll35, ll36, ll37, ll38, ll39, ll40, Nat.reduceSub, Nat.reduceAdd, Nat.reduceEqDiff, if_true, if_false, ifp_t, ifp_f, reduceIte, Bool.true_eq_false, Bool.false_eq_true, Option.map_some, Option.map_none, Option.bind_some, Option.bind_none, tSq, sSet2, seqOf_fl, seqOf_tup, seqOf_ti, eUn, un, ix, g1, g2]
  · rw [if_neg fun z => p1 z.1, ss]
    have g1 : ∀ S, dGt (.int (c.getD t 0)) (.int 0) S = .ok (.bl false) S := fun S => by rw [dGt_int, decide_eq_false (show ¬ c.getD t 0 > 0 from p1)]
    refine ⟨x7, ?_⟩
    generalize KT c = K1 at *
    generalize ti c = TC at *
    simp only [eVar, eC, eOp, eT, eAnd, eOr, eNot, eIf, eAndV, eOrV, eNotV, eCall, aNil, aCons, aStar, sOf, eTup, eFl, eLoc, eSl, oNone, oSome, iOf, eNeg, eChain, eMt, bOf, eDict0, eRev, eListRg, iZipD, sRaise1, sRaise0, eCallV, List.lookup, R.bind_ok, R.bind_er, R.bind_stuck, R.toS_ok, R.toS_er, R.toS_stuck, SR.next_nx, SR.next_rt, SR.next_er, SR.next_bk, SR.next_ct, SR.next_stuck, sNil, sSeq, sBrk, sCnt, sExp, sRet, sRetN, sIf, sSet, sAsg, sAug, sPar2, sPar3, tN, DL.tTup, DL.tNil, DL.tCons, DL.tSub, iSeq, srcOf_tup, srcOf_fl, srcOf_kl, srcOf_ti, iRange1, iRange2, sFor, startD, List.map_cons, List.map_nil, List.length_cons, List.length_nil, List.replicate, List.cons_append, List.nil_append, List.getElem?_cons_zero, List.getElem?_cons_succ, List.set_cons_zero, List.set_cons_succ, dSub_int, dFdiv_int, dMod_int, dLt_int, dLe_int, dGt_int, dGe_int, dAddI_int, dSubI_int, dIsN_non, isN, dAdd_int, ll0, ll1, ll2, ll3, ll4, ll5, ll6, ll7, ll8, ll9, ll10, ll11, ll12, ll13, ll14, ll15, ll16, ll17, ll18, ll19, ll20, ll21, ll22, ll23, ll24, ll25, ll26, ll27, ll28, ll29, ll30, ll31, ll32, ll33, ll34, ll35, ll36, ll37, ll38, ll39, ll40, Nat.reduceSub, Nat.reduceAdd, Nat.reduceEqDiff, if_true, if_false, ifp_t, ifp_f, reduceIte, Bool.true_eq_false, Bool.false_eq_true, Option.map_some, Option.map_none, Option.bind_some, Option.bind_none, tSq, sSet2, seqOf_fl, seqOf_tup, seqOf_ti, eUn, un, ix, g1]
theorem in_loop {d1 d2 : Nat} (hd : d1 ≠ d2) {es : En} {c : List Int} {v h : Int} (n10 : n ≤ 10) (c6 : c.length = 6) (cn : ∀ x ∈ c, 0 ≤ x) (cs : c.sum = ((n + 1 : Nat) : Int)) (hes : (es.map (·.1)).Nodup) (hm : (c, v) ∈ es) (x0 x2 : Option D) : ∀ (ts : List Nat) (lg : En) (S : Sto) (x5 x7 : Option D), (∀ t ∈ ts, t < 6) → S[d1]? = some (.dkl (enc es)) → S[d2]? = some (.dkt (enc lg)) → GoodE n lg →
    ∃ y5 y7, forD yes (tN 5) L1__law_ways sNil (ts.map fun t => D.int ((t : Nat) : Int)) [x0, some (.loc d1), x2, some (.loc d2), some (KT c), x5, some (.int h), x7] S = .nx [x0, some (.loc d1), x2, some (.loc d2), some (KT c), y5, some (.int h), y7] (S.set d2 (.dkt (enc (stepT h c v lg ts))))
  | [], lg, S, x5, x7, _, h1, h2, _ => ⟨x5, x7, by
    have ss : S.set d2 (.dkt (enc lg)) = S := by
      obtain ⟨hn, e⟩ := List.getElem?_eq_some_iff.mp h2
      rw [← e]; exact List.set_getElem_self ..
    rw [List.map_nil, forD_nil trivial]
    show SR.nx _ S = .nx _ (S.set d2 (.dkt (enc lg)))
    rw [ss]⟩
  | t :: ts, lg, S, x5, x7, ht, h1, h2, g => by
    have t6 := ht t List.mem_cons_self
    obtain ⟨y7, e1⟩ := in_turn (h := h) c6 t6 h1 h2 hes hm g.1 (g.few n10) x0 x2 x7
    have il : d2 < S.length := (List.getElem?_eq_some_iff.mp h2).1
    have g' : GoodE n (if 0 < c.getD t 0 ∧ ((t : Nat) : Int) ≤ h then addE (decr c t) v lg else lg) := good_stepT (h := h) (v := v) c6 cn cs [t] lg (fun x hx => by rw [List.mem_singleton.mp hx]; exact t6) g
    obtain ⟨z5, z7, e2⟩ := in_loop hd n10 c6 cn cs hes hm x0 x2 ts _ (S.set d2 (.dkt (enc (if 0 < c.getD t 0 ∧ ((t : Nat) : Int) ≤ h then addE (decr c t) v lg else lg)))) (some (.int ((t : Nat) : Int))) y7 (fun x hx => ht x (List.mem_cons_of_mem _ hx)) (by rw [List.getElem?_set_ne (fun z => hd z.symm)]; exact h1) (List.getElem?_set_self il) g'
    refine ⟨z5, z7, ?_⟩
    rw [List.map_cons, forD_cons (ρ1 := [x0, some (.loc d1), x2, some (.loc d2), some (KT c), some (.int ((t : Nat) : Int)), some (.int h), x7]) (S1 := S) trivial rfl e1, e2, List.set_set]
    rfl
/-- the tokens used take as many values as the height tells -/
theorem used_sum {c : List Int} (C6 : C.length = 6) (c6 : c.length = 6) {k : Int} (hk : k = C.sum - c.sum) : k - ((List.range 6).map fun t => (C.getD t 0 - c.getD t 0) * ((t : Nat) : Int)).sum = balC 0 C - balC 0 c := by
  obtain ⟨a0, a1, a2, a3, a4, a5, rfl⟩ := six C6
  obtain ⟨b0, b1, b2, b3, b4, b5, rfl⟩ := six c6
  rw [six_sum]
  simp [S6, balC] at hk ⊢
  omega
theorem mid_turn {d1 d2 : Nat} (hd : d1 ≠ d2) {es lg : En} {c : List Int} {v k : Int} (n10 : n ≤ 10) (C6 : C.length = 6) (Cn : ∀ x ∈ C, 0 ≤ x) (Cs : C.sum ≤ 10) (c6 : c.length = 6) (cn : ∀ x ∈ c, 0 ≤ x) (cs : c.sum = ((n + 1 : Nat) : Int)) (hk : k = C.sum - c.sum) (hes : (es.map (·.1)).Nodup) (hm : (c, v) ∈ es) {S : Sto} (h1 : S[d1]? = some (.dkl (enc es))) (h2 : S[d2]? = some (.dkt (enc lg))) (g : GoodE n lg) (x5 x6 x7 : Option D) :
    ∃ y5 y6 y7, L2__law_ways [some (KT C), some (.loc d1), some (.int k), some (.loc d2), some (KT c), x5, x6, x7] S = .nx [some (KT C), some (.loc d1), some (.int k), some (.loc d2), some (KT c), y5, y6, y7] (S.set d2 (.dkt (enc (stepT (balC 0 C - balC 0 c) c v lg (List.range 6))))) := by
  have us := used_sum C6 c6 hk
  have hr : ((-(2 ^ 62) : Int) ≤ 6 ∧ (6 : Int) < 2 ^ 62) = True := by simp
  have bound : ∀ {l : List Int} {t : Nat}, (∀ x ∈ l, 0 ≤ x) → l.sum ≤ 100 → t < l.length → 0 ≤ l.getD t 0 ∧ l.getD t 0 ≤ 100 := fun {l t} hn hs ht => by
    rw [List.getD_eq_getElem?_getD, List.getElem?_eq_getElem ht]
    have := hn _ (List.getElem_mem ht)
    have := mem_le_sum hn (List.getElem_mem ht)
    constructor
    · exact hn _ (List.getElem_mem ht)
    · show l[t] ≤ 100
      omega
  have key := eLc_pure (T := tN 5) (vs := [5]) (c := cYes) (f := E1__law_ways) (ρ := [some (KT C), some (.loc d1), some (.int k), some (.loc d2), some (KT c), x5, x6, x7]) (S := S) (src := iRange1 (aCons (eC (.int 6)) aNil)) ((List.range 6).map fun t => D.int ((t : Nat) : Int)) (fun d => [some (KT C), some (.loc d1), some (.int k), some (.loc d2), some (KT c), some d, x6, x7]) (fun _ => true) (fun d => match d with
    | .int i => .int ((C.getD i.toNat 0 - c.getD i.toNat 0) * i)
    | _ => .non) (by
      simp only [eVar, eC, eOp, eT, eAnd, eOr, eNot, eIf, eAndV, eOrV, eNotV, eCall, aNil, aCons, aStar, sOf, eTup, eFl, eLoc, eSl, oNone, oSome, iOf, eNeg, eChain, eMt, bOf, eDict0, eRev, eListRg, iZipD, sRaise1, sRaise0, eCallV, List.lookup, R.bind_ok, R.bind_er, R.bind_stuck, R.toS_ok, R.toS_er, R.toS_stuck, SR.next_nx, SR.next_rt, SR.next_er, SR.next_bk, SR.next_ct, SR.next_stuck, sNil, sSeq, sBrk, sCnt, sExp, sRet, sRetN, sIf, sSet, sAsg, sAug, sPar2, sPar3, tN, DL.tTup, DL.tNil, DL.tCons, DL.tSub, iSeq, srcOf_tup, srcOf_fl, srcOf_kl, srcOf_ti, iRange1, iRange2, sFor, startD, List.map_cons, List.map_nil, List.length_cons, List.length_nil, List.replicate, List.cons_append, List.nil_append, List.getElem?_cons_zero, List.getElem?_cons_succ, List.set_cons_zero, List.set_cons_succ, dSub_int, dFdiv_int, dMod_int, dLt_int, dLe_int, dGt_int, dGe_int, dAddI_int, dSubI_int, dIsN_non, isN, dAdd_int, ll0, ll1, ll2, ll3, ll4, ll5, ll6, ll7, ll8, ll9, ll10, ll11, ll12, ll13, ll14, ll15, ll16, ll17, ll18, ll19, ll20, ll21, ll22, ll23, ll24, ll25, ll26, ll27, ll28, ll29, ll30, ll31, ll32, ll33, ll34, ll35, ll36, ll37, ll38, ll39, ll40, Nat.reduceSub, Nat.reduceAdd, Nat.reduceEqDiff, if_true, if_false, ifp_t, ifp_f, reduceIte, Bool.true_eq_false, Bool.false_eq_true, Option.map_some, Option.map_none, Option.bind_some, Option.bind_none, tSq, sSet2, seqOf_fl, seqOf_tup, seqOf_ti, hr]
      rfl) (by
      intro d hd S'
      obtain ⟨t, ht, rfl⟩ := List.mem_map.mp hd
      have t6 := List.mem_range.mp ht
      refine ⟨rfl, rfl, fun _ => ?_⟩
      have uC := un_KT C
      have uc := un_KT c
      have i1 := getD_ix (c := C) (t := t) (by omega)
      have i2 := getD_ix (c := c) (t := t) (by omega)
      obtain ⟨b1, b2⟩ := bound (t := t) Cn (by omega) (by omega)
      obtain ⟨b3, b4⟩ := bound (t := t) cn (by omega) (by omega)
      have ml := mulT_int (i := C.getD t 0 - c.getD t 0) (j := ((t : Nat) : Int)) ⟨by omega, by omega⟩
      show E1__law_ways [some (KT C), some (.loc d1), some (.int k), some (.loc d2), some (KT c), some (.int ((t : Nat) : Int)), x6, x7] S' = .ok (.int ((C.getD ((t : Nat) : Int).toNat 0 - c.getD ((t : Nat) : Int).toNat 0) * ((t : Nat) : Int))) S'
      rw [Int.toNat_natCast]
      unfold E1__law_ways
      generalize KT C = K1 at *
      generalize KT c = K2 at *
      generalize ti C = T1 at *
      generalize ti c = T2 at *
      simp only [eVar, eC, eOp, eT, eAnd, eOr, eNot, eIf, eAndV, eOrV, eNotV, eCall, aNil, aCons, aStar, sOf, eTup, eFl, eLoc, eSl, oNone, oSome, iOf, eNeg, eChain, eMt, bOf, eDict0, eRev, eListRg, iZipD, sRaise1, sRaise0, eCallV, List.lookup, R.bind_ok, R.bind_er, R.bind_stuck, R.toS_ok, R.toS_er, R.toS_stuck, SR.next_nx, SR.next_rt, SR.next_er, SR.next_bk, SR.next_ct, SR.next_stuck, sNil, sSeq, sBrk, sCnt, sExp, sRet, sRetN, sIf, sSet, sAsg, sAug, sPar2, sPar3, tN, DL.tTup, DL.tNil, DL.tCons, DL.tSub, iSeq, srcOf_tup, srcOf_fl, srcOf_kl, srcOf_ti, iRange1, iRange2, sFor, startD, List.map_cons, List.map_nil, List.length_cons, List.length_nil, List.replicate, List.cons_append, List.nil_append, List.getElem?_cons_zero, List.getElem?_cons_succ, List.set_cons_zero, List.set_cons_succ, dSub_int, dFdiv_int, dMod_int, dLt_int, dLe_int, dGt_int, dGe_int, dAddI_int, dSubI_int, dIsN_non, isN, dAdd_int, ll0, ll1, ll2, ll3, ll4, ll5, ll6, ll7, ll8, ll9, ll10, ll11, ll12, ll13, ll14, ll15, ll16, ll17, ll18, ll19, ll20, ll21, ll22, ll23, ll24, ll25, ll26, ll27, ll28, ll29, ll30, ll31, ll32, ll33, ll34, ll35, ll36, ll37, ll38, ll39, ll40, Nat.reduceSub, Nat.reduceAdd, Nat.reduceEqDiff, if_true, if_false, ifp_t, ifp_f, reduceIte, Bool.true_eq_false, Bool.false_eq_true, Option.map_some, Option.map_none, Option.bind_some, Option.bind_none, tSq, sSet2, seqOf_fl, seqOf_tup, seqOf_ti, eUn, uC, uc, i1, i2, ml]) (by decide) (by
      intro d hd _
      obtain ⟨t, ht, rfl⟩ := List.mem_map.mp hd
      rfl)
  rw [List.filter_eq_self.mpr (fun _ _ => rfl), List.map_map] at key
  have el : (List.range 6).map ((fun d => match d with
    | D.int i => D.int ((C.getD i.toNat 0 - c.getD i.toNat 0) * i)
    | _ => .non) ∘ fun t : Nat => D.int ((t : Nat) : Int)) = ((List.range 6).map fun t : Nat => (C.getD t 0 - c.getD t 0) * ((t : Nat) : Int)).map D.int := by
    rw [List.map_map]
    rfl
  rw [el] at key
  have sm := sum_fli ((List.range 6).map fun t : Nat => (C.getD t 0 - c.getD t 0) * ((t : Nat) : Int))
  obtain ⟨y5, y7, lp⟩ := in_loop (h := balC 0 C - balC 0 c) hd n10 c6 cn cs hes hm (some (KT C)) (some (.int k)) (List.range 6) lg S x5 x7 (fun t ht => List.mem_range.mp ht) h1 h2 g
  have rg : ∀ (x6 : Option D), iRange1 (aCons (eC (.int 6)) aNil) [some (KT C), some (.loc d1), some (.int k), some (.loc d2), some (KT c), x5, x6, x7] S = .ok ((List.range 6).map fun t => D.int ((t : Nat) : Int), yes) S := fun x6 => by
    simp only [eVar, eC, eOp, eT, eAnd, eOr, eNot, eIf, eAndV, eOrV, eNotV, eCall, aNil, aCons, aStar, sOf, eTup, eFl, eLoc, eSl, oNone, oSome, iOf, eNeg, eChain, eMt, bOf, eDict0, eRev, eListRg, iZipD, sRaise1, sRaise0, eCallV, List.lookup, R.bind_ok, R.bind_er, R.bind_stuck, R.toS_ok, R.toS_er, R.toS_stuck, SR.next_nx, SR.next_rt, SR.next_er, SR.next_bk, SR.next_ct, SR.next_stuck, sNil, sSeq, sBrk, sCnt, sExp, sRet, sRetN, sIf, sSet, sAsg, sAug, sPar2, sPar3, tN, DL.tTup, DL.tNil, DL.tCons, DL.tSub, iSeq, srcOf_tup, srcOf_fl, srcOf_kl, srcOf_ti, iRange1, iRange2, sFor, startD, List.map_cons, List.map_nil, List.length_cons, List.length_nil, List.replicate, List.cons_append, List.nil_append, List.getElem?_cons_zero, List.getElem?_cons_succ, List.set_cons_zero, List.set_cons_succ, dSub_int, dFdiv_int, dMod_int, dLt_int, dLe_int, dGt_int, dGe_int, dAddI_int, dSubI_int, dIsN_non, isN, dAdd_int, ll0, ll1, ll2, ll3, ll4, ll5, ll6, ll7, ll8, ll9, ll10, ll11, ll12, ll13, ll14, ll15, ll16, ll17, ll18, ll19, ll20, ll21, ll22, ll23, ll24, ll25, ll26, ll27, ll28, ll29, ll30, ll31, ll32, ll33, ll34, ll35, ll36, ll37, ll38, ll39, ll40, Nat.reduceSub, Nat.reduceAdd, Nat.reduceEqDiff, if_true, if_false, ifp_t, ifp_f, reduceIte, Bool.true_eq_false, Bool.false_eq_true, Option.map_some, Option.map_none, Option.bind_some, Option.bind_none, tSq, sSet2, seqOf_fl, seqOf_tup, seqOf_ti, hr]
    rfl
  refine ⟨y5, some (.int (balC 0 C - balC 0 c)), y7, ?_⟩
  unfold L2__law_ways
  generalize eLc finFl (iRange1 (aCons (eC (.int 6)) aNil)) (tN 5) [5] cYes E1__law_ways = LC at key ⊢
  generalize hL : L1__law_ways = LL at *
  generalize (List.range 6).map (fun t => D.int ((t : Nat) : Int)) = RG at *
  generalize S.set d2 (.dkt (enc (stepT (balC 0 C - balC 0 c) c v lg (List.range 6)))) = S2 at *
  rw [← us] at lp ⊢
  generalize ((List.range 6).map fun t : Nat => (C.getD t 0 - c.getD t 0) * ((t : Nat) : Int)).sum = SU at *
  generalize D.fl (((List.range 6).map fun t : Nat => (C.getD t 0 - c.getD t 0) * ((t : Nat) : Int)).map D.int) = FL at *
  generalize hI : iRange1 (aCons (eC (.int 6)) aNil) = IR at *
  generalize KT C = K1 at *
  generalize KT c = K2 at *
  simp only [eVar, eC, eOp, eT, eAnd, eOr, eNot, eIf, eAndV, eOrV, eNotV, eCall, aNil, aCons, aStar, sOf, eTup, eFl, eLoc, eSl, oNone, oSome, iOf, eNeg, eChain, eMt, bOf, eDict0, eRev, eListRg, iZipD, sRaise1, sRaise0, eCallV, List.lookup, R.bind_ok, R.bind_er, R.bind_stuck, R.toS_ok, R.toS_er, R.toS_stuck, SR.next_nx, SR.next_rt, SR.next_er, SR.next_bk, SR.next_ct, SR.next_stuck, sNil, sSeq, sBrk, sCnt, sExp, sRet, sRetN, sIf, sSet, sAsg, sAug, sPar2, sPar3, tN, DL.tTup, DL.tNil, DL.tCons, DL.tSub, iSeq, srcOf_tup, srcOf_fl, srcOf_kl, srcOf_ti, iRange1, iRange2, sFor, startD, List.map_cons, List.map_nil, List.length_cons, List.length_nil, List.replicate, List.cons_append, List.nil_append, List.getElem?_cons_zero, List.getElem?_cons_succ, List.set_cons_zero, List.set_cons_succ, dSub_int, dFdiv_int, dMod_int, dLt_int, dLe_int, dGt_int, dGe_int, dAddI_int, dSubI_int, dIsN_non, isN, dAdd_int, ll0, ll1, ll2, ll3, ll4, ll5, ll6, ll7, ll8, ll9, ll10, ll11, ll12, ll13, ll14, ll15, ll16, ll17, ll18, ll19, ll20, ll21, ll22, ll23, ll24, ll25, ll26, ll27, ll28, ll29, ll30, ll31, ll32, ll33, ll34, ll35, ll36, ll37, ll38, ll39, ll40, Nat.reduceSub, Nat.reduceAdd, Nat.reduceEqDiff, if_true, if_false, ifp_t, ifp_f, reduceIte, Bool.true_eq_false, Bool.false_eq_true, Option.map_some, Option.map_none, Option.bind_some, Option.bind_none, tSq, sSet2, seqOf_fl, seqOf_tup, seqOf_ti, key, sm, rg, lp]
theorem out_loop {d1 d2 : Nat} (hd : d1 ≠ d2) {es : En} {k : Int} (n10 : n ≤ 10) (C6 : C.length = 6) (Cn : ∀ x ∈ C, 0 ≤ x) (Cs : C.sum ≤ 10) (ge : GoodE (n + 1) es) (hk : k = C.sum - ((n + 1 : Nat) : Int)) : ∀ (el : En) (lg : En) (S : Sto) (x4 x5 x6 x7 : Option D), (∀ e ∈ el, e ∈ es) → S[d1]? = some (.dkl (enc es)) → S[d2]? = some (.dkt (enc lg)) → GoodE n lg →
    ∃ y4 y5 y6 y7, forD (fun S' => S'[d1]? = some (.dkl (enc es))) (tN 4) L2__law_ways sNil (el.map fun e => KT e.1) [some (KT C), some (.loc d1), some (.int k), some (.loc d2), x4, x5, x6, x7] S = .nx [some (KT C), some (.loc d1), some (.int k), some (.loc d2), y4, y5, y6, y7] (S.set d2 (.dkt (enc (el.foldl (fun lg e => stepT (balC 0 C - balC 0 e.1) e.1 e.2 lg (List.range 6)) lg)))) ∧ GoodE n (el.foldl (fun lg e => stepT (balC 0 C - balC 0 e.1) e.1 e.2 lg (List.range 6)) lg)
  | [], lg, S, x4, x5, x6, x7, _, h1, h2, g => ⟨x4, x5, x6, x7, by
    have ss : S.set d2 (.dkt (enc lg)) = S := by
      obtain ⟨hn, e⟩ := List.getElem?_eq_some_iff.mp h2
      rw [← e]; exact List.set_getElem_self ..
    rw [List.map_nil, forD_nil h1]
    show SR.nx _ S = .nx _ (S.set d2 (.dkt (enc lg)))
    rw [ss], g⟩
  | e :: el, lg, S, x4, x5, x6, x7, he, h1, h2, g => by
    have hm := he e List.mem_cons_self
    obtain ⟨c6, cn, cs⟩ := ge.2 e.1 (List.mem_map.mpr ⟨e, hm, rfl⟩)
    obtain ⟨y5, y6, y7, e1⟩ := mid_turn (n := n) (v := e.2) (k := k) hd n10 C6 Cn Cs c6 cn cs (by rw [cs]; exact hk) ge.1 hm h1 h2 g x5 x6 x7
    have il : d2 < S.length := (List.getElem?_eq_some_iff.mp h2).1
    have g' := good_stepT (h := balC 0 C - balC 0 e.1) (v := e.2) c6 cn cs (List.range 6) lg (fun t ht => List.mem_range.mp ht) g
    obtain ⟨z4, z5, z6, z7, e2, g2⟩ := out_loop hd n10 C6 Cn Cs ge hk el _ (S.set d2 (.dkt (enc (stepT (balC 0 C - balC 0 e.1) e.1 e.2 lg (List.range 6))))) (some (KT e.1)) y5 y6 y7 (fun x hx => he x (List.mem_cons_of_mem _ hx)) (by rw [List.getElem?_set_ne (fun z => hd z.symm)]; exact h1) (List.getElem?_set_self il) g'
    refine ⟨z4, z5, z6, z7, ?_, g2⟩
    rw [List.map_cons, forD_cons (ρ1 := [some (KT C), some (.loc d1), some (.int k), some (.loc d2), some (KT e.1), x5, x6, x7]) (S1 := S) h1 rfl e1, e2, List.set_set]
    rfl
theorem top_turn {S0 J : Sto} {es : En} {k : Int} (n10 : n ≤ 9) (C6 : C.length = 6) (Cn : ∀ x ∈ C, 0 ≤ x) (Cs : C.sum ≤ 10) (ge : GoodE (n + 1) es) (hk : k = C.sum - ((n + 1 : Nat) : Int)) (x3 x4 x5 x6 x7 : Option D) :
    ∃ y3 y4 y5 y6 y7, L3__law_ways [some (KT C), some (.loc (S0.length + J.length)), some (.int k), x3, x4, x5, x6, x7] (S0 ++ (J ++ [.dkt (enc es)])) = .nx [some (KT C), some (.loc (S0.length + (J ++ [Ob.dkl (enc es)]).length)), some (.int k), y3, y4, y5, y6, y7] (S0 ++ ((J ++ [.dkl (enc es)]) ++ [.dkt (enc (stepE (fun c => balC 0 C - balC 0 c) es))])) := by
  have hd : S0.length + J.length ≠ S0.length + J.length + 1 := by omega
  have l0 : (S0 ++ (J ++ [Ob.dkt (enc es)])).length = S0.length + J.length + 1 := by simp; omega
  have q1 : ((S0 ++ (J ++ [Ob.dkt (enc es)])) ++ [Ob.dkt []])[S0.length + J.length]? = some (.dkt (enc es)) := by
    rw [List.append_assoc, List.append_assoc, List.getElem?_append_right (by omega), Nat.add_sub_cancel_left, List.getElem?_append_right (Nat.le_refl _), Nat.sub_self]
    rfl
  have st : ((S0 ++ (J ++ [Ob.dkt (enc es)])) ++ [Ob.dkt []]).set (S0.length + J.length) (.dkl (enc es)) = S0 ++ ((J ++ [.dkl (enc es)]) ++ [.dkt []]) := by
    rw [List.append_assoc, List.append_assoc, List.set_append_right _ _ (by omega), Nat.add_sub_cancel_left, List.set_append_right _ _ (Nat.le_refl _), Nat.sub_self, List.append_assoc]
    rfl
  have q2 : (S0 ++ ((J ++ [Ob.dkl (enc es)]) ++ [Ob.dkt []]))[S0.length + J.length]? = some (.dkl (enc es)) := by
    rw [List.append_assoc, List.getElem?_append_right (by omega), Nat.add_sub_cancel_left, List.getElem?_append_right (Nat.le_refl _), Nat.sub_self]
    rfl
  have q3 : (S0 ++ ((J ++ [Ob.dkl (enc es)]) ++ [Ob.dkt []]))[S0.length + J.length + 1]? = some (.dkt (enc [])) := by
    rw [List.append_assoc, List.getElem?_append_right (by omega), List.getElem?_append_right (by omega)]
    have : S0.length + J.length + 1 - S0.length - J.length = 1 := by omega
    rw [this]
    rfl
  obtain ⟨y4, y5, y6, y7, e, _⟩ := out_loop hd (by omega) C6 Cn Cs ge hk es [] (S0 ++ ((J ++ [.dkl (enc es)]) ++ [.dkt []])) x4 x5 x6 x7 (fun e he => he) q2 q3 ⟨List.nodup_nil, fun c hc => by cases hc⟩
  have es2 : (S0 ++ ((J ++ [Ob.dkl (enc es)]) ++ [Ob.dkt []])).set (S0.length + J.length + 1) (.dkt (enc (es.foldl (fun lg e => stepT (balC 0 C - balC 0 e.1) e.1 e.2 lg (List.range 6)) []))) = S0 ++ ((J ++ [.dkl (enc es)]) ++ [.dkt (enc (stepE (fun c => balC 0 C - balC 0 c) es))]) := by
    rw [List.set_append_right _ _ (by omega), List.set_append_right _ _ (by simp; omega)]
    have : S0.length + J.length + 1 - S0.length - (J ++ [Ob.dkl (enc es)]).length = 0 := by simp; omega
    rw [this]
    rfl
  rw [es2] at e
  have ek : (enc es).map (fun kv => keyTD kv.1) = es.map fun e => KT e.1 := by
    unfold enc
    rw [List.map_map]
    refine List.map_congr_left fun e _ => ?_
    exact key_KT e.1
  have le : (J ++ [Ob.dkl (enc es)]).length = J.length + 1 := by simp
  refine ⟨some (.loc (S0.length + J.length + 1)), y4, y5, y6, y7, ?_⟩
  have ik : iKeysT (eVar 1) [some (KT C), some (.loc (S0.length + J.length)), some (.int k), some (.loc (S0.length + J.length + 1)), x4, x5, x6, x7] (S0 ++ ((J ++ [.dkl (enc es)]) ++ [.dkt []])) = .ok (es.map fun e => KT e.1, fun S' => S'[S0.length + J.length]? = some (.dkl (enc es))) (S0 ++ ((J ++ [.dkl (enc es)]) ++ [.dkt []])) := by
    unfold iKeysT
    have ev : eVar 1 [some (KT C), some (.loc (S0.length + J.length)), some (.int k), some (.loc (S0.length + J.length + 1)), x4, x5, x6, x7] (S0 ++ ((J ++ [.dkl (enc es)]) ++ [.dkt []])) = .ok (.loc (S0.length + J.length)) (S0 ++ ((J ++ [.dkl (enc es)]) ++ [.dkt []])) := rfl
    rw [ev, R.bind_ok]
    simp only [q2]
    rw [ek]
  have lk : sLockT 1 (sFor (iKeysT (eVar 1)) (tN 4) L2__law_ways sNil) [some (KT C), some (.loc (S0.length + J.length)), some (.int k), some (.loc (S0.length + J.length + 1)), x4, x5, x6, x7] ((S0 ++ (J ++ [Ob.dkt (enc es)])) ++ [Ob.dkt []]) = .nx [some (KT C), some (.loc (S0.length + J.length)), some (.int k), some (.loc (S0.length + J.length + 1)), y4, y5, y6, y7] (S0 ++ ((J ++ [.dkl (enc es)]) ++ [.dkt (enc (stepE (fun c => balC 0 C - balC 0 c) es))])) := by
    show (match (((S0 ++ (J ++ [Ob.dkt (enc es)])) ++ [Ob.dkt []] : List Ob)[S0.length + J.length]? : Option Ob) with
      | some (.dkt kvs) => sFor (iKeysT (eVar 1)) (tN 4) L2__law_ways sNil [some (KT C), some (.loc (S0.length + J.length)), some (.int k), some (.loc (S0.length + J.length + 1)), x4, x5, x6, x7] (List.set ((S0 ++ (J ++ [Ob.dkt (enc es)])) ++ [Ob.dkt []]) (S0.length + J.length) (.dkl kvs))
      | _ => .stuck) = _
    rw [q1]
    simp only
    rw [st]
    unfold sFor
    rw [ik, R.toS_ok]
    exact e
  unfold L3__law_ways
  rw [le]
  generalize sLockT 1 (sFor (iKeysT (eVar 1)) (tN 4) L2__law_ways sNil) = LK at *
  have ed : ∀ ρ, eDctT ρ (S0 ++ (J ++ [.dkt (enc es)])) = .ok (.loc (S0.length + J.length + 1)) ((S0 ++ (J ++ [.dkt (enc es)])) ++ [.dkt []]) := fun ρ => by
    unfold eDctT
    rw [l0]
  have ea : S0.length + (J.length + 1) = S0.length + J.length + 1 := by omega
  rw [ea]
  generalize (S0 ++ (J ++ [Ob.dkt (enc es)])) ++ [Ob.dkt []] = SA at *
  generalize S0 ++ (J ++ [Ob.dkt (enc es)]) = SB at *
  generalize S0 ++ ((J ++ [Ob.dkl (enc es)]) ++ [Ob.dkt (enc (stepE (fun c => balC 0 C - balC 0 c) es))]) = SC at *
  generalize KT C = K1 at *
  simp only [eVar, eC, eOp, eT, eAnd, eOr, eNot, eIf, eAndV, eOrV, eNotV, eCall, aNil, aCons, aStar, sOf, eTup, eFl, eLoc, eSl, oNone, oSome, iOf, eNeg, eChain, eMt, bOf, eDict0, eRev, eListRg, iZipD, sRaise1, sRaise0, eCallV, List.lookup, R.bind_ok, R.bind_er, R.bind_stuck, R.toS_ok, R.toS_er, R.toS_stuck, SR.next_nx, SR.next_rt, SR.next_er, SR.next_bk, SR.next_ct, SR.next_stuck, sNil, sSeq, sBrk, sCnt, sExp, sRet, sRetN, sIf, sSet, sAsg, sAug, sPar2, sPar3, tN, DL.tTup, DL.tNil, DL.tCons, DL.tSub, iSeq, srcOf_tup, srcOf_fl, srcOf_kl, srcOf_ti, iRange1, iRange2, sFor, startD, List.map_cons, List.map_nil, List.length_cons, List.length_nil, List.replicate, List.cons_append, List.nil_append, List.getElem?_cons_zero, List.getElem?_cons_succ, List.set_cons_zero, List.set_cons_succ, dSub_int, dFdiv_int, dMod_int, dLt_int, dLe_int, dGt_int, dGe_int, dAddI_int, dSubI_int, dIsN_non, isN, dAdd_int, ll0, ll1, ll2, ll3, ll4, ll5, ll6, ll7, ll8, ll9, ll10, ll11, ll12, ll13, ll14, ll15, ll16, ll17, ll18, ll19, ll20, ll21, ll22, ll23, ll24, ll25, ll26, ll27, ll28, ll29, ll30, ll31, ll32, ll33, ll34, ll35, ll36, ll37, ll38, ll39, ll40, Nat.reduceSub, Nat.reduceAdd, Nat.reduceEqDiff, if_true, if_false, ifp_t, ifp_f, reduceIte, Bool.true_eq_false, Bool.false_eq_true, Option.map_some, Option.map_none, Option.bind_some, Option.bind_none, tSq, sSet2, seqOf_fl, seqOf_tup, seqOf_ti, ed, lk]
theorem top_loop (C6 : C.length = 6) (Cn : ∀ x ∈ C, 0 ≤ x) (Cs : C.sum ≤ 10) {S0 : Sto} : ∀ (m : Nat) (k : Nat) (es : En) (J : Sto) (x2 x3 x4 x5 x6 x7 : Option D), GoodE m es → ((k : Nat) : Int) = C.sum - ((m : Nat) : Int) →
    ∃ es' J' y2 y3 y4 y5 y6 y7, forD yes (tN 2) L3__law_ways sNil ((List.range' k m).map fun j => D.int ((j : Nat) : Int)) [some (KT C), some (.loc (S0.length + J.length)), x2, x3, x4, x5, x6, x7] (S0 ++ (J ++ [.dkt (enc es)])) = .nx [some (KT C), some (.loc (S0.length + J'.length)), y2, y3, y4, y5, y6, y7] (S0 ++ (J' ++ [.dkt (enc es')])) ∧ GoodE 0 es' ∧ phi (fun c => wI 0 (balC 0 C - balC 0 c) c) es' = phi (fun c => wI m (balC 0 C - balC 0 c) c) es
  | 0, k, es, J, x2, x3, x4, x5, x6, x7, g, _ => ⟨es, J, x2, x3, x4, x5, x6, x7, by
    show forD yes _ _ _ [] _ _ = _
    rw [forD_nil trivial]
    rfl, g, rfl⟩
  | m + 1, k, es, J, x2, x3, x4, x5, x6, x7, g, hk => by
    obtain ⟨y3, y4, y5, y6, y7, e1⟩ := top_turn (n := m) (S0 := S0) (J := J) (k := ((k : Nat) : Int)) (by omega) C6 Cn Cs g hk x3 x4 x5 x6 x7
    obtain ⟨g1, p1⟩ := step_ok (B := balC 0 C) g
    obtain ⟨es', J', z2, z3, z4, z5, z6, z7, e2, g2, p2⟩ := top_loop C6 Cn Cs m (k + 1) (stepE (fun c => balC 0 C - balC 0 c) es) (J ++ [.dkl (enc es)]) (some (.int ((k : Nat) : Int))) y3 y4 y5 y6 y7 g1 (by omega)
    refine ⟨es', J', z2, z3, z4, z5, z6, z7, ?_, g2, by rw [p2, p1]⟩
    rw [List.range'_succ, List.map_cons, forD_cons (ρ1 := [some (KT C), some (.loc (S0.length + J.length)), some (.int ((k : Nat) : Int)), x3, x4, x5, x6, x7]) (S1 := S0 ++ (J ++ [.dkt (enc es)])) trivial rfl e1, e2]
theorem ways_okD (C6 : C.length = 6) (Cn : ∀ x ∈ C, 0 ≤ x) (hn : n ≤ 10) (Cs : C.sum = ((n : Nat) : Int)) (S : Sto) : F__law_ways [KT C] S = .ok (.int ((((cmpl n 0 C).length : Nat)) : Int)) S := by
  have hst : startD 8 [KT C] = [some (KT C), none, none, none, none, none, none, none] := rfl
  have ge : GoodE n [(C, 1)] := ⟨by simp, fun c hc => by
    have : c = C := by simpa using hc
    rw [this]; exact ⟨C6, Cn, Cs⟩⟩
  obtain ⟨es', J', y2, y3, y4, y5, y6, y7, lp, g0, p0⟩ := top_loop C6 Cn (by omega) (S0 := S) n 0 [(C, 1)] [] none none none none none none ge (by omega)
  have pe : phi (fun c => wI n (balC 0 C - balC 0 c) c) [(C, 1)] = (((cmpl n 0 C).length : Nat) : Int) := by
    simp only [phi, List.map_cons, List.map_nil, List.sum_cons, List.sum_nil, Int.one_mul, Int.add_zero, Int.sub_self]
    rfl
  have last := g0.last (fun c => wI 0 (balC 0 C - balC 0 c) c)
  have w0 : wI 0 (balC 0 C - balC 0 [0, 0, 0, 0, 0, 0]) [0, 0, 0, 0, 0, 0] = 1 := rfl
  rw [p0, pe, w0, Int.mul_one] at last
  have dk : S.length + ([] : Sto).length = S.length := rfl
  rw [dk, List.nil_append] at lp
  have un := un_KT C
  have sm : ∀ S, bSum2 [ti C] S = .ok (.int ((n : Nat) : Int)) S := fun S => by rw [ktp_sum, Cs]
  have hr : ((-(2 ^ 62) : Int) ≤ ((n : Nat) : Int) ∧ ((n : Nat) : Int) < 2 ^ 62) = True := by simp; omega
  have di : eDisp1T (eVar 0) (eC (.int 1)) [some (KT C), none, none, none, none, none, none, none] S = .ok (.loc S.length) (S ++ [.dkt (enc [(C, 1)])]) := by
    show (match keyT (KT C), (S ++ [Ob.dkt []])[S.length]? with
      | some key, some (.dkt []) => R.ok (D.loc S.length) ((S ++ [Ob.dkt []]).set S.length (.dkt [(key, .int 1)]))
      | _, _ => .stuck) = _
    have q : (S ++ [Ob.dkt []])[S.length]? = some (.dkt []) := by simp
    rw [KT_key, q]
    simp only
    rw [List.set_append_right _ _ (Nat.le_refl _), Nat.sub_self]
    rfl
  have q9 : (S ++ (J' ++ [Ob.dkt (enc es')]))[S.length + J'.length]? = some (.dkt (enc es')) := by
    rw [List.getElem?_append_right (by omega), Nat.add_sub_cancel_left, List.getElem?_append_right (Nat.le_refl _), Nat.sub_self]
    rfl
  have e9 : getTL (S ++ (J' ++ [Ob.dkt (enc es')])) (.loc (S.length + J'.length)) = some (enc es') := by
    show (match (S ++ (J' ++ [Ob.dkt (enc es')]))[S.length + J'.length]? with
      | some (.dkt kvs) => some kvs
      | some (.dkl kvs) => some kvs
      | _ => none) = _
    rw [q9]
  have gs : (getTL (S ++ (J' ++ [Ob.dkt (enc es')])) (.loc (S.length + J'.length))).isSome = true := by rw [e9]; rfl
  have t6 : ∀ S, (ifp ([D.int 0, .int 0, .int 0, .int 0, .int 0, .int 0].length ≤ sizeLine) (R.ok (D.ktp [D.int 0, .int 0, .int 0, .int 0, .int 0, .int 0]) S) .stuck : R D) = .ok (D.ktp [D.int 0, .int 0, .int 0, .int 0, .int 0, .int 0]) S := fun S => ifp_pos (Nat.le_trans (show 6 ≤ 10 by omega) (by decide))
  have ge2 : dGet2 (.loc (S.length + J'.length)) (KT [0, 0, 0, 0, 0, 0]) (.int 0) (S ++ (J' ++ [Ob.dkt (enc es')])) = .ok (.int (((cmpl n 0 C).length : Nat) : Int)) (S ++ (J' ++ [Ob.dkt (enc es')])) := by
    unfold dGet2
    rw [KT_key, e9]
    simp only
    rw [look_enc, last]
  have ge3 : dGet2 (.loc (S.length + J'.length)) (D.ktp [D.int 0, .int 0, .int 0, .int 0, .int 0, .int 0]) (.int 0) (S ++ (J' ++ [.dkt (enc es')])) = .ok (.int (((cmpl n 0 C).length : Nat) : Int)) (S ++ (J' ++ [.dkt (enc es')])) := ge2
  have rg : rangeD 0 n = (List.range' 0 n).map fun j => D.int ((j : Nat) : Int) := by
    unfold rangeD
    rw [List.range_eq_range']
    refine List.map_congr_left fun j _ => ?_
    rw [Int.zero_add]
  have body : B__law_ways [some (KT C), none, none, none, none, none, none, none] S = .rt (.int (((cmpl n 0 C).length : Nat) : Int)) (S ++ (J' ++ [.dkt (enc es')])) := by
    unfold B__law_ways
    generalize hD : eDisp1T (eVar 0) (eC (.int 1)) = DI at *
    generalize hL : L3__law_ways = LL at *
    rw [← rg] at lp
    generalize S ++ [Ob.dkt (enc [(C, 1)])] = SA at *
    generalize S ++ (J' ++ [Ob.dkt (enc es')]) = SB at *
    generalize KT C = K1 at *
    generalize ti C = TC at *
    simp only [eVar, eC, eOp, eT, eAnd, eOr, eNot, eIf, eAndV, eOrV, eNotV, eCall, aNil, aCons, aStar, sOf, eTup, eFl, eLoc, eSl, oNone, oSome, iOf, eNeg, eChain, eMt, bOf, eDict0, eRev, eListRg, iZipD, sRaise1, sRaise0, eCallV, List.lookup, R.bind_ok, R.bind_er, R.bind_stuck, R.toS_ok, R.toS_er, R.toS_stuck, SR.next_nx, SR.next_rt, SR.next_er, SR.next_bk, SR.next_ct, SR.next_stuck, sNil, sSeq, sBrk, sCnt, sExp, sRet, sRetN, sIf, sSet, sAsg, sAug, sPar2, sPar3, tN, DL.tTup, DL.tNil, DL.tCons, DL.tSub, iSeq, srcOf_tup, srcOf_fl, srcOf_kl, srcOf_ti, iRange1, iRange2, sFor, startD, List.map_cons, List.map_nil, List.length_cons, List.length_nil, List.replicate, List.cons_append, List.nil_append, List.getElem?_cons_zero, List.getElem?_cons_succ, List.set_cons_zero, List.set_cons_succ, dSub_int, dFdiv_int, dMod_int, dLt_int, dLe_int, dGt_int, dGe_int, dAddI_int, dSubI_int, dIsN_non, isN, dAdd_int, ll0, ll1, ll2, ll3, ll4, ll5, ll6, ll7, ll8, ll9, ll10, ll11, ll12, ll13, ll14, ll15, ll16, ll17, ll18, ll19, ll20, ll21, ll22, ll23, ll24, ll25, ll26, ll27, ll28, ll29, ll30, ll31, ll32, ll33, ll34, ll35, ll36, ll37, ll38, ll39, ll40, Nat.reduceSub, Nat.reduceAdd, Nat.reduceEqDiff, if_true, if_false, ifp_t, ifp_f, reduceIte, Bool.true_eq_false, Bool.false_eq_true, Option.map_some, Option.map_none, Option.bind_some, Option.bind_none, tSq, sSet2, seqOf_fl, seqOf_tup, seqOf_ti, di, eUn, un, sm, hr, Int.toNat_natCast, lp, eGet2, gs, eTupK, t6, ge3]
  have := fnC_trunc (n := 8) (m := 1) (B := B__law_ways) (ds := [KT C]) (S := S) (S' := S ++ (J' ++ [.dkt (enc es')])) rfl (by rw [hst]; exact body) (by simp) (Trunc.same _ _) rfl
  rw [List.take_left] at this
  exact this
end
theorem fct_le : ((List.range 11).all fun n => decide (fct n < 10 ^ 7)) = true := by decide
theorem fct_few {n : Nat} (h : n ≤ 10) : fct n < 10 ^ 7 := of_decide_eq_true (List.all_eq_true.mp fct_le n (List.mem_range.mpr (by omega)))
theorem fact_ok {n : Nat} (hn : n ≤ 10) (S : Sto) : F__law_factorial [.int ((n : Nat) : Int)] S = .ok (.int (fct n)) S := by
  refine fnC_rt rfl ?_ rfl
  have hst : startD 3 [D.int ((n : Nat) : Int)] = [some (.int ((n : Nat) : Int)), none, none] := rfl
  rw [hst]
  obtain ⟨ρ', S', ⟨⟨x2, rfl⟩, hS⟩, hf⟩ := forD_all (T := tN 2) (B := L1__law_factorial) (Z := sNil) (fun i ρ S' => (∃ x2, ρ = [some (.int ((n : Nat) : Int)), some (.int (fct i)), x2]) ∧ S' = S)
    (rangeD 0 n) 0 [some (.int ((n : Nat) : Int)), some (.int 1), none] S ⟨⟨none, rfl⟩, rfl⟩ (by
      rintro j d ρ S1 hj ⟨⟨x2, rfl⟩, rfl⟩
      obtain ⟨hj', rfl⟩ := rangeD_get hj
      rw [Nat.zero_add]
      have b := fct_few (n := j) (by omega)
      have p := fct_pos j
      have ml := mulT_int (i := fct j) (j := 0 + ((j : Nat) : Int) + 1) ⟨by omega, by omega⟩
      have e : fct j * (0 + ((j : Nat) : Int) + 1) = fct (j + 1) := by
        have e1 : (0 : Int) + ((j : Nat) : Int) + 1 = ((j + 1 : Nat) : Int) := by omega
        rw [e1, Int.mul_comm]
        rfl
      rw [e] at ml
      refine ⟨_, _, _, _, rfl, .inl ?_, ⟨some (.int (0 + ((j : Nat) : Int))), rfl⟩, rfl⟩
      unfold L1__law_factorial
      generalize fct (j + 1) = F1 at *
      generalize fct j = F0 at *
      simp only [eVar, eC, eOp, eT, eAnd, eOr, eNot, eIf, eAndV, eOrV, eNotV, eCall, aNil, aCons, aStar, sOf, eTup, eFl, eLoc, eSl, oNone, oSome, iOf, eNeg, eChain, eMt, bOf, eDict0, eRev, eListRg, iZipD, sRaise1, sRaise0, eCallV, List.lookup, R.bind_ok, R.bind_er, R.bind_stuck, R.toS_ok, R.toS_er, R.toS_stuck, SR.next_nx, SR.next_rt, SR.next_er, SR.next_bk, SR.next_ct, SR.next_stuck, sNil, sSeq, sBrk, sCnt, sExp, sRet, sRetN, sIf, sSet, sAsg, sAug, sPar2, sPar3, tN, DL.tTup, DL.tNil, DL.tCons, DL.tSub, iSeq, srcOf_tup, srcOf_fl, srcOf_kl, srcOf_ti, iRange1, iRange2, sFor, startD, List.map_cons, List.map_nil, List.length_cons, List.length_nil, List.replicate, List.cons_append, List.nil_append, List.getElem?_cons_zero, List.getElem?_cons_succ, List.set_cons_zero, List.set_cons_succ, dSub_int, dFdiv_int, dMod_int, dLt_int, dLe_int, dGt_int, dGe_int, dAddI_int, dSubI_int, dIsN_non, isN, dAdd_int, ll0, ll1, ll2, ll3, ll4, ll5, ll6, ll7, ll8, ll9, ll10, ll11, ll12, ll13, ll14, ll15, ll16, ll17, ll18, ll19, ll20, ll21, ll22, ll23, ll24, ll25, ll26, ll27, ll28, ll29, ll30, ll31, ll32, ll33, ll34, ll35, ll36, ll37, ll38, ll39, ll40, Nat.reduceSub, Nat.reduceAdd, Nat.reduceEqDiff, if_true, if_false, ifp_t, ifp_f, reduceIte, Bool.true_eq_false, Bool.false_eq_true, Option.map_some, Option.map_none, Option.bind_some, Option.bind_none, tSq, sSet2, seqOf_fl, seqOf_tup, seqOf_ti, ml])
  rw [rangeD_len, Nat.zero_add] at hf
  have hr : ((-(2 ^ 62) : Int) ≤ ((n : Nat) : Int) ∧ ((n : Nat) : Int) < 2 ^ 62) = True := by simp; omega
  rw [hS] at hf
  unfold B__law_factorial
  generalize hL : L1__law_factorial = LL at *
  generalize fct n = FN at *
  simp only [eVar, eC, eOp, eT, eAnd, eOr, eNot, eIf, eAndV, eOrV, eNotV, eCall, aNil, aCons, aStar, sOf, eTup, eFl, eLoc, eSl, oNone, oSome, iOf, eNeg, eChain, eMt, bOf, eDict0, eRev, eListRg, iZipD, sRaise1, sRaise0, eCallV, List.lookup, R.bind_ok, R.bind_er, R.bind_stuck, R.toS_ok, R.toS_er, R.toS_stuck, SR.next_nx, SR.next_rt, SR.next_er, SR.next_bk, SR.next_ct, SR.next_stuck, sNil, sSeq, sBrk, sCnt, sExp, sRet, sRetN, sIf, sSet, sAsg, sAug, sPar2, sPar3, tN, DL.tTup, DL.tNil, DL.tCons, DL.tSub, iSeq, srcOf_tup, srcOf_fl, srcOf_kl, srcOf_ti, iRange1, iRange2, sFor, startD, List.map_cons, List.map_nil, List.length_cons, List.length_nil, List.replicate, List.cons_append, List.nil_append, List.getElem?_cons_zero, List.getElem?_cons_succ, List.set_cons_zero, List.set_cons_succ, dSub_int, dFdiv_int, dMod_int, dLt_int, dLe_int, dGt_int, dGe_int, dAddI_int, dSubI_int, dIsN_non, isN, dAdd_int, ll0, ll1, ll2, ll3, ll4, ll5, ll6, ll7, ll8, ll9, ll10, ll11, ll12, ll13, ll14, ll15, ll16, ll17, ll18, ll19, ll20, ll21, ll22, ll23, ll24, ll25, ll26, ll27, ll28, ll29, ll30, ll31, ll32, ll33, ll34, ll35, ll36, ll37, ll38, ll39, ll40, Nat.reduceSub, Nat.reduceAdd, Nat.reduceEqDiff, if_true, if_false, ifp_t, ifp_f, reduceIte, Bool.true_eq_false, Bool.false_eq_true, Option.map_some, Option.map_none, Option.bind_some, Option.bind_none, tSq, sSet2, seqOf_fl, seqOf_tup, seqOf_ti, hr, Int.toNat_natCast, hf]
theorem due_loop (x0 x1 x2 x3 x4 x7 x8 : Option D) (S : Sto) : ∀ (cs : List Int) (q d : Int) (x6 : Option D), (∀ x ∈ cs, 0 ≤ x ∧ x ≤ 10) → d = q * pfc cs →
    ∃ y6, forD yes (tN 6) L1_law sNil (cs.map D.int) [x0, x1, x2, x3, x4, some (.int d), x6, x7, x8] S = .nx [x0, x1, x2, x3, x4, some (.int q), y6, x7, x8] S
  | [], q, d, x6, _, hd => ⟨x6, by
    rw [List.map_nil, forD_nil trivial, hd]
    show SR.nx _ S = _
    rw [pfc, Int.mul_one]⟩
  | x :: cs, q, d, x6, hc, hd => by
    obtain ⟨h0, h10⟩ := hc x List.mem_cons_self
    obtain ⟨y6, e⟩ := due_loop x0 x1 x2 x3 x4 x7 x8 S cs q (q * pfc cs) (some (.int x)) (fun z hz => hc z (List.mem_cons_of_mem _ hz)) rfl
    have b := fct_few (n := x.toNat) (by omega)
    have p := fct_pos x.toNat
    have fo := fact_ok (n := x.toNat) (by omega)
    have ex : ((x.toNat : Nat) : Int) = x := by omega
    rw [ex] at fo
    have dv := fdiv_int (i := d) (j := fct x.toNat) p (by omega)
    have e2 : d / fct x.toNat = q * pfc cs := by
      rw [hd, pfc, Int.mul_comm (fct x.toNat), ← Int.mul_assoc, Int.mul_ediv_cancel _ (by omega)]
    rw [e2] at dv
    refine ⟨y6, ?_⟩
    rw [List.map_cons, forD_cons (ρ1 := [x0, x1, x2, x3, x4, some (.int d), some (.int x), x7, x8]) (S1 := S) (ρ2 := [x0, x1, x2, x3, x4, some (.int (q * pfc cs)), some (.int x), x7, x8]) (S2 := S) trivial rfl (by
      unfold L1_law
      generalize fct x.toNat = FX at *
      generalize q * pfc cs = QP at *
      simp only [eVar, eC, eOp, eT, eAnd, eOr, eNot, eIf, eAndV, eOrV, eNotV, eCall, aNil, aCons, aStar, sOf, eTup, eFl, eLoc, eSl, oNone, oSome, iOf, eNeg, eChain, eMt, bOf, eDict0, eRev, eListRg, iZipD, sRaise1, sRaise0, eCallV, List.lookup, R.bind_ok, R.bind_er, R.bind_stuck, R.toS_ok, R.toS_er, R.toS_stuck, SR.next_nx, SR.next_rt, SR.next_er, SR.next_bk, SR.next_ct, SR.next_stuck, sNil, sSeq, sBrk, sCnt, sExp, sRet, sRetN, sIf, sSet, sAsg, sAug, sPar2, sPar3, tN, DL.tTup, DL.tNil, DL.tCons, DL.tSub, iSeq, srcOf_tup, srcOf_fl, srcOf_kl, srcOf_ti, iRange1, iRange2, sFor, startD, List.map_cons, List.map_nil, List.length_cons, List.length_nil, List.replicate, List.cons_append, List.nil_append, List.getElem?_cons_zero, List.getElem?_cons_succ, List.set_cons_zero, List.set_cons_succ, dSub_int, dFdiv_int, dMod_int, dLt_int, dLe_int, dGt_int, dGe_int, dAddI_int, dSubI_int, dIsN_non, isN, dAdd_int, ll0, ll1, ll2, ll3, ll4, ll5, ll6, ll7, ll8, ll9, ll10, ll11, ll12, ll13, ll14, ll15, ll16, ll17, ll18, ll19, ll20, ll21, ll22, ll23, ll24, ll25, ll26, ll27, ll28, ll29, ll30, ll31, ll32, ll33, ll34, ll35, ll36, ll37, ll38, ll39, ll40, Nat.reduceSub, Nat.reduceAdd, Nat.reduceEqDiff, if_true, if_false, ifp_t, ifp_f, reduceIte, Bool.true_eq_false, Bool.false_eq_true, Option.map_some, Option.map_none, Option.bind_some, Option.bind_none, tSq, sSet2, seqOf_fl, seqOf_tup, seqOf_ti, fo, dv]), e]
section
variable {c : List Int} {n : Nat}
theorem cmpl_few (n0 : 0 < n) (n10 : n ≤ 10) (c6 : c.length = 6) (cn : ∀ x ∈ c, 0 ≤ x) (cs : c.sum = ((n : Nat) : Int)) : (cmpl n 0 c).length < 2 ^ 70 := by
  have e := counted_all c6 cn cs n0
  have b := count_rows_le cn (by rw [cs]; omega)
  have bl := bal_le c 0 cn
  rw [cs] at e bl
  have p16 : (16 : Int) ^ 15 = 2 ^ 60 := by decide
  have m1 : crF c * max 0 (balC 0 c) ≤ 2 ^ 60 * 10 := Int.mul_le_mul (by omega) (by omega) (by omega) (by decide)
  have m2 : crF c * max 0 (balC 0 c) / ((n : Nat) : Int) ≤ crF c * max 0 (balC 0 c) := Int.ediv_le_self _ (Int.mul_nonneg b.1 (by omega))
  rw [e] at m2
  have : (((cmpl n 0 c).length : Nat) : Int) ≤ 2 ^ 60 * 10 := Int.le_trans m2 m1
  have : (2 : Int) ^ 60 * 10 < 2 ^ 70 := by decide
  omega
theorem again_ok (n0 : 0 < n) (n10 : n ≤ 10) (c6 : c.length = 6) (cn : ∀ x ∈ c, 0 ≤ x) (cs : c.sum = ((n : Nat) : Int)) (x0 x1 x2 x6 x7 x8 : Option D) (S : Sto) :
    ∃ y8, L2_law [x0, x1, x2, some (KT c), some (.str (shD (ti c))), some (.int (crF c)), x6, x7, x8] S = .nx [x0, x1, x2, some (KT c), some (.str (shD (ti c))), some (.int (crF c)), x6, x7, y8] S := by
  have un := un_KT c
  have cr := count_rows_ok cn (by omega)
  have cy := count_ready_ok n0 (by omega) c6 cn cs
  have wy := ways_okD c6 cn n10 cs
  have b := count_rows_le cn (by omega)
  have fw := cmpl_few n0 n10 c6 cn cs
  have p16 : (16 : Int) ^ 15 = 2 ^ 60 := by decide
  have pk : (2 : Int) ^ 70 < 2 ^ 1000 := by decide
  have pn : (2 : Nat) ^ 70 < 2 ^ 1000 := by decide
  have pm : (2 : Int) ^ 60 < 2 ^ 1000 := by decide
  have rp : ∀ S, bRepr [.fl [.int (crF c), .int (((cmpl n 0 c).length : Nat) : Int)]] S = .ok (.str (shD (.fl [.int (crF c), .int (((cmpl n 0 c).length : Nat) : Int)]))) S := repr_s (shw_fl (b := 0) (k := 0) fun d hd => by
    simp only [List.mem_cons, List.not_mem_nil, or_false] at hd
    rcases hd with rfl | rfl
    · exact shw_int (by omega)
    · exact shw_int (by omega)) (by simp) (by decide)
  have rc := repr_s (d := ti c) (shw_ti fun t ht => by
    have h1 := cn t ht
    have h2 := mem_le_sum cn ht
    rw [cs] at h2
    have big := big9
    omega) (by rw [c6]; decide) (by decide)
  have q1 : ∀ (s : Str) S, dEq true (.str s) (.str s) S = .ok (.bl false) S := fun s S => by rw [dEq_str]; simp
  have f2 : ∀ (a b : D) S, (ifp ([a, b].length ≤ sizeLine) (R.ok (D.fl [a, b]) S) .stuck : R D) = .ok (.fl [a, b]) S := fun a b S => ifp_pos (Nat.le_trans (show 2 ≤ 10 by omega) (by decide))
  refine ⟨some (.fl [.int (crF c), .int (((cmpl n 0 c).length : Nat) : Int)]), ?_⟩
  unfold L2_law
  generalize shD (ti c) = SC at *
  generalize shD (.fl [.int (crF c), .int (((cmpl n 0 c).length : Nat) : Int)]) = SF at *
  generalize crF c = CF at *
  generalize (((cmpl n 0 c).length : Nat) : Int) = CL at *
  generalize KT c = K1 at *
  generalize ti c = TC at *
  simp only [eVar, eC, eOp, eT, eAnd, eOr, eNot, eIf, eAndV, eOrV, eNotV, eCall, aNil, aCons, aStar, sOf, eTup, eFl, eLoc, eSl, oNone, oSome, iOf, eNeg, eChain, eMt, bOf, eDict0, eRev, eListRg, iZipD, sRaise1, sRaise0, eCallV, List.lookup, R.bind_ok, R.bind_er, R.bind_stuck, R.toS_ok, R.toS_er, R.toS_stuck, SR.next_nx, SR.next_rt, SR.next_er, SR.next_bk, SR.next_ct, SR.next_stuck, sNil, sSeq, sBrk, sCnt, sExp, sRet, sRetN, sIf, sSet, sAsg, sAug, sPar2, sPar3, tN, DL.tTup, DL.tNil, DL.tCons, DL.tSub, iSeq, srcOf_tup, srcOf_fl, srcOf_kl, srcOf_ti, iRange1, iRange2, sFor, startD, List.map_cons, List.map_nil, List.length_cons, List.length_nil, List.replicate, List.cons_append, List.nil_append, List.getElem?_cons_zero, List.getElem?_cons_succ, List.set_cons_zero, List.set_cons_succ, dSub_int, dFdiv_int, dMod_int, dLt_int, dLe_int, dGt_int, dGe_int, dAddI_int, dSubI_int, dIsN_non, isN, dAdd_int, ll0, ll1, ll2, ll3, ll4, ll5, ll6, ll7, ll8, ll9, ll10, ll11, ll12, ll13, ll14, ll15, ll16, ll17, ll18, ll19, ll20, ll21, ll22, ll23, ll24, ll25, ll26, ll27, ll28, ll29, ll30, ll31, ll32, ll33, ll34, ll35, ll36, ll37, ll38, ll39, ll40, Nat.reduceSub, Nat.reduceAdd, Nat.reduceEqDiff, if_true, if_false, ifp_t, ifp_f, reduceIte, Bool.true_eq_false, Bool.false_eq_true, Option.map_some, Option.map_none, Option.bind_some, Option.bind_none, tSq, sSet2, seqOf_fl, seqOf_tup, seqOf_ti, eUn, un, cr, cy, f2, rp, wy, q1, rc]
end
theorem law_ok : LawOk F_law := by
  refine law_std (N := 8) (cost := 40) (fun sc ρ => ∃ x2 x3 x4 x5 x6 x7 x8, ρ = [sc, some (.loc 1), x2, x3, x4, x5, x6, x7, x8]) (by decide) (by decide) (fun sc => ⟨_, _, _, _, _, _, _, rfl⟩) (by decide) ?_
  rintro sc d ρ S n0 ⟨x2, x3, x4, x5, x6, x7, x8, rfl⟩ hS hn
  obtain ⟨c, n, S1, e1, c6, cn, cs, n1, n10, s1⟩ := counts_ok hS (by omega)
  have un := un_KT c
  have rc := repr_s (d := ti c) (shw_ti fun t ht => by
    have h1 := cn t ht
    have h2 := mem_le_sum cn ht
    rw [cs] at h2
    have big := big9
    omega) (by rw [c6]; decide) (by decide)
  have sm := ti_sum c
  rw [cs] at sm
  have fo := fact_ok n10
  have hf := crF_fct cn
  rw [cs, Int.toNat_natCast] at hf
  obtain ⟨y6, dl⟩ := due_loop sc (some (.loc 1)) (some d) (some (KT c)) (some (.str (shD (ti c)))) x7 x8 S1 c (crF c) (fct n) x6 (fun x hx => ⟨cn x hx, by
    have h2 := mem_le_sum cn hx
    omega⟩) hf.symm
  obtain ⟨ρ1, ⟨y7, y8, rfl⟩, f1⟩ := forD_pure (T := tN 7) (B := L2_law) (Z := sNil) (S := S1) (fun ρ => ∃ y7 y8, ρ = [sc, some (.loc 1), some d, some (KT c), some (.str (shD (ti c))), some (.int (crF c)), y6, y7, y8])
    (rangeD 0 2) [sc, some (.loc 1), some d, some (KT c), some (.str (shD (ti c))), some (.int (crF c)), y6, x7, x8] ⟨_, _, rfl⟩ (by
      rintro v hv ρ ⟨y7, y8, rfl⟩
      obtain ⟨z8, e⟩ := again_ok n1 n10 c6 cn cs sc (some (.loc 1)) (some d) y6 (some v) y8 S1
      exact ⟨_, _, rfl, .inl e, _, _, rfl⟩)
  have e1' : F__law_counts [.loc 1, .int 10] S = .ok (KT c) S1 := e1
  suffices hfin : L3_law [sc, some (.loc 1), some d, x3, x4, x5, x6, x7, x8] S = .nx [sc, some (.loc 1), some d, some (KT c), some (.str (shD (ti c))), some (.int (crF c)), y6, y7, y8] S1 from ⟨_, _, hfin, ⟨_, _, _, _, _, _, _, rfl⟩, s1.mono (by omega)⟩
  have sr : ∀ ρ S, iSeq (eUn (eVar 3)) (sc :: some (.loc 1) :: some d :: some (KT c) :: ρ) S = .ok (c.map D.int, yes) S := fun ρ S => by
    show srcOf (ti c) S = _
    rw [srcOf_ti]
  unfold L3_law
  have r2 : ∀ ρ S, iRange1 (aCons (eC (.int 2)) aNil) ρ S = .ok (rangeD 0 2, yes) S := fun ρ S => by
    have hr : ((-(2 ^ 62) : Int) ≤ ((2 : Nat) : Int) ∧ ((2 : Nat) : Int) < 2 ^ 62) = True := by simp
    have h2 : (eC (.int 2)) = (eC (.int ((2 : Nat) : Int))) := rfl
    rw [h2]
    generalize hk : (2 : Nat) = K at *
    simp only [eVar, eC, eOp, eT, eAnd, eOr, eNot, eIf, eAndV, eOrV, eNotV, eCall, aNil, aCons, aStar, sOf, eTup, eFl, eLoc, eSl, oNone, oSome, iOf, eNeg, eChain, eMt, bOf, eDict0, eRev, eListRg, iZipD, sRaise1, sRaise0, eCallV, List.lookup, R.bind_ok, R.bind_er, R.bind_stuck, R.toS_ok, R.toS_er, R.toS_stuck, SR.next_nx, SR.next_rt, SR.next_er, SR.next_bk, SR.next_ct, SR.next_stuck, sNil, sSeq, sBrk, sCnt, sExp, sRet, sRetN, sIf, sSet, sAsg, sAug, sPar2, sPar3, tN, DL.tTup, DL.tNil, DL.tCons, DL.tSub, iSeq, srcOf_tup, srcOf_fl, srcOf_kl, srcOf_ti, iRange1, iRange2, sFor, startD, List.map_cons, List.map_nil, List.length_cons, List.length_nil, List.replicate, List.cons_append, List.nil_append, List.getElem?_cons_zero, List.getElem?_cons_succ, List.set_cons_zero, List.set_cons_succ, dSub_int, dFdiv_int, dMod_int, dLt_int, dLe_int, dGt_int, dGe_int, dAddI_int, dSubI_int, dIsN_non, isN, dAdd_int, ll0, ll1, ll2, ll3, ll4, ll5, ll6, ll7, ll8, ll9, ll10, ll11, ll12, ll13, ll14, ll15, ll16, ll17, ll18, ll19, ll20, ll21, ll22, ll23, ll24, ll25, ll26, ll27, ll28, ll29, ll30, ll31, ll32, ll33, ll34, ll35, ll36, ll37, ll38, ll39, ll40, Nat.reduceSub, Nat.reduceAdd, Nat.reduceEqDiff, if_true, if_false, ifp_t, ifp_f, reduceIte, Bool.true_eq_false, Bool.false_eq_true, Option.map_some, Option.map_none, Option.bind_some, Option.bind_none, tSq, sSet2, seqOf_fl, seqOf_tup, seqOf_ti, hr, Int.toNat_natCast]
  generalize hI : iRange1 (aCons (eC (.int 2)) aNil) = IR at *
  generalize hJ : iSeq (eUn (eVar 3)) = IS at *
  generalize hL1 : L1_law = LL1 at *
  generalize hL2 : L2_law = LL2 at *
  generalize shD (ti c) = SC at *
  generalize crF c = CF at *
  generalize fct n = FN at *
  generalize c.map D.int = CM at *
  generalize rangeD 0 2 = R2 at *
  generalize KT c = K1 at *
  generalize ti c = TC at *
  simp only [eVar, eC, eOp, eT, eAnd, eOr, eNot, eIf, eAndV, eOrV, eNotV, eCall, aNil, aCons, aStar, sOf, eTup, eFl, eLoc, eSl, oNone, oSome, iOf, eNeg, eChain, eMt, bOf, eDict0, eRev, eListRg, iZipD, sRaise1, sRaise0, eCallV, List.lookup, R.bind_ok, R.bind_er, R.bind_stuck, R.toS_ok, R.toS_er, R.toS_stuck, SR.next_nx, SR.next_rt, SR.next_er, SR.next_bk, SR.next_ct, SR.next_stuck, sNil, sSeq, sBrk, sCnt, sExp, sRet, sRetN, sIf, sSet, sAsg, sAug, sPar2, sPar3, tN, DL.tTup, DL.tNil, DL.tCons, DL.tSub, iSeq, srcOf_tup, srcOf_fl, srcOf_kl, srcOf_ti, iRange1, iRange2, sFor, startD, List.map_cons, List.map_nil, List.length_cons, List.length_nil, List.replicate, List.cons_append, List.nil_append, List.getElem?_cons_zero, List.getElem?_cons_succ, List.set_cons_zero, List.set_cons_succ, dSub_int, dFdiv_int, dMod_int, dLt_int, dLe_int, dGt_int, dGe_int, dAddI_int, dSubI_int, dIsN_non, isN, dAdd_int, ll0, ll1, ll2, ll3, ll4, ll5, ll6, ll7, ll8, ll9, ll10, ll11, ll12, ll13, ll14, ll15, ll16, ll17, ll18, ll19, ll20, ll21, ll22, ll23, ll24, ll25, ll26, ll27, ll28, ll29, ll30, ll31, ll32, ll33, ll34, ll35, ll36, ll37, ll38, ll39, ll40, Nat.reduceSub, Nat.reduceAdd, Nat.reduceEqDiff, if_true, if_false, ifp_t, ifp_f, reduceIte, Bool.true_eq_false, Bool.false_eq_true, Option.map_some, Option.map_none, Option.bind_some, Option.bind_none, tSq, sSet2, seqOf_fl, seqOf_tup, seqOf_ti, e1', eUn, un, rc, sm, fo, sr, dl, r2, f1]
end TX
namespace TX
open PySem PySem.Spec L2 DL
open PyProof.Rows hiding St
structure Tx (K : PySem.W.Frag) (mg : Str → Option Value) (f__law_stream f__law_draw f__law_pick f__law_counts f__law_factorial f_count_rows f_balance_of f_count_ready f__law_less f__law_ways f_law : Addr) : Prop where
  mg__law_stream : mg "_law_stream" = some (.ref f__law_stream)
  kp__law_stream : PySem.W.keepIn K (.ref f__law_stream) = true
  mg__law_draw : mg "_law_draw" = some (.ref f__law_draw)
  kp__law_draw : PySem.W.keepIn K (.ref f__law_draw) = true
  mg__law_pick : mg "_law_pick" = some (.ref f__law_pick)
  kp__law_pick : PySem.W.keepIn K (.ref f__law_pick) = true
  mg__law_counts : mg "_law_counts" = some (.ref f__law_counts)
  kp__law_counts : PySem.W.keepIn K (.ref f__law_counts) = true
  mg__law_factorial : mg "_law_factorial" = some (.ref f__law_factorial)
  kp__law_factorial : PySem.W.keepIn K (.ref f__law_factorial) = true
  mg_count_rows : mg "count_rows" = some (.ref f_count_rows)
  kp_count_rows : PySem.W.keepIn K (.ref f_count_rows) = true
  mg_balance_of : mg "balance_of" = some (.ref f_balance_of)
  kp_balance_of : PySem.W.keepIn K (.ref f_balance_of) = true
  mg_count_ready : mg "count_ready" = some (.ref f_count_ready)
  kp_count_ready : PySem.W.keepIn K (.ref f_count_ready) = true
  mg__law_less : mg "_law_less" = some (.ref f__law_less)
  kp__law_less : PySem.W.keepIn K (.ref f__law_less) = true
  mg__law_ways : mg "_law_ways" = some (.ref f__law_ways)
  kp__law_ways : PySem.W.keepIn K (.ref f__law_ways) = true
  n_range : mg "range" = none
  n_repr : mg "repr" = none
  n_sum : mg "sum" = none
  n_abs : mg "abs" = none
  n_len : mg "len" = none
  n_tuple : mg "tuple" = none
  n_max : mg "max" = none
  n_enumerate : mg "enumerate" = none
section
variable {P : Program} {w : World} {K : PySem.W.Frag} {mg : Str → Option Value} {base : Heap} {f__law_stream f__law_draw f__law_pick f__law_counts f__law_factorial f_count_rows f_balance_of f_count_ready f__law_less f__law_ways f_law : Addr}
theorem sc__law_stream : FnScope nm__law_stream ["_law_script"] (defScope st__law_stream) := ⟨rfl, rfl, rfl, by decide +kernel, rfl, by decide +kernel, by decide +kernel⟩
set_option maxHeartbeats 4000000 in
theorem fn__law_stream {fd : FuncData} (T : Tx K mg f__law_stream f__law_draw f__law_pick f__law_counts f__law_factorial f_count_rows f_balance_of f_count_ready f__law_less f__law_ways f_law) (Fu : Fun K "_law_stream" "_law_stream" st__law_stream f__law_stream fd) : FnD true P w K mg base 1 f__law_stream F__law_stream := by
  have nd := (sc__law_stream).nd
  exact fnD_of Fu sc__law_stream (Fu.binds fun _ _ _ _ _ _ us hl => match us, hl with | [_], _ => rfl) cl_keep fun cdv A outer s H E hr hG tk po =>
    (dss_cons (ds_setLc 1 (own := [("_law_cell", 2)]) fin_fl (ct_name 2) rfl nd (di_seq (de_var 0)) (blkOk_by (own := [("_law_cell", 2)]) (N := nm__law_stream) (sc := defScope st__law_stream) (by decide +kernel)) (fun _ _ _ _ _ => pg_name (i := 2) nd rfl (Or.inl rfl)) (fun _ _ _ _ _ => dts_nil) (fun _ _ _ _ _ => (de_callB call_abs k_abs T.n_abs (by decide +kernel) (da_cons (de_var 2) da_nil))))
    (dss_one (ds_ret (de_loc (da_cons (de_lc (own := [("_law_cell", 2)]) fin_loc (ct_name 2) rfl nd (di_seq (de_var 1)) (blkOk_by (own := [("_law_cell", 2)]) (N := nm__law_stream) (sc := defScope st__law_stream) (by decide +kernel)) (fun _ _ _ _ _ => pg_name (i := 2) nd rfl (Or.inl rfl)) (fun _ _ _ _ _ => (dts_one (dt_cmp op_ge k_ge (de_var 2) (de_op op_pow k_pow de_int de_int) (nomark _)))) (fun _ _ _ _ _ => (de_var 2))) (da_cons (de_op or_add k_add (de_var 1) (de_fl (da_cons (de_op or_add k_add (de_callB c_len k_len T.n_len (by decide +kernel) (da_cons (de_var 1) da_nil)) de_int) da_nil))) (da_cons de_int da_nil)))))))
theorem sc__law_draw : FnScope nm__law_draw ["_law_stream_here", "_law_many"] (defScope st__law_draw) := ⟨rfl, rfl, rfl, by decide +kernel, rfl, by decide +kernel, by decide +kernel⟩
set_option maxHeartbeats 4000000 in
theorem fn__law_draw {fd : FuncData} (T : Tx K mg f__law_stream f__law_draw f__law_pick f__law_counts f__law_factorial f_count_rows f_balance_of f_count_ready f__law_less f__law_ways f_law) (Fu : Fun K "_law_draw" "_law_draw" st__law_draw f__law_draw fd) : FnD true P w K mg base 1 f__law_draw F__law_draw := by
  have nd := (sc__law_draw).nd
  exact fnD_of Fu sc__law_draw (Fu.binds fun _ _ _ _ _ _ us hl => match us, hl with | [_, _], _ => rfl) cl_drop fun cdv A outer s H E hr hG tk po =>
    (dss_cons (ds_while 4000 po (dt_cmp (or_ne hr.units) k_neD (de_ix (de_var 0) de_int) (de_fl da_nil) (nomark _)) (dss_cons (ds_set 2 nd (de_ix (de_ix (de_var 0) de_int) de_int))
    (dss_cons (ds_if (dt_cmp op_gt k_gt (de_var 2) de_int (nomark _)) (dss_cons (ds_asg (de_op op_fdivW k_fdiv (de_var 2) (de_var 1)) (dg_sub (W := (fun cls d _ H' => E cls d H')) (de_ix (de_var 0) de_int) de_int))
    (dss_one (ds_ret (de_op op_modN k_mod (de_var 2) (de_var 1))))) dss_nil)
    (dss_one (ds_expr (de_bm PySem.F.plainAttrs_list PySem.F.slot_list_pop PySem.F.type_list_pop mt_popAt k_popAt chk_lst (de_ix (de_var 0) de_int) (da_cons de_int da_nil)))))))
    (dss_cons (ds_set 3 nd (de_op or_add k_add (de_ix (de_var 0) de_int) de_int))
    (dss_cons (ds_asg (de_var 3) (dg_sub (W := (fun cls d _ H' => E cls d H')) (de_var 0) de_int))
    (dss_cons (ds_set 4 nd (de_op op_modN k_mod (de_ix (de_ix (de_var 0) de_int) (de_op op_modN k_mod (de_var 3) (de_callB c_len k_len T.n_len (by decide +kernel) (da_cons (de_ix (de_var 0) de_int) da_nil)))) de_int))
    (dss_cons (ds_set 5 nd (de_op op_modN k_mod (de_op or_add k_add (de_op or_add k_add (de_op or_mul k_mul (de_var 4) (de_op or_add k_add de_int (de_op or_mul k_mul de_int (de_var 3)))) (de_op or_mul k_mul (de_op or_mul k_mul de_int (de_var 3)) (de_var 3))) de_int) de_int))
    (dss_one (ds_ret (de_op op_modN k_mod (de_op op_fdivW k_fdiv (de_op op_modN k_mod (de_op or_mul k_mul (de_var 5) (de_var 5)) de_int) de_int) (de_var 1)))))))))
theorem sc__law_pick : FnScope nm__law_pick ["_law_stream_here", "_law_items"] (defScope st__law_pick) := ⟨rfl, rfl, rfl, by decide +kernel, rfl, by decide +kernel, by decide +kernel⟩
set_option maxHeartbeats 4000000 in
theorem fn__law_pick {fd : FuncData} (T : Tx K mg f__law_stream f__law_draw f__law_pick f__law_counts f__law_factorial f_count_rows f_balance_of f_count_ready f__law_less f__law_ways f_law) (Fu : Fun K "_law_pick" "_law_pick" st__law_pick f__law_pick fd) (G__law_draw : FnD true P w K mg base 1 f__law_draw F__law_draw) : FnD true P w K mg base 2 f__law_pick F__law_pick := by
  have nd := (sc__law_pick).nd
  exact fnD_of Fu sc__law_pick (Fu.binds fun _ _ _ _ _ _ us hl => match us, hl with | [_, _], _ => rfl) cl_drop fun cdv A outer s H E hr hG tk po =>
    (dss_one (ds_ret (de_ix (de_var 1) (de_callD G__law_draw (hr.mono (by decide)) hG tk T.mg__law_draw T.kp__law_draw (da_cons (de_var 0) (da_cons (de_callB c_len k_len T.n_len (by decide +kernel) (da_cons (de_var 1) da_nil)) da_nil))))))
theorem sc__law_counts : FnScope nm__law_counts ["_law_stream_here", "_law_most"] (defScope st__law_counts) := ⟨rfl, rfl, rfl, by decide +kernel, rfl, by decide +kernel, by decide +kernel⟩
set_option maxHeartbeats 4000000 in
theorem fn__law_counts {fd : FuncData} (T : Tx K mg f__law_stream f__law_draw f__law_pick f__law_counts f__law_factorial f_count_rows f_balance_of f_count_ready f__law_less f__law_ways f_law) (Fu : Fun K "_law_counts" "_law_counts" st__law_counts f__law_counts fd) (G__law_pick : FnD true P w K mg base 2 f__law_pick F__law_pick) (G__law_draw : FnD true P w K mg base 1 f__law_draw F__law_draw) : FnD true P w K mg base 3 f__law_counts F__law_counts := by
  have nd := (sc__law_counts).nd
  exact fnD_of Fu sc__law_counts (Fu.binds fun _ _ _ _ _ _ us hl => match us, hl with | [_, _], _ => rfl) cl_drop fun cdv A outer s H E hr hG tk po =>
    (dss_cons (ds_set 2 nd (de_fl (da_cons (de_fl (da_cons de_int (da_cons de_int (da_cons de_int (da_cons de_int da_nil))))) (da_cons (de_fl (da_cons de_int (da_cons de_int (da_cons de_int (da_cons de_int (da_cons de_int da_nil)))))) (da_cons (de_fl (da_cons de_int (da_cons de_int da_nil))) (da_cons (de_fl (da_cons de_int (da_cons de_int (da_cons de_int (da_cons de_int (da_cons de_int (da_cons de_int (da_cons de_int da_nil)))))))) (da_cons (de_fl (da_cons de_int (da_cons de_int da_nil))) (da_cons (de_fl (da_cons de_int (da_cons de_int da_nil))) da_nil))))))))
    (dss_cons (ds_par2 3 4 rfl nd (da_cons (de_op op_rep k_mulL (de_fl (da_cons de_int da_nil)) de_int) (da_cons (de_callD G__law_pick (hr.mono (by decide)) hG tk T.mg__law_pick T.kp__law_pick (da_cons (de_var 0) (da_cons (de_var 2) da_nil))) da_nil)))
    (dss_cons (ds_for po rfl (di_range1 rfl T.n_range (da_cons (de_op or_add k_add de_int (de_callD G__law_draw (hr.mono (by decide)) hG tk T.mg__law_draw T.kp__law_draw (da_cons (de_var 0) (da_cons (de_var 1) da_nil)))) da_nil)) (dg_name 5 nd) (dss_cons (ds_set 6 nd (de_callD G__law_pick (hr.mono (by decide)) hG tk T.mg__law_pick T.kp__law_pick (da_cons (de_var 0) (da_cons (de_var 4) da_nil))))
    (dss_one (ds_asg (de_op or_add k_add (de_ix (de_var 3) (de_var 6)) de_int) (dg_sub (W := (fun cls d _ H' => E cls d H')) (de_var 3) (de_var 6))))) dss_nil)
    (dss_one (ds_ret (de_callTy call_tuple_of k_tupleK T.n_tuple (by decide +kernel) (da_cons (de_var 3) da_nil)))))))
theorem sc__law_factorial : FnScope nm__law_factorial ["_law_number"] (defScope st__law_factorial) := ⟨rfl, rfl, rfl, by decide +kernel, rfl, by decide +kernel, by decide +kernel⟩
set_option maxHeartbeats 4000000 in
theorem fn__law_factorial {fd : FuncData} (T : Tx K mg f__law_stream f__law_draw f__law_pick f__law_counts f__law_factorial f_count_rows f_balance_of f_count_ready f__law_less f__law_ways f_law) (Fu : Fun K "_law_factorial" "_law_factorial" st__law_factorial f__law_factorial fd) : FnD true P w K mg base 1 f__law_factorial F__law_factorial := by
  have nd := (sc__law_factorial).nd
  exact fnD_of Fu sc__law_factorial (Fu.binds fun _ _ _ _ _ _ us hl => match us, hl with | [_], _ => rfl) cl_drop fun cdv A outer s H E hr hG tk po =>
    (dss_cons (ds_set 1 nd de_int)
    (dss_cons (ds_for po rfl (di_range1 rfl T.n_range (da_cons (de_var 0) da_nil)) (dg_name 2 nd) (dss_one (ds_set 1 nd (de_op or_mulT k_mulT (de_var 1) (de_op or_add k_add (de_var 2) de_int)))) dss_nil)
    (dss_one (ds_ret (de_var 1)))))
theorem sc_count_rows : FnScope nm_count_rows ["counts"] (defScope st_count_rows) := ⟨rfl, rfl, rfl, by decide +kernel, rfl, by decide +kernel, by decide +kernel⟩
set_option maxHeartbeats 4000000 in
theorem fn_count_rows {fd : FuncData} (T : Tx K mg f__law_stream f__law_draw f__law_pick f__law_counts f__law_factorial f_count_rows f_balance_of f_count_ready f__law_less f__law_ways f_law) (Fu : Fun K "count_rows" "count_rows" st_count_rows f_count_rows fd) : FnD false P w K mg base 1 f_count_rows F_count_rows := by
  have nd := (sc_count_rows).nd
  exact fnD_of Fu sc_count_rows (Fu.binds fun _ _ _ _ _ _ us hl => match us, hl with | [_], _ => rfl) cl_drop fun cdv A outer s H E hr hG tk po =>
    (dss_cons (ds_asg (de_tup (da_cons de_int (da_cons de_int da_nil))) (dg_tup rfl (dgs_cons (dg_name 1 nd) (dgs_cons (dg_name 2 nd) dgs_nil))))
    (dss_cons (ds_for po rfl (di_seq (de_var 0)) (dg_name 3 nd) (dss_one (ds_for po rfl (di_range1 rfl T.n_range (da_cons (de_var 3) da_nil)) (dg_name 4 nd) (dss_cons (ds_aug 2 nd de_int ip_add k_ipadd)
    (dss_one (ds_set 1 nd (de_op op_fdivW k_fdiv (de_op or_mulT k_mulT (de_var 1) (de_var 2)) (de_op or_add k_add (de_var 4) de_int))))) dss_nil)) dss_nil)
    (dss_one (ds_ret (de_var 1)))))
theorem sc_balance_of : FnScope nm_balance_of ["counts"] (defScope st_balance_of) := ⟨rfl, rfl, rfl, by decide +kernel, rfl, by decide +kernel, by decide +kernel⟩
set_option maxHeartbeats 4000000 in
theorem fn_balance_of {fd : FuncData} (T : Tx K mg f__law_stream f__law_draw f__law_pick f__law_counts f__law_factorial f_count_rows f_balance_of f_count_ready f__law_less f__law_ways f_law) (Fu : Fun K "balance_of" "balance_of" st_balance_of f_balance_of fd) : FnD false P w K mg base 1 f_balance_of F_balance_of := by
  have nd := (sc_balance_of).nd
  exact fnD_of Fu sc_balance_of (Fu.binds fun _ _ _ _ _ _ us hl => match us, hl with | [_], _ => rfl) cl_drop fun cdv A outer s H E hr hG tk po =>
    (dss_one (ds_ret (de_callB (cr_sum2 rfl) k_sum2 T.n_sum (by decide +kernel) (da_cons (de_lc (own := [("arity", 1), ("many", 2)]) fin_fl (ct_pair 1 2 (by decide)) rfl nd (di_enum rfl T.n_enumerate (da_cons (de_var 0) da_nil)) (blkOk_by (own := [("arity", 1), ("many", 2)]) (N := nm_balance_of) (sc := defScope st_balance_of) (by decide +kernel)) (fun _ _ _ _ _ => pg_tup rfl (pgs_cons (pg_name (i := 1) nd rfl (Or.inl rfl)) (pgs_cons (pg_name (i := 2) nd rfl (Or.inl rfl)) pgs_nil))) (fun _ _ _ _ _ => dts_nil) (fun _ _ _ _ _ => (de_op or_mulT k_mulT (de_var 2) (de_op op_sub k_sub de_int (de_var 1))))) da_nil))))
theorem sc_count_ready : FnScope nm_count_ready ["counts"] (defScope st_count_ready) := ⟨rfl, rfl, rfl, by decide +kernel, rfl, by decide +kernel, by decide +kernel⟩
set_option maxHeartbeats 4000000 in
theorem fn_count_ready {fd : FuncData} (T : Tx K mg f__law_stream f__law_draw f__law_pick f__law_counts f__law_factorial f_count_rows f_balance_of f_count_ready f__law_less f__law_ways f_law) (Fu : Fun K "count_ready" "count_ready" st_count_ready f_count_ready fd) (G_count_rows : FnD false P w K mg base 1 f_count_rows F_count_rows) (G_balance_of : FnD false P w K mg base 1 f_balance_of F_balance_of) : FnD false P w K mg base 2 f_count_ready F_count_ready := by
  have nd := (sc_count_ready).nd
  exact fnD_of Fu sc_count_ready (Fu.binds fun _ _ _ _ _ _ us hl => match us, hl with | [_], _ => rfl) cl_drop fun cdv A outer s H E hr hG tk po =>
    (dss_one (ds_ret (de_op op_fdivW k_fdiv (de_op or_mulT k_mulT (de_callD G_count_rows (hr.mono (by decide)) (fun z => nomatch z) tk T.mg_count_rows T.kp_count_rows (da_cons (de_var 0) da_nil)) (de_callB (c_max rfl) k_max T.n_max (by decide +kernel) (da_cons de_int (da_cons (de_callD G_balance_of (hr.mono (by decide)) (fun z => nomatch z) tk T.mg_balance_of T.kp_balance_of (da_cons (de_var 0) da_nil)) da_nil)))) (de_callB (cr_sum2 rfl) k_sum2 T.n_sum (by decide +kernel) (da_cons (de_var 0) da_nil)))))
theorem sc__law_less : FnScope nm__law_less ["_law_counts_here", "_law_token"] (defScope st__law_less) := ⟨rfl, rfl, rfl, by decide +kernel, rfl, by decide +kernel, by decide +kernel⟩
set_option maxHeartbeats 4000000 in
theorem fn__law_less {fd : FuncData} (T : Tx K mg f__law_stream f__law_draw f__law_pick f__law_counts f__law_factorial f_count_rows f_balance_of f_count_ready f__law_less f__law_ways f_law) (Fu : Fun K "_law_less" "_law_less" st__law_less f__law_less fd) : FnD true P w K mg base 1 f__law_less F__law_less := by
  have nd := (sc__law_less).nd
  exact fnD_of Fu sc__law_less (Fu.binds fun _ _ _ _ _ _ us hl => match us, hl with | [_, _], _ => rfl) cl_drop fun cdv A outer s H E hr hG tk po =>
    (dss_one (ds_ret (de_op op_catA k_catK2 (de_op op_catA k_catK1 (de_sl mk_fl (de_var 0) do_none (do_some (de_var 1))) (de_tupK (da_cons (de_op op_sub k_sub (de_ix (de_var 0) (de_var 1)) de_int) da_nil))) (de_sl mk_fl (de_var 0) (do_some (de_op or_add k_add (de_var 1) de_int)) do_none))))
theorem sc__law_ways : FnScope nm__law_ways ["_law_counts_here"] (defScope st__law_ways) := ⟨rfl, rfl, rfl, by decide +kernel, rfl, by decide +kernel, by decide +kernel⟩
set_option maxHeartbeats 4000000 in
theorem fn__law_ways {fd : FuncData} (T : Tx K mg f__law_stream f__law_draw f__law_pick f__law_counts f__law_factorial f_count_rows f_balance_of f_count_ready f__law_less f__law_ways f_law) (Fu : Fun K "_law_ways" "_law_ways" st__law_ways f__law_ways fd) (G__law_less : FnD true P w K mg base 1 f__law_less F__law_less) : FnD true P w K mg base 2 f__law_ways F__law_ways := by
  have nd := (sc__law_ways).nd
  exact fnD_of Fu sc__law_ways (Fu.binds fun _ _ _ _ _ _ us hl => match us, hl with | [_], _ => rfl) cl_drop fun cdv A outer s H E hr hG tk po =>
    (dss_cons (ds_set 1 nd (de_disp1T hr.units (de_var 0) de_int))
    (dss_cons (ds_for po rfl (di_range1 rfl T.n_range (da_cons (de_callB (cr_sum2 rfl) k_sum2 T.n_sum (by decide +kernel) (da_cons (de_un (de_var 0)) da_nil)) da_nil)) (dg_name 2 nd) (dss_cons (ds_set 3 nd de_dctT)
    (dss_cons (ds_lockT 1 (ds_for po rfl (di_keysT (de_var 1)) (dg_name 4 nd) (dss_cons (ds_set 6 nd (de_op op_sub k_sub (de_var 2) (de_callB (cr_sum2 rfl) k_sum2 T.n_sum (by decide +kernel) (da_cons (de_lc (own := [("_law_token", 5)]) fin_fl (ct_name 5) rfl nd (di_range1 rfl T.n_range (da_cons de_int da_nil)) (blkOk_by (own := [("_law_token", 5)]) (N := nm__law_ways) (sc := defScope st__law_ways) (by decide +kernel)) (fun _ _ _ _ _ => pg_name (i := 5) nd rfl (Or.inl rfl)) (fun _ _ _ _ _ => dts_nil) (fun _ _ _ _ _ => (de_op or_mulT k_mulT (de_op op_sub k_sub (de_ix (de_un (de_var 0)) (de_var 5)) (de_ix (de_un (de_var 4)) (de_var 5))) (de_var 5)))) da_nil))))
    (dss_one (ds_for po rfl (di_range1 rfl T.n_range (da_cons de_int da_nil)) (dg_name 5 nd) (dss_one (ds_if (dw_t (dw_and (dt_cmp op_gt k_gt (de_ix (de_un (de_var 4)) (de_var 5)) de_int (nomark _)) (dw_and1 (dt_cmp op_le k_le (de_var 5) (de_var 6) (nomark _))))) (dss_cons (ds_set 7 nd (de_callD G__law_less (hr.mono (by decide)) hG tk T.mg__law_less T.kp__law_less (da_cons (de_un (de_var 4)) (da_cons (de_var 5) da_nil))))
    (dss_one (ds_asg (de_op or_add k_add (de_get2 hr.units (de_var 3) (de_var 7) de_int) (de_dgetL hr.units (de_var 1) (de_var 4))) (dg_subT (W := (fun cls d _ H' => E cls d H')) hr.units (de_var 3) (de_var 7))))) dss_nil)) dss_nil))) dss_nil))
    (dss_one (ds_set 1 nd (de_var 3))))) dss_nil)
    (dss_one (ds_ret (de_get2 hr.units (de_var 1) (de_tupK (da_cons de_int (da_cons de_int (da_cons de_int (da_cons de_int (da_cons de_int (da_cons de_int da_nil))))))) de_int)))))
theorem sc_law : FnScope nm_law ["_law_script"] (defScope st_law) := ⟨rfl, rfl, rfl, by decide +kernel, rfl, by decide +kernel, by decide +kernel⟩
set_option maxHeartbeats 4000000 in
theorem fn_law {fd : FuncData} (T : Tx K mg f__law_stream f__law_draw f__law_pick f__law_counts f__law_factorial f_count_rows f_balance_of f_count_ready f__law_less f__law_ways f_law) (Fu : Fun K "law" "law" st_law f_law fd) (G__law_stream : FnD true P w K mg base 1 f__law_stream F__law_stream) (G__law_counts : FnD true P w K mg base 3 f__law_counts F__law_counts) (G__law_factorial : FnD true P w K mg base 1 f__law_factorial F__law_factorial) (G_count_ready : FnD false P w K mg base 2 f_count_ready F_count_ready) (G_count_rows : FnD false P w K mg base 1 f_count_rows F_count_rows) (G__law_ways : FnD true P w K mg base 2 f__law_ways F__law_ways) (hsys : ∃ o, base.get? sysModules = some o) : FnD true P w K mg base 4 f_law F_law := by
  have nd := (sc_law).nd
  exact fnD_of Fu sc_law (Fu.binds fun _ _ _ _ _ _ us hl => match us, hl with | [_], _ => rfl) cl_drop fun cdv A outer s H E hr hG tk po =>
    (dss_cons (ds_set 1 nd (de_callD G__law_stream (hr.mono (by decide)) hG tk T.mg__law_stream T.kp__law_stream (da_cons (de_var 0) da_nil)))
    (dss_cons (ds_for po rfl (di_range1 rfl T.n_range (da_cons de_int da_nil)) (dg_name 2 nd) (dss_cons (ds_set 3 nd (de_callD G__law_counts (hr.mono (by decide)) hG tk T.mg__law_counts T.kp__law_counts (da_cons (de_var 1) (da_cons de_int da_nil))))
    (dss_cons (ds_par2 4 5 rfl nd (da_cons (de_callB (c_repr hr (hG rfl) hsys) k_repr T.n_repr (by decide +kernel) (da_cons (de_un (de_var 3)) da_nil)) (da_cons (de_callD G__law_factorial (hr.mono (by decide)) hG tk T.mg__law_factorial T.kp__law_factorial (da_cons (de_callB (cr_sum2 rfl) k_sum2 T.n_sum (by decide +kernel) (da_cons (de_un (de_var 3)) da_nil)) da_nil)) da_nil)))
    (dss_cons (ds_for po rfl (di_seq (de_un (de_var 3))) (dg_name 6 nd) (dss_one (ds_set 5 nd (de_op op_fdivW k_fdiv (de_var 5) (de_callD G__law_factorial (hr.mono (by decide)) hG tk T.mg__law_factorial T.kp__law_factorial (da_cons (de_var 6) da_nil))))) dss_nil)
    (dss_one (ds_for po rfl (di_range1 rfl T.n_range (da_cons de_int da_nil)) (dg_name 7 nd) (dss_cons (ds_set 8 nd (de_fl (da_cons (de_callD G_count_rows (hr.mono (by decide)) (fun z => nomatch z) tk T.mg_count_rows T.kp_count_rows (da_cons (de_un (de_var 3)) da_nil)) (da_cons (de_callD G_count_ready (hr.mono (by decide)) (fun z => nomatch z) tk T.mg_count_ready T.kp_count_ready (da_cons (de_un (de_var 3)) da_nil)) da_nil))))
    (dss_one (ds_if (dw_t (dw_or (dt_cmp (or_ne hr.units) k_neD (de_callB (c_repr hr (hG rfl) hsys) k_repr T.n_repr (by decide +kernel) (da_cons (de_var 8) da_nil)) (de_callB (c_repr hr (hG rfl) hsys) k_repr T.n_repr (by decide +kernel) (da_cons (de_fl (da_cons (de_var 5) (da_cons (de_callD G__law_ways (hr.mono (by decide)) hG tk T.mg__law_ways T.kp__law_ways (da_cons (de_var 3) da_nil)) da_nil))) da_nil)) (nomark _)) (dw_or1 (dt_cmp (or_ne hr.units) k_neD (de_callB (c_repr hr (hG rfl) hsys) k_repr T.n_repr (by decide +kernel) (da_cons (de_un (de_var 3)) da_nil)) (de_var 4) (nomark _))))) (dss_one (ds_ret de_bl)) dss_nil))) dss_nil))))) dss_nil)
    (dss_one (ds_ret de_bl))))
end
theorem all_mk {l : PySem.W.OpenLaw} {w : World} {K : PySem.W.Frag} {h : Heap} {mg : Str → Option Value} {fa f__law_stream f__law_draw f__law_pick f__law_counts f__law_factorial f_count_rows f_balance_of f_count_ready f__law_less f__law_ways f_law : Addr} (X : K.In h) (G : h.Ns mainGlobals mg) (hfa : mg "law" = some (.ref fa))
    {od__law_stream an__law_stream : Option Addr} {sl__law_stream : Array (Option Value)} {oc__law_stream kV__law_stream dc__law_stream pm__law_stream cd__law_stream ct__law_stream : Value}
    {od__law_draw an__law_draw : Option Addr} {sl__law_draw : Array (Option Value)} {oc__law_draw kV__law_draw dc__law_draw pm__law_draw cd__law_draw ct__law_draw : Value}
    {od__law_pick an__law_pick : Option Addr} {sl__law_pick : Array (Option Value)} {oc__law_pick kV__law_pick dc__law_pick pm__law_pick cd__law_pick ct__law_pick : Value}
    {od__law_counts an__law_counts : Option Addr} {sl__law_counts : Array (Option Value)} {oc__law_counts kV__law_counts dc__law_counts pm__law_counts cd__law_counts ct__law_counts : Value}
    {od__law_factorial an__law_factorial : Option Addr} {sl__law_factorial : Array (Option Value)} {oc__law_factorial kV__law_factorial dc__law_factorial pm__law_factorial cd__law_factorial ct__law_factorial : Value}
    {od_count_rows an_count_rows : Option Addr} {sl_count_rows : Array (Option Value)} {oc_count_rows kV_count_rows dc_count_rows pm_count_rows cd_count_rows ct_count_rows : Value}
    {od_balance_of an_balance_of : Option Addr} {sl_balance_of : Array (Option Value)} {oc_balance_of kV_balance_of dc_balance_of pm_balance_of cd_balance_of ct_balance_of : Value}
    {od_count_ready an_count_ready : Option Addr} {sl_count_ready : Array (Option Value)} {oc_count_ready kV_count_ready dc_count_ready pm_count_ready cd_count_ready ct_count_ready : Value}
    {od__law_less an__law_less : Option Addr} {sl__law_less : Array (Option Value)} {oc__law_less kV__law_less dc__law_less pm__law_less cd__law_less ct__law_less : Value}
    {od__law_ways an__law_ways : Option Addr} {sl__law_ways : Array (Option Value)} {oc__law_ways kV__law_ways dc__law_ways pm__law_ways cd__law_ways ct__law_ways : Value}
    {od_law an_law : Option Addr} {sl_law : Array (Option Value)} {oc_law kV_law dc_law pm_law cd_law ct_law : Value}
    (a__law_stream : PySem.W.nsIn K mainGlobals "_law_stream" = some (some (.ref f__law_stream)))
    (l__law_stream : K.lookup f__law_stream = some ⟨oc__law_stream, od__law_stream, .func (PySem.W.fnOf "_law_stream" "_law_stream" (defArgs st__law_stream) (defBody st__law_stream) (defScope st__law_stream) .none kV__law_stream dc__law_stream pm__law_stream an__law_stream cd__law_stream ct__law_stream), sl__law_stream⟩)
    (c__law_stream : PySem.W.codeIn K cd__law_stream "_law_stream" = true)
    (k__law_stream : PySem.W.keepIn K (.ref f__law_stream) = true)
    (a__law_draw : PySem.W.nsIn K mainGlobals "_law_draw" = some (some (.ref f__law_draw)))
    (l__law_draw : K.lookup f__law_draw = some ⟨oc__law_draw, od__law_draw, .func (PySem.W.fnOf "_law_draw" "_law_draw" (defArgs st__law_draw) (defBody st__law_draw) (defScope st__law_draw) .none kV__law_draw dc__law_draw pm__law_draw an__law_draw cd__law_draw ct__law_draw), sl__law_draw⟩)
    (c__law_draw : PySem.W.codeIn K cd__law_draw "_law_draw" = true)
    (k__law_draw : PySem.W.keepIn K (.ref f__law_draw) = true)
    (a__law_pick : PySem.W.nsIn K mainGlobals "_law_pick" = some (some (.ref f__law_pick)))
    (l__law_pick : K.lookup f__law_pick = some ⟨oc__law_pick, od__law_pick, .func (PySem.W.fnOf "_law_pick" "_law_pick" (defArgs st__law_pick) (defBody st__law_pick) (defScope st__law_pick) .none kV__law_pick dc__law_pick pm__law_pick an__law_pick cd__law_pick ct__law_pick), sl__law_pick⟩)
    (c__law_pick : PySem.W.codeIn K cd__law_pick "_law_pick" = true)
    (k__law_pick : PySem.W.keepIn K (.ref f__law_pick) = true)
    (a__law_counts : PySem.W.nsIn K mainGlobals "_law_counts" = some (some (.ref f__law_counts)))
    (l__law_counts : K.lookup f__law_counts = some ⟨oc__law_counts, od__law_counts, .func (PySem.W.fnOf "_law_counts" "_law_counts" (defArgs st__law_counts) (defBody st__law_counts) (defScope st__law_counts) .none kV__law_counts dc__law_counts pm__law_counts an__law_counts cd__law_counts ct__law_counts), sl__law_counts⟩)
    (c__law_counts : PySem.W.codeIn K cd__law_counts "_law_counts" = true)
    (k__law_counts : PySem.W.keepIn K (.ref f__law_counts) = true)
    (a__law_factorial : PySem.W.nsIn K mainGlobals "_law_factorial" = some (some (.ref f__law_factorial)))
    (l__law_factorial : K.lookup f__law_factorial = some ⟨oc__law_factorial, od__law_factorial, .func (PySem.W.fnOf "_law_factorial" "_law_factorial" (defArgs st__law_factorial) (defBody st__law_factorial) (defScope st__law_factorial) .none kV__law_factorial dc__law_factorial pm__law_factorial an__law_factorial cd__law_factorial ct__law_factorial), sl__law_factorial⟩)
    (c__law_factorial : PySem.W.codeIn K cd__law_factorial "_law_factorial" = true)
    (k__law_factorial : PySem.W.keepIn K (.ref f__law_factorial) = true)
    (a_count_rows : PySem.W.nsIn K mainGlobals "count_rows" = some (some (.ref f_count_rows)))
    (l_count_rows : K.lookup f_count_rows = some ⟨oc_count_rows, od_count_rows, .func (PySem.W.fnOf "count_rows" "count_rows" (defArgs st_count_rows) (defBody st_count_rows) (defScope st_count_rows) .none kV_count_rows dc_count_rows pm_count_rows an_count_rows cd_count_rows ct_count_rows), sl_count_rows⟩)
    (c_count_rows : PySem.W.codeIn K cd_count_rows "count_rows" = true)
    (k_count_rows : PySem.W.keepIn K (.ref f_count_rows) = true)
    (a_balance_of : PySem.W.nsIn K mainGlobals "balance_of" = some (some (.ref f_balance_of)))
    (l_balance_of : K.lookup f_balance_of = some ⟨oc_balance_of, od_balance_of, .func (PySem.W.fnOf "balance_of" "balance_of" (defArgs st_balance_of) (defBody st_balance_of) (defScope st_balance_of) .none kV_balance_of dc_balance_of pm_balance_of an_balance_of cd_balance_of ct_balance_of), sl_balance_of⟩)
    (c_balance_of : PySem.W.codeIn K cd_balance_of "balance_of" = true)
    (k_balance_of : PySem.W.keepIn K (.ref f_balance_of) = true)
    (a_count_ready : PySem.W.nsIn K mainGlobals "count_ready" = some (some (.ref f_count_ready)))
    (l_count_ready : K.lookup f_count_ready = some ⟨oc_count_ready, od_count_ready, .func (PySem.W.fnOf "count_ready" "count_ready" (defArgs st_count_ready) (defBody st_count_ready) (defScope st_count_ready) .none kV_count_ready dc_count_ready pm_count_ready an_count_ready cd_count_ready ct_count_ready), sl_count_ready⟩)
    (c_count_ready : PySem.W.codeIn K cd_count_ready "count_ready" = true)
    (k_count_ready : PySem.W.keepIn K (.ref f_count_ready) = true)
    (a__law_less : PySem.W.nsIn K mainGlobals "_law_less" = some (some (.ref f__law_less)))
    (l__law_less : K.lookup f__law_less = some ⟨oc__law_less, od__law_less, .func (PySem.W.fnOf "_law_less" "_law_less" (defArgs st__law_less) (defBody st__law_less) (defScope st__law_less) .none kV__law_less dc__law_less pm__law_less an__law_less cd__law_less ct__law_less), sl__law_less⟩)
    (c__law_less : PySem.W.codeIn K cd__law_less "_law_less" = true)
    (k__law_less : PySem.W.keepIn K (.ref f__law_less) = true)
    (a__law_ways : PySem.W.nsIn K mainGlobals "_law_ways" = some (some (.ref f__law_ways)))
    (l__law_ways : K.lookup f__law_ways = some ⟨oc__law_ways, od__law_ways, .func (PySem.W.fnOf "_law_ways" "_law_ways" (defArgs st__law_ways) (defBody st__law_ways) (defScope st__law_ways) .none kV__law_ways dc__law_ways pm__law_ways an__law_ways cd__law_ways ct__law_ways), sl__law_ways⟩)
    (c__law_ways : PySem.W.codeIn K cd__law_ways "_law_ways" = true)
    (k__law_ways : PySem.W.keepIn K (.ref f__law_ways) = true)
    (a_law : PySem.W.nsIn K mainGlobals "law" = some (some (.ref f_law)))
    (l_law : K.lookup f_law = some ⟨oc_law, od_law, .func (PySem.W.fnOf "law" "law" (defArgs st_law) (defBody st_law) (defScope st_law) .none kV_law dc_law pm_law an_law cd_law ct_law), sl_law⟩)
    (c_law : PySem.W.codeIn K cd_law "law" = true)
    (k_law : PySem.W.keepIn K (.ref f_law) = true)
    (z_range : PySem.W.nsIn K mainGlobals "range" = some none)
    (z_repr : PySem.W.nsIn K mainGlobals "repr" = some none)
    (z_sum : PySem.W.nsIn K mainGlobals "sum" = some none)
    (z_abs : PySem.W.nsIn K mainGlobals "abs" = some none)
    (z_len : PySem.W.nsIn K mainGlobals "len" = some none)
    (z_tuple : PySem.W.nsIn K mainGlobals "tuple" = some none)
    (z_max : PySem.W.nsIn K mainGlobals "max" = some none)
    (z_enumerate : PySem.W.nsIn K mainGlobals "enumerate" = some none)
    (hl : LawOk F_law) : ∃ F : Fn, LawOk F ∧ ∀ base : Heap, K.In base → base.Ns mainGlobals mg → (∃ o, base.get? sysModules = some o) → FnD true l.prog w K mg base 4 fa F := by
  have e := hfa.symm.trans (PySem.W.mg_of X G a_law)
  cases e
  have T : Tx K mg f__law_stream f__law_draw f__law_pick f__law_counts f__law_factorial f_count_rows f_balance_of f_count_ready f__law_less f__law_ways fa := ⟨PySem.W.mg_of X G a__law_stream, k__law_stream, PySem.W.mg_of X G a__law_draw, k__law_draw, PySem.W.mg_of X G a__law_pick, k__law_pick, PySem.W.mg_of X G a__law_counts, k__law_counts, PySem.W.mg_of X G a__law_factorial, k__law_factorial, PySem.W.mg_of X G a_count_rows, k_count_rows, PySem.W.mg_of X G a_balance_of, k_balance_of, PySem.W.mg_of X G a_count_ready, k_count_ready, PySem.W.mg_of X G a__law_less, k__law_less, PySem.W.mg_of X G a__law_ways, k__law_ways, PySem.W.mg_none_of X G z_range, PySem.W.mg_none_of X G z_repr, PySem.W.mg_none_of X G z_sum, PySem.W.mg_none_of X G z_abs, PySem.W.mg_none_of X G z_len, PySem.W.mg_none_of X G z_tuple, PySem.W.mg_none_of X G z_max, PySem.W.mg_none_of X G z_enumerate⟩
  refine ⟨F_law, hl, fun base _ _ hsys => ?_⟩
  have G__law_stream : FnD true l.prog w K mg base 1 f__law_stream F__law_stream := fn__law_stream T (fun_mk (st := st__law_stream) l__law_stream c__law_stream k__law_stream) 
  have G__law_draw : FnD true l.prog w K mg base 1 f__law_draw F__law_draw := fn__law_draw T (fun_mk (st := st__law_draw) l__law_draw c__law_draw k__law_draw) 
  have G__law_pick : FnD true l.prog w K mg base 2 f__law_pick F__law_pick := fn__law_pick T (fun_mk (st := st__law_pick) l__law_pick c__law_pick k__law_pick) G__law_draw
  have G__law_counts : FnD true l.prog w K mg base 3 f__law_counts F__law_counts := fn__law_counts T (fun_mk (st := st__law_counts) l__law_counts c__law_counts k__law_counts) G__law_pick G__law_draw
  have G__law_factorial : FnD true l.prog w K mg base 1 f__law_factorial F__law_factorial := fn__law_factorial T (fun_mk (st := st__law_factorial) l__law_factorial c__law_factorial k__law_factorial) 
  have G_count_rows : FnD false l.prog w K mg base 1 f_count_rows F_count_rows := fn_count_rows T (fun_mk (st := st_count_rows) l_count_rows c_count_rows k_count_rows) 
  have G_balance_of : FnD false l.prog w K mg base 1 f_balance_of F_balance_of := fn_balance_of T (fun_mk (st := st_balance_of) l_balance_of c_balance_of k_balance_of) 
  have G_count_ready : FnD false l.prog w K mg base 2 f_count_ready F_count_ready := fn_count_ready T (fun_mk (st := st_count_ready) l_count_ready c_count_ready k_count_ready) G_count_rows G_balance_of
  have G__law_less : FnD true l.prog w K mg base 1 f__law_less F__law_less := fn__law_less T (fun_mk (st := st__law_less) l__law_less c__law_less k__law_less) 
  have G__law_ways : FnD true l.prog w K mg base 2 f__law_ways F__law_ways := fn__law_ways T (fun_mk (st := st__law_ways) l__law_ways c__law_ways k__law_ways) G__law_less
  have G_law : FnD true l.prog w K mg base 4 fa F_law := fn_law T (fun_mk (st := st_law) l_law c_law k_law) G__law_stream G__law_counts G__law_factorial G_count_ready G_count_rows G__law_ways hsys
  exact G_law
end TX
open PySem PySem.W PyProof.Rows
set_option maxRecDepth 100000 in
set_option maxHeartbeats 0 in
theorem PySem.Challenge.cw_ringpostfix_k45_rows_counted_holds : PySem.Challenge.rw_ringpostfix_k45_rows_counted.Holds := by
  w_on; o_law; k_head; (case hw => w_witness2)
  k_fill
  refine DL.law_walk (k := 4) (l := PySem.Challenge.rw_ringpostfix_k45_rows_counted) rfl rfl ⟨rfl, by decide, by decide⟩ (by decide +kernel) (fun w h Y => PySem.W.kIn_of Y) ?F
  case F =>
    intro w mg fa h KX G hmg
    refine' TX.all_mk KX G hmg ?a__law_stream ?l__law_stream ?c__law_stream ?k__law_stream ?a__law_draw ?l__law_draw ?c__law_draw ?k__law_draw ?a__law_pick ?l__law_pick ?c__law_pick ?k__law_pick ?a__law_counts ?l__law_counts ?c__law_counts ?k__law_counts ?a__law_factorial ?l__law_factorial ?c__law_factorial ?k__law_factorial ?a_count_rows ?l_count_rows ?c_count_rows ?k_count_rows ?a_balance_of ?l_balance_of ?c_balance_of ?k_balance_of ?a_count_ready ?l_count_ready ?c_count_ready ?k_count_ready ?a__law_less ?l__law_less ?c__law_less ?k__law_less ?a__law_ways ?l__law_ways ?c__law_ways ?k__law_ways ?a_law ?l_law ?c_law ?k_law ?z_range ?z_repr ?z_sum ?z_abs ?z_len ?z_tuple ?z_max ?z_enumerate TX.law_ok
    (case a__law_stream => k_is)
    (case l__law_stream => k_is)
    (case c__law_stream => k_is)
    (case k__law_stream => k_is)
    (case a__law_draw => k_is)
    (case l__law_draw => k_is)
    (case c__law_draw => k_is)
    (case k__law_draw => k_is)
    (case a__law_pick => k_is)
    (case l__law_pick => k_is)
    (case c__law_pick => k_is)
    (case k__law_pick => k_is)
    (case a__law_counts => k_is)
    (case l__law_counts => k_is)
    (case c__law_counts => k_is)
    (case k__law_counts => k_is)
    (case a__law_factorial => k_is)
    (case l__law_factorial => k_is)
    (case c__law_factorial => k_is)
    (case k__law_factorial => k_is)
    (case a_count_rows => k_is)
    (case l_count_rows => k_is)
    (case c_count_rows => k_is)
    (case k_count_rows => k_is)
    (case a_balance_of => k_is)
    (case l_balance_of => k_is)
    (case c_balance_of => k_is)
    (case k_balance_of => k_is)
    (case a_count_ready => k_is)
    (case l_count_ready => k_is)
    (case c_count_ready => k_is)
    (case k_count_ready => k_is)
    (case a__law_less => k_is)
    (case l__law_less => k_is)
    (case c__law_less => k_is)
    (case k__law_less => k_is)
    (case a__law_ways => k_is)
    (case l__law_ways => k_is)
    (case c__law_ways => k_is)
    (case k__law_ways => k_is)
    (case a_law => k_is)
    (case l_law => k_is)
    (case c_law => k_is)
    (case k_law => k_is)
    (case z_range => k_is)
    (case z_repr => k_is)
    (case z_sum => k_is)
    (case z_abs => k_is)
    (case z_len => k_is)
    (case z_tuple => k_is)
    (case z_max => k_is)
    (case z_enumerate => k_is)
