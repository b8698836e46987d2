import PyProof.Rows.All
import Wide.All
import OpenK.AllK
import Wide.FinOn
import HandS.ForMost
import HandS.ForExc
import HandS.Star
import HandS.IsInst
import HandS.Flow
import HandS.Wide
import HandS.EndBits
import PyProof.ReprRoads
import HandS.TupAny
import HandS.TupMul
import HandS.Deep
import HandS.More
import HandS.Style
import KE.KTupSum
import PyProof.WalkInts
import HandS.SortInts
import HandS.Zip
import KE.KRevSl
import KE.KExcInit
import KE.KExcIs
import HandS.ExcIs
import HandS.ExcField
import HandS.TryMany
import HandS.Small
import HandS.HotCalls
import HandS.Conv
import HandS.Iter
import KE.GoesEnum
import PyProof.NeKinds
import KE.DataFind
import KE.KEqDict
import HandS.NoneIn
import PyProof.Rows.IntBool
import HandS.ExcValue
import HandS.Text
import PyProof.StrBlock2
import PyProof.CallStr
import HandS.FStr
import HandS.GenList
import PyProof.RulesMatch
import PyProof.AutoSeq1
import HandS.Dict
import HandS.Property
import PyProof.RulesMatchSeq
import KE.KUnpackStar
import OpenK.KOps
import HandS.SlotsOwn
import KE.KFmtOwn
import HandS.ClsMeth
import OpenK.KMore
import HandS.Finally
import HandS.Defaults
import HandS.RaiseFrom
import KE.KSuperObj
import KE.KParC
import PyProof.Rows.ReprOcc
import PyProof.Rows.StrBin
import PySem.Challenge.RW_ringpostfix_k43_places_selected
set_option Elab.async false
set_option linter.all false
set_option maxRecDepth 100000
set_option maxHeartbeats 4000000
namespace DL
open PySem PySem.Spec L2
open PyProof.Rows hiding St
/-- a class by its name: of the program, built in -/
inductive Cn where
  | own (n : Str) | blt (n : String)
  deriving DecidableEq
/-- plain data (tuples, frozen lists and dicts by value), defs by name, caught errors, and places of the store -/
inductive D where
  | non | bl (b : Bool) | int (i : Int) | str (x : Str) | ty (n : String) | fn (n : Str)
  | tup (ds : List D) | fl (ds : List D) | kl (ds : List D) | fd (kvs : List (Key × D)) | exc (c : Cn) (fs : List (Str × D)) | loc (n : Nat)
abbrev Ev := List (Option D)
/-- what a place of the store holds -/
inductive Ob where
  | lst (ds : List D)
  | ins (c : Str) (fs : List (Str × D))
  | dct (kvs : List (Key × D))
  | dtt (kvs : List (Key × D))
  | scr (ds : List D)
  | tpl (ds : List D)
abbrev Sto := List Ob
structure Ex where
  cls : Cn
  fs : List (Str × D)
inductive R (α : Type) where
  | ok (a : α) (S : Sto)
  | er (e : Ex) (S : Sto)
  | stuck
inductive SR where
  | nx (ρ : Ev) (S : Sto)
  | rt (d : D) (S : Sto)
  | bk (ρ : Ev) (S : Sto)
  | ct (ρ : Ev) (S : Sto)
  | er (e : Ex) (ρ : Ev) (S : Sto)
  | stuck
/-- a test that no reckoning opens -/
noncomputable def ifp {α : Type} (p : Prop) (a b : α) : α := @ite α p (Classical.propDecidable p) a b
theorem ifp_pos {α : Type} {p : Prop} {a b : α} (h : p) : ifp p a b = a := by unfold ifp; exact if_pos h
theorem ifp_neg {α : Type} {p : Prop} {a b : α} (h : ¬ p) : ifp p a b = b := by unfold ifp; exact if_neg h
theorem ifp_t {α : Type} {a b : α} : ifp True a b = a := ifp_pos trivial
theorem ifp_f {α : Type} {a b : α} : ifp False a b = b := ifp_neg id
def R.bind {α β : Type} (r : R α) (k : α → Sto → R β) : R β := match r with
  | .ok a S => k a S
  | .er e S => .er e S
  | .stuck => .stuck
@[simp] theorem R.bind_ok {α β : Type} (a : α) (S : Sto) (k : α → Sto → R β) : (R.ok a S).bind k = k a S := rfl
@[simp] theorem R.bind_er {α β : Type} (e : Ex) (S : Sto) (k : α → Sto → R β) : (R.er e S : R α).bind k = .er e S := rfl
@[simp] theorem R.bind_stuck {α β : Type} (k : α → Sto → R β) : (R.stuck : R α).bind k = .stuck := rfl
def TupAt (K : PySem.W.Frag) (ι : List Addr) (H : Hp) (a : Addr) (vs : List V) : Prop := (a ∉ ι ∧ H a = some (.tup vs)) ∨ SqT K (fun _ => none) a vs
def LstAt (ι : List Addr) (H : Hp) (a : Addr) (vs : List V) : Prop := a ∉ ι ∧ H a = some (.lst vs)
/-- a list that nobody changes: locked, or of the written part -/
def KlAt (K : PySem.W.Frag) (ι : List Addr) (H : Hp) (a : Addr) (vs : List V) : Prop := (a ∉ ι ∧ ∃ o, H a = some (.frz o (.lst vs))) ∨ SqL K (fun _ => none) a vs
theorem no_rd {a : Addr} {u : HO} (h : Rd (fun _ => none) a u) : False := by
  rcases h with h | ⟨_, h⟩ <;> cases h
theorem TupAt.sq {K : PySem.W.Frag} {ι : List Addr} {H : Hp} {a : Addr} {vs : List V} (h : TupAt K ι H a vs) : SqT K H a vs := by
  rcases h with h | h | h
  · exact .inl (.inl h.2)
  · exact (no_rd h).elim
  · exact .inr h
theorem KlAt.sq {K : PySem.W.Frag} {ι : List Addr} {H : Hp} {a : Addr} {vs : List V} (h : KlAt K ι H a vs) : SqL K H a vs := by
  rcases h with ⟨_, h⟩ | h | h
  · exact .inl (.inr h)
  · exact (no_rd h).elim
  · exact .inr h
theorem LstAt.sq {K : PySem.W.Frag} {ι : List Addr} {H : Hp} {a : Addr} {vs : List V} (h : LstAt ι H a vs) : SqL K H a vs := SqL.of h.2
def RepC (K : PySem.W.Frag) : Cn → Value → Prop
  | .own n, v => ∃ C, v = .ref C ∧ PySem.W.nsIn K mainGlobals n = some (some (.ref C))
  | .blt n, v => v = .type n
/-- an error that is held as a value: at a, its class, its dict -/
def exv (a : Addr) (cls : Value) (d : Option Addr) : HO := .ext fun h => ∃ (oe : Obj) (vs : Array Value), h.get? a = some oe ∧ oe.cls = cls ∧ oe.dict = d ∧ oe.data = .fields vs
mutual
def RepV (K : PySem.W.Frag) (ι : List Addr) (H : Hp) : D → V → Prop
  | .non, v => v = .non
  | .bl b, v => v = .bl b
  | .int i, v => v = .int i
  | .str x, v => v = .str x
  | .ty n, v => v = .ty n
  | .fn n, v => ∃ a, v = .ref a ∧ PySem.W.nsIn K mainGlobals n = some (some (.ref a))
  | .loc n, v => ∃ a, ι[n]? = some a ∧ v = .ref a
  | .tup ds, v => ∃ a vs, v = .ref a ∧ TupAt K ι H a vs ∧ RepL K ι H ds vs
  | .fl ds, v => ∃ a vs, v = .ref a ∧ LstAt ι H a vs ∧ RepL K ι H ds vs
  | .kl ds, v => ∃ a vs, v = .ref a ∧ KlAt K ι H a vs ∧ RepL K ι H ds vs
  | .fd kvs, v => ∃ a ks, v = .ref a ∧ a ∉ ι ∧ H a = some (.dK ks) ∧ RepK K ι H kvs ks
  | .exc c fs, v => ∃ a cls dd, v = .ref a ∧ a ∉ ι ∧ H a = some (exv a cls dd) ∧ RepC K c cls ∧ ((dd = none ∧ fs = []) ∨ ∃ d vs, dd = some d ∧ d ∉ ι ∧ H d = some (.xd vs) ∧ RepF K ι H fs vs)
def RepL (K : PySem.W.Frag) (ι : List Addr) (H : Hp) : List D → List V → Prop
  | [], vs => vs = []
  | d :: ds, vs => ∃ v r, vs = v :: r ∧ RepV K ι H d v ∧ RepL K ι H ds r
def RepK (K : PySem.W.Frag) (ι : List Addr) (H : Hp) : List (Key × D) → List (Key × V) → Prop
  | [], vs => vs = []
  | (k, d) :: ds, vs => ∃ v r, vs = (k, v) :: r ∧ RepV K ι H d v ∧ RepK K ι H ds r
def RepF (K : PySem.W.Frag) (ι : List Addr) (H : Hp) : List (Str × D) → List (Str × V) → Prop
  | [], vs => vs = []
  | (k, d) :: ds, vs => ∃ v r, vs = (k, v) :: r ∧ RepV K ι H d v ∧ RepF K ι H ds r
end
def RepKT (K : PySem.W.Frag) (ι : List Addr) (H : Hp) : List (List Key × D) → List (List Key × V) → Prop
  | [], vs => vs = []
  | (k, d) :: ds, vs => ∃ v r, vs = (k, v) :: r ∧ RepV K ι H d v ∧ RepKT K ι H ds r
def RepO (K : PySem.W.Frag) (ι : List Addr) (H : Hp) (a : Addr) : Ob → Prop
  | .lst ds => ∃ vs, H a = some (.lst vs) ∧ RepL K ι H ds vs
  | .ins c fs => ∃ C dx vs, PySem.W.nsIn K mainGlobals c = some (some (.ref C)) ∧ H a = some (.ins C dx vs) ∧ RepF K ι H fs vs
  | .dct kvs => ∃ ks, H a = some (.dK ks) ∧ RepK K ι H kvs ks
  | .dtt kvs => ∃ o ks, H a = some (.frz o (.dK ks)) ∧ RepK K ι H kvs ks
  | .scr ds => ∃ o vs, H a = some (.frz o (.lst vs)) ∧ RepL K ι H ds vs
  | .tpl ds => ∃ o vs, H a = some (.frz o (.tup vs)) ∧ o.cls = .type "tuple" ∧ o.dict = none ∧ RepL K ι H ds vs
structure Sim (K : PySem.W.Frag) (ι : List Addr) (H : Hp) (S : Sto) : Prop where
  nd : ι.Nodup
  len : ι.length = S.length
  ob : ∀ (n : Nat) (a : Addr) (o : Ob), ι[n]? = some a → S[n]? = some o → RepO K ι H a o
def RepE (K : PySem.W.Frag) (ι : List Addr) (H : Hp) (σ : St) (ρ : Ev) : Prop :=
  σ.length = ρ.length ∧ ∀ (i : Nat) (d : D), ρ[i]? = some (some d) → ∃ v, σ[i]? = some (some v) ∧ RepV K ι H d v
structure Grow (ι : List Addr) (H : Hp) (ι' : List Addr) (H' : Hp) : Prop where
  pre : ι <+: ι'
  keep : ∀ a o, H a = some o → a ∉ ι → H' a = some o
  fresh : ∀ a, a ∈ ι' → a ∉ ι → H a = none
  frz : ∀ a od u, H a = some (.frz od u) → H' a = some (.frz od u)
theorem Grow.refl (ι : List Addr) (H : Hp) : Grow ι H ι H := ⟨List.prefix_rfl, fun _ _ e _ => e, fun _ h n => absurd h n, fun _ _ _ e => e⟩
theorem Grow.trans {ι ι1 ι2 : List Addr} {H H1 H2 : Hp} (a : Grow ι H ι1 H1) (b : Grow ι1 H1 ι2 H2) : Grow ι H ι2 H2 where
  pre := a.pre.trans b.pre
  keep := fun c o e n => b.keep c o (a.keep c o e n) fun z => by
    have := a.fresh c z n
    rw [this] at e; cases e
  fresh := fun c h n => by
    by_cases z : c ∈ ι1
    · exact a.fresh c z n
    · have q := b.fresh c h z
      cases e : H c with
      | none => rfl
      | some o => rw [a.keep c o e n] at q; cases q
  frz := fun c od u e => b.frz c od u (a.frz c od u e)
theorem Grow.rd {ι ι' : List Addr} {H H' : Hp} {a : Addr} {u : HO} (g : Grow ι H ι' H') (n : a ∉ ι) (r : H a = some u) : a ∉ ι' ∧ H' a = some u := by
  refine ⟨fun z => ?_, g.keep _ _ r n⟩
  have q := g.fresh a z n
  rw [q] at r; cases r
theorem TupAt.grow {K : PySem.W.Frag} {ι ι' : List Addr} {H H' : Hp} {a : Addr} {vs : List V} (g : Grow ι H ι' H') (h : TupAt K ι H a vs) : TupAt K ι' H' a vs := by
  rcases h with ⟨n, r⟩ | h
  · exact .inl (g.rd n r)
  · exact .inr h
theorem KlAt.grow {K : PySem.W.Frag} {ι ι' : List Addr} {H H' : Hp} {a : Addr} {vs : List V} (g : Grow ι H ι' H') (h : KlAt K ι H a vs) : KlAt K ι' H' a vs := by
  rcases h with ⟨n, o, r⟩ | h
  · exact .inl ⟨(g.rd n r).1, o, (g.rd n r).2⟩
  · exact .inr h
theorem LstAt.grow {ι ι' : List Addr} {H H' : Hp} {a : Addr} {vs : List V} (g : Grow ι H ι' H') (h : LstAt ι H a vs) : LstAt ι' H' a vs := g.rd h.1 h.2
theorem getElem?_pre {ι ι' : List Addr} (p : ι <+: ι') {n : Nat} {a : Addr} (h : ι[n]? = some a) : ι'[n]? = some a := by
  obtain ⟨t, rfl⟩ := p
  have hn : n < ι.length := (List.getElem?_eq_some_iff.mp h).1
  rw [List.getElem?_append_left hn]; exact h
mutual
theorem RepV.grow {K : PySem.W.Frag} {ι ι' : List Addr} {H H' : Hp} (g : Grow ι H ι' H') : ∀ (d : D) (v : V), RepV K ι H d v → RepV K ι' H' d v
  | .non, _, h => by rw [RepV] at h ⊢; exact h
  | .bl _, _, h => by rw [RepV] at h ⊢; exact h
  | .int _, _, h => by rw [RepV] at h ⊢; exact h
  | .str _, _, h => by rw [RepV] at h ⊢; exact h
  | .ty _, _, h => by rw [RepV] at h ⊢; exact h
  | .fn _, _, h => by rw [RepV] at h ⊢; exact h
  | .loc n, _, h => by
    rw [RepV] at h ⊢
    obtain ⟨a, e, r⟩ := h
    exact ⟨a, getElem?_pre g.pre e, r⟩
  | .tup ds, _, h => by
    rw [RepV] at h ⊢
    obtain ⟨a, vs, e, t, r⟩ := h
    exact ⟨a, vs, e, t.grow g, RepL.grow g ds vs r⟩
  | .fl ds, _, h => by
    rw [RepV] at h ⊢
    obtain ⟨a, vs, e, t, r⟩ := h
    exact ⟨a, vs, e, t.grow g, RepL.grow g ds vs r⟩
  | .kl ds, _, h => by
    rw [RepV] at h ⊢
    obtain ⟨a, vs, e, t, r⟩ := h
    exact ⟨a, vs, e, t.grow g, RepL.grow g ds vs r⟩
  | .fd kvs, _, h => by
    rw [RepV] at h ⊢
    obtain ⟨a, vs, e, n, t, r⟩ := h
    have q := g.rd n t
    exact ⟨a, vs, e, q.1, g.keep _ _ t n, RepK.grow g kvs vs r⟩
  | .exc c fs, _, h => by
    rw [RepV] at h ⊢
    obtain ⟨a, cls, dd, e, n, t, rc, r⟩ := h
    have q := g.rd n t
    refine ⟨a, cls, dd, e, q.1, q.2, rc, ?_⟩
    rcases r with r | ⟨d, vs, e1, e2, e3, e4⟩
    · exact .inl r
    · have q2 := g.rd e2 e3
      exact .inr ⟨d, vs, e1, q2.1, q2.2, RepF.grow g fs vs e4⟩
theorem RepL.grow {K : PySem.W.Frag} {ι ι' : List Addr} {H H' : Hp} (g : Grow ι H ι' H') : ∀ (ds : List D) (vs : List V), RepL K ι H ds vs → RepL K ι' H' ds vs
  | [], _, h => by rw [RepL] at h ⊢; exact h
  | d :: ds, _, h => by
    rw [RepL] at h ⊢
    obtain ⟨v, r, e, a, b⟩ := h
    exact ⟨v, r, e, RepV.grow g d v a, RepL.grow g ds r b⟩
theorem RepK.grow {K : PySem.W.Frag} {ι ι' : List Addr} {H H' : Hp} (g : Grow ι H ι' H') : ∀ (ds : List (Key × D)) (vs : List (Key × V)), RepK K ι H ds vs → RepK K ι' H' ds vs
  | [], _, h => by rw [RepK] at h ⊢; exact h
  | (k, d) :: ds, _, h => by
    rw [RepK] at h ⊢
    obtain ⟨v, r, e, a, b⟩ := h
    exact ⟨v, r, e, RepV.grow g d v a, RepK.grow g ds r b⟩
theorem RepF.grow {K : PySem.W.Frag} {ι ι' : List Addr} {H H' : Hp} (g : Grow ι H ι' H') : ∀ (ds : List (Str × D)) (vs : List (Str × V)), RepF K ι H ds vs → RepF K ι' H' ds vs
  | [], _, h => by rw [RepF] at h ⊢; exact h
  | (k, d) :: ds, _, h => by
    rw [RepF] at h ⊢
    obtain ⟨v, r, e, a, b⟩ := h
    exact ⟨v, r, e, RepV.grow g d v a, RepF.grow g ds r b⟩
end
theorem RepKT.grow {K : PySem.W.Frag} {ι ι' : List Addr} {H H' : Hp} (g : Grow ι H ι' H') : ∀ (ds : List (List Key × D)) (vs : List (List Key × V)), RepKT K ι H ds vs → RepKT K ι' H' ds vs
  | [], _, h => by rw [RepKT] at h ⊢; exact h
  | (k, d) :: ds, _, h => by
    rw [RepKT] at h ⊢
    obtain ⟨v, r, e, a, b⟩ := h
    exact ⟨v, r, e, RepV.grow g d v a, RepKT.grow g ds r b⟩
theorem RepE.grow {K : PySem.W.Frag} {ι ι' : List Addr} {H H' : Hp} {σ : St} {ρ : Ev} (g : Grow ι H ι' H') (h : RepE K ι H σ ρ) : RepE K ι' H' σ ρ :=
  ⟨h.1, fun i d e => let ⟨v, e', r⟩ := h.2 i d e; ⟨v, e', RepV.grow g d v r⟩⟩
theorem RepE.get {K : PySem.W.Frag} {ι : List Addr} {H : Hp} {σ : St} {ρ : Ev} (h : RepE K ι H σ ρ) {i : Nat} {d : D} (e : ρ[i]? = some (some d)) : ∃ v, σ[i]? = some (some v) ∧ RepV K ι H d v := h.2 i d e
theorem RepE.set {K : PySem.W.Frag} {ι : List Addr} {H : Hp} {σ : St} {ρ : Ev} (h : RepE K ι H σ ρ) {d : D} {v : V} (r : RepV K ι H d v) (i : Nat) : RepE K ι H (σ.set i (some v)) (ρ.set i (some d)) := by
  refine ⟨by simp [h.1], fun j d' e => ?_⟩
  rw [List.getElem?_set] at e ⊢
  by_cases hij : i = j
  · rw [if_pos hij] at e ⊢
    by_cases hl : i < ρ.length
    · rw [if_pos hl] at e
      rw [if_pos (by rw [h.1]; exact hl)]
      cases e
      exact ⟨v, rfl, r⟩
    · rw [if_neg hl] at e; cases e
  · rw [if_neg hij] at e ⊢
    exact h.2 j d' e
theorem RepE.drop {K : PySem.W.Frag} {ι : List Addr} {H : Hp} {σ : St} {ρ : Ev} (h : RepE K ι H σ ρ) (x : Option V) (i : Nat) : RepE K ι H (σ.set i x) (ρ.set i none) := by
  refine ⟨by simp [h.1], fun j d' e => ?_⟩
  rw [List.getElem?_set] at e ⊢
  by_cases hij : i = j
  · rw [if_pos hij] at e
    by_cases hl : i < ρ.length
    · rw [if_pos hl] at e; cases e
    · rw [if_neg hl] at e; cases e
  · rw [if_neg hij] at e ⊢
    exact h.2 j d' e
theorem RepL.length {K : PySem.W.Frag} {ι : List Addr} {H : Hp} : ∀ (ds : List D) (vs : List V), RepL K ι H ds vs → ds.length = vs.length
  | [], _, h => by rw [RepL] at h; subst h; rfl
  | d :: ds, _, h => by
    rw [RepL] at h
    obtain ⟨v, r, rfl, _, b⟩ := h
    simp [RepL.length ds r b]
theorem RepL.get {K : PySem.W.Frag} {ι : List Addr} {H : Hp} : ∀ (ds : List D) (vs : List V), RepL K ι H ds vs → ∀ (i : Nat) (d : D), ds[i]? = some d → ∃ v, vs[i]? = some v ∧ RepV K ι H d v
  | [], _, h, i, d, e => by simp at e
  | d :: ds, _, h, i, d', e => by
    rw [RepL] at h
    obtain ⟨v, r, rfl, a, b⟩ := h
    cases i with
    | zero => simp at e; subst e; exact ⟨v, rfl, a⟩
    | succ i => exact RepL.get ds r b i d' (by simpa using e)
theorem RepL.app {K : PySem.W.Frag} {ι : List Addr} {H : Hp} : ∀ (ds : List D) (vs : List V), RepL K ι H ds vs → ∀ (es : List D) (us : List V), RepL K ι H es us → RepL K ι H (ds ++ es) (vs ++ us)
  | [], _, h, es, us, h' => by rw [RepL] at h; subst h; simpa using h'
  | d :: ds, _, h, es, us, h' => by
    rw [RepL] at h
    obtain ⟨v, r, rfl, a, b⟩ := h
    show RepL K ι H (d :: (ds ++ es)) (v :: (r ++ us))
    rw [RepL]
    exact ⟨v, _, rfl, a, RepL.app ds r b es us h'⟩
theorem RepL.one {K : PySem.W.Frag} {ι : List Addr} {H : Hp} {d : D} {v : V} (h : RepV K ι H d v) : RepL K ι H [d] [v] := by
  rw [RepL]; exact ⟨v, [], rfl, h, by rw [RepL]⟩
theorem RepL.nil {K : PySem.W.Frag} {ι : List Addr} {H : Hp} : RepL K ι H [] [] := by rw [RepL]
theorem RepL.cons {K : PySem.W.Frag} {ι : List Addr} {H : Hp} {d : D} {v : V} {ds : List D} {vs : List V} (h : RepV K ι H d v) (t : RepL K ι H ds vs) : RepL K ι H (d :: ds) (v :: vs) := by
  rw [RepL]; exact ⟨v, vs, rfl, h, t⟩
theorem RepL.take {K : PySem.W.Frag} {ι : List Addr} {H : Hp} : ∀ (ds : List D) (vs : List V) (n : Nat), RepL K ι H ds vs → RepL K ι H (ds.take n) (vs.take n)
  | _, _, 0, _ => by simp [RepL]
  | [], _, n + 1, h => by rw [RepL] at h; subst h; simp [RepL]
  | d :: ds, _, n + 1, h => by
    rw [RepL] at h
    obtain ⟨v, r, rfl, a, b⟩ := h
    exact RepL.cons a (RepL.take ds r n b)
theorem RepL.drop {K : PySem.W.Frag} {ι : List Addr} {H : Hp} : ∀ (ds : List D) (vs : List V) (n : Nat), RepL K ι H ds vs → RepL K ι H (ds.drop n) (vs.drop n)
  | _, _, 0, h => h
  | [], _, n + 1, h => by rw [RepL] at h; subst h; simp [RepL]
  | d :: ds, _, n + 1, h => by
    rw [RepL] at h
    obtain ⟨v, r, rfl, a, b⟩ := h
    exact RepL.drop ds r n b
theorem RepL.set {K : PySem.W.Frag} {ι : List Addr} {H : Hp} {d : D} {v : V} (r : RepV K ι H d v) : ∀ (ds : List D) (vs : List V) (n : Nat), RepL K ι H ds vs → RepL K ι H (ds.set n d) (vs.set n v)
  | [], _, n, h => by rw [RepL] at h; subst h; simp [RepL]
  | d' :: ds, _, 0, h => by
    rw [RepL] at h
    obtain ⟨v', r', rfl, a, b⟩ := h
    exact RepL.cons r b
  | d' :: ds, _, n + 1, h => by
    rw [RepL] at h
    obtain ⟨v', r', rfl, a, b⟩ := h
    exact RepL.cons a (RepL.set r ds r' n b)
theorem RepO.grow {K : PySem.W.Frag} {ι : List Addr} {H H' : Hp} {a : Addr} {o : Ob} {ι' : List Addr} (g : Grow ι H ι' H') (e : H' a = H a) (h : RepO K ι H a o) : RepO K ι' H' a o := by
  cases o with
  | lst ds => obtain ⟨vs, q, r⟩ := h; exact ⟨vs, by rw [e]; exact q, RepL.grow g ds vs r⟩
  | ins C fs => obtain ⟨C', dx, vs, nc, q, r⟩ := h; exact ⟨C', dx, vs, nc, by rw [e]; exact q, RepF.grow g fs vs r⟩
  | dct ks => obtain ⟨vs, q, r⟩ := h; exact ⟨vs, by rw [e]; exact q, RepK.grow g ks vs r⟩
  | dtt ks => obtain ⟨o, vs, q, r⟩ := h; exact ⟨o, vs, by rw [e]; exact q, RepK.grow g ks vs r⟩
  | scr ds => obtain ⟨o, vs, q, r⟩ := h; exact ⟨o, vs, by rw [e]; exact q, RepL.grow g ds vs r⟩
  | tpl ds => obtain ⟨o, vs, q, c1, c2, r⟩ := h; exact ⟨o, vs, by rw [e]; exact q, c1, c2, RepL.grow g ds vs r⟩
theorem RepO.some {K : PySem.W.Frag} {ι : List Addr} {H : Hp} {a : Addr} {o : Ob} (h : RepO K ι H a o) : ∃ u, H a = some u := by
  cases o with
  | lst ds => obtain ⟨vs, q, _⟩ := h; exact ⟨_, q⟩
  | ins C fs => obtain ⟨C', dx, vs, _, q, _⟩ := h; exact ⟨_, q⟩
  | dct ks => obtain ⟨vs, q, _⟩ := h; exact ⟨_, q⟩
  | dtt ks => obtain ⟨o, vs, q, _⟩ := h; exact ⟨_, q⟩
  | scr ds => obtain ⟨o, vs, q, _⟩ := h; exact ⟨_, q⟩
  | tpl ds => obtain ⟨o, vs, q, _⟩ := h; exact ⟨_, q⟩
theorem Sim.there {K : PySem.W.Frag} {ι : List Addr} {H : Hp} {S : Sto} (s : Sim K ι H S) {a : Addr} (h : a ∈ ι) : ∃ u, H a = some u := by
  obtain ⟨n, hn, rfl⟩ := List.mem_iff_getElem.mp h
  have hs : n < S.length := by rw [← s.len]; exact hn
  exact (s.ob n ι[n] S[n] (List.getElem?_eq_some_iff.mpr ⟨hn, rfl⟩) (List.getElem?_eq_some_iff.mpr ⟨hs, rfl⟩)).some
theorem Sim.free {K : PySem.W.Frag} {ι : List Addr} {H : Hp} {S : Sto} (s : Sim K ι H S) {p : Addr} (h : H p = none) : p ∉ ι := fun z => by
  obtain ⟨u, e⟩ := s.there z
  rw [h] at e; cases e
/-- a new thing outside of the store -/
theorem Grow.upd {ι : List Addr} {H : Hp} {p : Addr} {o : HO} (h : H p = none) : Grow ι H ι (L2.upd H p o) :=
  ⟨List.prefix_rfl, fun a u e _ => by rw [upd_ne (ne_of_none e h)]; exact e, fun _ z n => absurd z n, fun a od u e => by rw [upd_ne (ne_of_none e h)]; exact e⟩
theorem Sim.upd {K : PySem.W.Frag} {ι : List Addr} {H : Hp} {S : Sto} (s : Sim K ι H S) {p : Addr} {o : HO} (h : H p = none) : Sim K ι (L2.upd H p o) S :=
  ⟨s.nd, s.len, fun n a u e1 e2 => (s.ob n a u e1 e2).grow (Grow.upd h) (by
    have hp := s.free h
    have hne : a ≠ p := fun z => hp (z ▸ List.mem_of_getElem? e1)
    rw [upd_ne hne])⟩
/-- a new place -/
theorem Grow.push {ι : List Addr} {H : Hp} {p : Addr} {o : HO} (h : H p = none) : Grow ι H (ι ++ [p]) (L2.upd H p o) :=
  ⟨List.prefix_append _ _, fun a u e _ => by rw [upd_ne (ne_of_none e h)]; exact e, fun a z n => by
    rcases List.mem_append.mp z with z | z
    · exact absurd z n
    · rw [List.mem_singleton.mp z]; exact h, fun a od u e => by rw [upd_ne (ne_of_none e h)]; exact e⟩
theorem Sim.push {K : PySem.W.Frag} {ι : List Addr} {H : Hp} {S : Sto} (s : Sim K ι H S) {p : Addr} {o : HO} {b : Ob} (h : H p = none) (r : RepO K (ι ++ [p]) (L2.upd H p o) p b) : Sim K (ι ++ [p]) (L2.upd H p o) (S ++ [b]) := by
  have hp := s.free h
  refine ⟨?_, by simp [s.len], fun n a u e1 e2 => ?_⟩
  · exact List.nodup_append.mpr ⟨s.nd, by simp, fun x hx y hy => by rw [List.mem_singleton.mp hy]; exact fun z => hp (z ▸ hx)⟩
  · by_cases hn : n < ι.length
    · rw [List.getElem?_append_left hn] at e1
      rw [List.getElem?_append_left (by rw [← s.len]; exact hn)] at e2
      refine (s.ob n a u e1 e2).grow (Grow.push h) ?_
      have hne : a ≠ p := fun z => hp (z ▸ List.mem_of_getElem? e1)
      rw [upd_ne hne]
    · rw [List.getElem?_append_right (by omega)] at e1
      rw [List.getElem?_append_right (by rw [← s.len]; omega)] at e2
      rw [← s.len] at e2
      have hl := (List.getElem?_eq_some_iff.mp e1).1
      have : n - ι.length = 0 := by simpa using hl
      rw [this] at e1 e2
      simp at e1 e2
      subst e1; subst e2
      exact r
/-- a place changed -/
def NoFrz (u : HO) : Prop := ∀ od v, u ≠ .frz od v
theorem Grow.put {ι : List Addr} {H : Hp} {p : Addr} {o u0 : HO} (h : p ∈ ι) (hu : H p = some u0) (hf : NoFrz u0) : Grow ι H ι (L2.upd H p o) :=
  ⟨List.prefix_rfl, fun a u e n => by
    have hne : a ≠ p := fun z => n (z ▸ h)
    rw [upd_ne hne]; exact e, fun _ z n => absurd z n, fun a od u e => by
    have hne : a ≠ p := fun z => by
      rw [z, hu] at e
      exact hf _ _ (Option.some.inj e)
    rw [upd_ne hne]; exact e⟩
theorem Sim.put {K : PySem.W.Frag} {ι : List Addr} {H : Hp} {S : Sto} (s : Sim K ι H S) {p : Addr} {o u0 : HO} {b : Ob} {m : Nat} (h : ι[m]? = some p) (hu : H p = some u0) (hf : NoFrz u0) (r : RepO K ι (L2.upd H p o) p b) : Sim K ι (L2.upd H p o) (S.set m b) := by
  refine ⟨s.nd, by simp [s.len], fun n a u e1 e2 => ?_⟩
  by_cases hn : n = m
  · subst hn
    rw [h] at e1; cases e1
    have hl : n < S.length := by rw [← s.len]; exact (List.getElem?_eq_some_iff.mp h).1
    rw [List.getElem?_set_self hl] at e2; cases e2
    exact r
  · rw [List.getElem?_set_ne (Ne.symm hn)] at e2
    refine (s.ob n a u e1 e2).grow (Grow.put (List.mem_of_getElem? h) hu hf) ?_
    rw [upd_ne]
    rintro rfl
    obtain ⟨h1, q1⟩ := List.getElem?_eq_some_iff.mp e1
    obtain ⟨h2, q2⟩ := List.getElem?_eq_some_iff.mp h
    exact hn ((List.getElem_inj s.nd).mp (q1.trans q2.symm))
/-- a raised exception: its class, its own dict -/
def RepX (K : PySem.W.Frag) (ι : List Addr) (H : Hp) (e : Ex) (cls : Value) (dd : Option Addr) : Prop :=
  RepC K e.cls cls ∧ ((dd = none ∧ e.fs = []) ∨ ∃ a vs, dd = some a ∧ a ∉ ι ∧ H a = some (.xd vs) ∧ RepF K ι H e.fs vs)
/-- behind a result: what is wanted of a value, W of an exception -/
def Post {α : Type} (K : PySem.W.Frag) (W : WX) (σ : St) (ι : List Addr) (H : Hp) (r : R α) (P : α → Sto → List Addr → Hp → Prop) : Prop := match r with
  | .ok a S' => ∀ ι' H', Grow ι H ι' H' → Sim K ι' H' S' → P a S' ι' H'
  | .er e S' => ∀ ι' H' cls dd, Grow ι H ι' H' → Sim K ι' H' S' → RepX K ι' H' e cls dd → W cls dd σ H'
  | .stuck => False
theorem Post.bind {α β : Type} {K : PySem.W.Frag} {W : WX} {σ : St} {ι : List Addr} {H : Hp} {r : R α} {k : α → Sto → R β} {P : β → Sto → List Addr → Hp → Prop} (h : Post K W σ ι H (r.bind k) P) :
    Post K W σ ι H r fun a S1 ι1 H1 => Post K W σ ι1 H1 (k a S1) P := by
  cases r with
  | stuck => exact h
  | er e S => exact h
  | ok a S =>
    intro ι1 H1 G1 s1
    have h : Post K W σ ι H (k a S) P := h
    show Post K W σ ι1 H1 (k a S) P
    revert h
    cases k a S with
    | stuck => exact fun h => h
    | er e S => exact fun h ι2 H2 cls dd G2 s2 x => h ι2 H2 cls dd (G1.trans G2) s2 x
    | ok b S => exact fun h ι2 H2 G2 s2 => h ι2 H2 (G1.trans G2) s2
theorem Post.mono {α : Type} {K : PySem.W.Frag} {W : WX} {σ : St} {ι : List Addr} {H : Hp} {r : R α} {P P' : α → Sto → List Addr → Hp → Prop} (h : Post K W σ ι H r P)
    (i : ∀ a S' ι' H', Grow ι H ι' H' → Sim K ι' H' S' → P a S' ι' H' → P' a S' ι' H') : Post K W σ ι H r P' := by
  cases r with
  | stuck => exact h
  | er e S => exact h
  | ok a S => exact fun ι' H' G s => i a S ι' H' G s (h ι' H' G s)
theorem Post.here {α : Type} {K : PySem.W.Frag} {W : WX} {σ : St} {ι : List Addr} {H : Hp} {a : α} {S : Sto} {P : α → Sto → List Addr → Hp → Prop} (h : Post K W σ ι H (.ok a S) P) (s : Sim K ι H S) : P a S ι H := h ι H (Grow.refl ι H) s
/-- the world of a piece of code: the store's addresses, the data of the slots, the store -/
def rdE (K : PySem.W.Frag) (W : WX) (f : Ev → Sto → R D) : TE := fun σ H Q => ∃ ι ρ S, RepE K ι H σ ρ ∧ Sim K ι H S ∧ Post K W σ ι H (f ρ S) fun d _ ι' H' => ∀ v, RepV K ι' H' d v → Q v H'
def rdT (K : PySem.W.Frag) (W : WX) (f : Ev → Sto → R Bool) : TT := fun σ H Q => ∃ ι ρ S, RepE K ι H σ ρ ∧ Sim K ι H S ∧ Post K W σ ι H (f ρ S) fun b _ _ H' => Q b H'
def rdA (K : PySem.W.Frag) (W : WX) (f : Ev → Sto → R (List D)) : TA := fun σ H Q => ∃ ι ρ S, RepE K ι H σ ρ ∧ Sim K ι H S ∧ Post K W σ ι H (f ρ S) fun ds _ ι' H' => ∀ vs, RepL K ι' H' ds vs → Q vs H'
/-- behind a statement -/
def PostS (K : PySem.W.Frag) (W : WX) (E : Ends) (ι : List Addr) (H : Hp) (r : SR) : Prop := match r with
  | .nx ρ' S' => ∀ ι' H' σ', Grow ι H ι' H' → Sim K ι' H' S' → RepE K ι' H' σ' ρ' → E.nx σ' H'
  | .rt d S' => ∀ ι' H' v, Grow ι H ι' H' → Sim K ι' H' S' → RepV K ι' H' d v → E.rt v H'
  | .bk ρ' S' => ∀ ι' H' σ', Grow ι H ι' H' → Sim K ι' H' S' → RepE K ι' H' σ' ρ' → E.bk σ' H'
  | .ct ρ' S' => ∀ ι' H' σ', Grow ι H ι' H' → Sim K ι' H' S' → RepE K ι' H' σ' ρ' → E.ct σ' H'
  | .er e ρ' S' => ∀ ι' H' σ' cls dd, Grow ι H ι' H' → Sim K ι' H' S' → RepE K ι' H' σ' ρ' → RepX K ι' H' e cls dd → W cls dd σ' H'
  | .stuck => False
theorem PostS.grow {K : PySem.W.Frag} {W : WX} {E : Ends} {ι ι1 : List Addr} {H H1 : Hp} {r : SR} (h : PostS K W E ι H r) (G : Grow ι H ι1 H1) : PostS K W E ι1 H1 r := by
  cases r with
  | stuck => exact h
  | nx ρ S => exact fun ι' H' σ' G1 => h ι' H' σ' (G.trans G1)
  | bk ρ S => exact fun ι' H' σ' G1 => h ι' H' σ' (G.trans G1)
  | ct ρ S => exact fun ι' H' σ' G1 => h ι' H' σ' (G.trans G1)
  | rt d S => exact fun ι' H' v G1 => h ι' H' v (G.trans G1)
  | er e ρ S => exact fun ι' H' σ' cls dd G1 => h ι' H' σ' cls dd (G.trans G1)
def rdS (K : PySem.W.Frag) (W : WX) (F : Ev → Sto → SR) : TS := fun E σ H => ∃ ι ρ S, RepE K ι H σ ρ ∧ Sim K ι H S ∧ PostS K W E ι H (F ρ S)
abbrev DE (X : Cx) (W : WX) (e : Expr) (f : Ev → Sto → R D) : Prop := PE X e (rdE X.K W f)
abbrev DT (X : Cx) (W : WX) (e : Expr) (f : Ev → Sto → R Bool) : Prop := PT X e (rdT X.K W f)
abbrev DW (X : Cx) (W : WX) (e : Expr) (f : Ev → Sto → R Bool) : Prop := PW X e (rdT X.K W f)
abbrev DA (X : Cx) (W : WX) (es : List Expr) (f : Ev → Sto → R (List D)) : Prop := PA X es (rdA X.K W f)
abbrev DS (X : Cx) (W : WX) (st : Stmt) (F : Ev → Sto → SR) : Prop := PS X st (rdS X.K W F)
abbrev DSs (X : Cx) (W : WX) (st : List Stmt) (F : Ev → Sto → SR) : Prop := PSs X st (rdS X.K W F)
theorem PE.imp {X : Cx} {e : Expr} {t u : TE} (h : PE X e t) (i : ∀ σ H Q, u σ H Q → t σ H Q) : PE X e u := ⟨fun pins s σ H Q I q => h.run pins s σ H Q I (i σ H Q q)⟩
theorem PT.imp {X : Cx} {e : Expr} {t u : TT} (h : PT X e t) (i : ∀ σ H Q, u σ H Q → t σ H Q) : PT X e u := ⟨fun pins s σ H Q I q => h.run pins s σ H Q I (i σ H Q q)⟩
theorem PW.imp {X : Cx} {e : Expr} {t u : TT} (h : PW X e t) (i : ∀ σ H Q, u σ H Q → t σ H Q) : PW X e u := ⟨fun wh pins s σ H Q I q => h.run wh pins s σ H Q I (i σ H Q q)⟩
theorem PA.imp {X : Cx} {e : List Expr} {t u : TA} (h : PA X e t) (i : ∀ σ H Q, u σ H Q → t σ H Q) : PA X e u := ⟨fun p pins s σ H Q I q => h.run p pins s σ H Q I (i σ H Q q)⟩
theorem PS.imp {X : Cx} {e : Stmt} {t u : TS} (h : PS X e t) (i : ∀ D σ H, u D σ H → t D σ H) : PS X e u := ⟨fun pins s σ H D I q => h.run pins s σ H D I (i D σ H q)⟩
theorem PSs.imp {X : Cx} {e : List Stmt} {t u : TS} (h : PSs X e t) (i : ∀ D σ H, u D σ H → t D σ H) : PSs X e u := ⟨fun pins s σ H D I q => h.run pins s σ H D I (i D σ H q)⟩
end DL
namespace DL
open PySem PySem.Spec L2
open PyProof.Rows hiding St
section
variable {X : Cx} {W : WX} {pos : Pos}
def eVar (i : Nat) : Ev → Sto → R D := fun ρ S => match ρ[i]? with
  | some (some d) => .ok d S
  | _ => .stuck
def eC (d : D) : Ev → Sto → R D := fun _ S => .ok d S
theorem de_var (i : Nat) {x : Str} {pos : Pos} (hN : X.N[i]? = some x := by rfl) (hv : Vis X.env.scope x := by first | exact Or.inl rfl | exact Or.inr (Or.inl rfl) | exact Or.inr (Or.inr rfl)) (hd : (x == ("__debug__" : Str)) = false := by decide)
    (hcd : (x == ("__classdict__" : Str)) = false := by decide) : DE X W (.Name x pos) (eVar i) := by
  refine PE.imp (pe_var hN hv hd hcd) fun σ H Q ⟨ι, ρ, S, hE, hS, h⟩ => ?_
  unfold eVar at h
  split at h
  · rename_i d e
    obtain ⟨v, e', r⟩ := hE.get e
    exact ⟨v, e', h.here hS v r⟩
  · exact h.elim
theorem de_c {e : Expr} {d : D} {v : V} (h : PE X e (tC v)) (r : ∀ ι H, RepV X.K ι H d v) : DE X W e (eC d) :=
  PE.imp h fun σ H Q ⟨ι, ρ, S, hE, hS, h⟩ => h.here hS v (r ι H)
theorem de_int {i j pos} : DE X W (.Constant (.int i) j pos) (eC (.int i)) := de_c pe_int fun _ _ => by rw [RepV]
theorem de_bl {b j pos} : DE X W (.Constant (.bool b) j pos) (eC (.bl b)) := de_c pe_bl fun _ _ => by rw [RepV]
theorem de_non {j pos} : DE X W (.Constant .none j pos) (eC .non) := de_c pe_non fun _ _ => by rw [RepV]
theorem de_str {x j pos} : DE X W (.Constant (.str x) j pos) (eC (.str x)) := de_c pe_str fun _ _ => by rw [RepV]
/-- a module's constant: KRep says how the datum stands in the written part -/
def KRep (K : PySem.W.Frag) (u : Value) (d : D) : Prop := ∃ v, RelV v u ∧ ∀ ι H, RepV K ι H d v
theorem de_glob {x : Str} {d : D} {u : Value} {pos : Pos} (hg : Gl X x) (hm : X.mg x = some u) (r : KRep X.K u d) (hd : (x == ("__debug__" : Str)) = false := by decide) : DE X W (.Name x pos) (eC d) :=
  let ⟨v, rv, rr⟩ := r
  de_c (pe_glob hg hm rv hd) rr
def eOp (o : D → D → Sto → R D) (f g : Ev → Sto → R D) : Ev → Sto → R D := fun ρ S => (f ρ S).bind fun a S1 => (g ρ S1).bind fun b S2 => o a b S2
/-- a rule by values keeps the function o -/
def OpK (K : PySem.W.Frag) (r : R2) (o : D → D → Sto → R D) : Prop := ∀ (W : WX) (σ : St) (ι : List Addr) (H : Hp) (S : Sto) (x y : V) (a b : D) (Q : VK), Sim K ι H S → RepV K ι H a x → RepV K ι H b y →
  Post K W σ ι H (o a b S) (fun d _ ι' H' => ∀ v, RepV K ι' H' d v → Q v H') → r x y H Q
theorem op_seq {r : R2} {o : D → D → Sto → R D} {f g : Ev → Sto → R D} (k : OpK X.K r o) : ∀ σ H Q, rdE X.K W (eOp o f g) σ H Q → tOp r (rdE X.K W f) (rdE X.K W g) σ H Q := fun σ H Q ⟨ι, ρ, S, hE, hS, h⟩ => by
  refine ⟨ι, ρ, S, hE, hS, (Post.bind h).mono fun a S1 ι1 H1 G1 s1 h1 x rx => ?_⟩
  refine ⟨ι1, ρ, S1, hE.grow G1, s1, (Post.bind h1).mono fun b S2 ι2 H2 G2 s2 h2 y ry => ?_⟩
  exact k W σ ι2 H2 S2 x y a b Q s2 (RepV.grow G2 a x rx) ry h2
theorem de_op {a b : Expr} {op : Operator} {r : R2} {o : D → D → Sto → R D} {f g : Ev → Sto → R D} (ho : OpR X (binaryOp op) r) (k : OpK X.K r o) (ha : DE X W a f) (hb : DE X W b g) : DE X W (.BinOp a op b pos) (eOp o f g) :=
  PE.imp (pe_op ho ha hb) (op_seq k)
theorem de_cmp {a b : Expr} {op : CmpOp} {r : R2} {o : D → D → Sto → R D} {f g : Ev → Sto → R D} (ho : OpR X (compareOp op) r) (k : OpK X.K r o) (ha : DE X W a f) (hb : DE X W b g) (hm : behindInMarks op b = false) : DE X W (.Compare a [op] [b] pos) (eOp o f g) :=
  PE.imp (pe_cmpR ho ha hb hm) (op_seq k)
/-- a value's truth where it is a bool -/
def bOf : D → Sto → R Bool := fun d S => match d with
  | .bl b => .ok b S
  | _ => .stuck
def eT (f : Ev → Sto → R D) : Ev → Sto → R Bool := fun ρ S => (f ρ S).bind bOf
theorem bOf_post {K : PySem.W.Frag} {σ : St} {ι : List Addr} {H : Hp} {d : D} {S : Sto} {v : V} {Q : Bool → Hp → Prop} (h : Post K W σ ι H (bOf d S) fun b _ _ H' => Q b H') (s : Sim K ι H S) (r : RepV K ι H d v) : ∃ c, v = .bl c ∧ Q c H := by
  cases d with
  | bl b => rw [RepV] at r; exact ⟨b, r, h.here s⟩
  | _ => exact (show False from h).elim
theorem dt_of_test {e : Expr} {t : TE} {f : Ev → Sto → R D} (h : PT X e (tTest t)) (i : ∀ σ H Q, rdE X.K W f σ H Q → t σ H Q) : DT X W e (eT f) := by
  refine PT.imp h fun σ H Q ⟨ι, ρ, S, hE, hS, q⟩ => i σ H _ ⟨ι, ρ, S, hE, hS, (Post.bind q).mono fun d S1 ι1 H1 G1 s1 h1 v rv => bOf_post h1 s1 rv⟩
theorem dt_cmp {a b : Expr} {op : CmpOp} {r : R2} {o : D → D → Sto → R D} {f g : Ev → Sto → R D} (ho : OpR X (compareOp op) r) (k : OpK X.K r o) (ha : DE X W a f) (hb : DE X W b g) (hm : behindInMarks op b = false) : DT X W (.Compare a [op] [b] pos) (eT (eOp o f g)) :=
  dt_of_test (pt_cmpR ho ha hb hm) (op_seq k)
/-- an expression whose value is a bool, as a test -/
theorem dt_val {e : Expr} {f : Ev → Sto → R D} (h : DE X W e f) (he : ∀ whole, isTrue e X.env whole = (do let v ← whole; standAt e.pos; holding [v] (truthy v)) := by intro _; rfl) : DT X W e (eT f) := by
  refine PT.imp (pt_val h he) fun σ H Q ⟨ι, ρ, S, hE, hS, q⟩ => ⟨ι, ρ, S, hE, hS, (Post.bind q).mono fun d S1 ι1 H1 G1 s1 h1 v rv => bOf_post h1 s1 rv⟩
def eAnd (f g : Ev → Sto → R Bool) : Ev → Sto → R Bool := fun ρ S => (f ρ S).bind fun b S1 => if b = true then g ρ S1 else .ok false S1
def eOr (f g : Ev → Sto → R Bool) : Ev → Sto → R Bool := fun ρ S => (f ρ S).bind fun b S1 => if b = true then .ok true S1 else g ρ S1
def eNot (f : Ev → Sto → R Bool) : Ev → Sto → R Bool := fun ρ S => (f ρ S).bind fun b S1 => .ok (!b) S1
def eIf (c : Ev → Sto → R Bool) (f g : Ev → Sto → R D) : Ev → Sto → R D := fun ρ S => (c ρ S).bind fun b S1 => if b = true then f ρ S1 else g ρ S1
variable {a b c : Expr} {rest : List Expr} {f g : Ev → Sto → R Bool}
theorem dw_and1 (ha : DT X W a f) : DW X W (.BoolOp .And [a] pos) f := pw_and1 ha
theorem dw_or1 (ha : DT X W a f) : DW X W (.BoolOp .Or [a] pos) f := pw_or1 ha
theorem dw_and (ha : DT X W a f) (hb : DW X W (.BoolOp .And (b :: rest) pos) g) : DW X W (.BoolOp .And (a :: b :: rest) pos) (eAnd f g) := by
  refine PW.imp (pw_and ha hb) fun σ H Q ⟨ι, ρ, S, hE, hS, h⟩ => ⟨ι, ρ, S, hE, hS, (Post.bind h).mono fun k S1 ι1 H1 G1 s1 h1 => ?_⟩
  cases k with
  | true => rw [if_pos rfl] at h1 ⊢; exact ⟨ι1, ρ, S1, hE.grow G1, s1, h1⟩
  | false => rw [if_neg (by decide)] at h1 ⊢; exact h1.here s1
theorem dw_or (ha : DT X W a f) (hb : DW X W (.BoolOp .Or (b :: rest) pos) g) : DW X W (.BoolOp .Or (a :: b :: rest) pos) (eOr f g) := by
  refine PW.imp (pw_or ha hb) fun σ H Q ⟨ι, ρ, S, hE, hS, h⟩ => ⟨ι, ρ, S, hE, hS, (Post.bind h).mono fun k S1 ι1 H1 G1 s1 h1 => ?_⟩
  cases k with
  | false => rw [if_neg (by decide)] at h1 ⊢; exact ⟨ι1, ρ, S1, hE.grow G1, s1, h1⟩
  | true => rw [if_pos rfl] at h1 ⊢; exact h1.here s1
theorem dw_t (h : DW X W a f) : DT X W a f := PW.pt h
theorem dt_not (ha : DT X W a f) : DT X W (.UnaryOp .Not a pos) (eNot f) := by
  refine PT.imp (pt_not ha) fun σ H Q ⟨ι, ρ, S, hE, hS, h⟩ => ⟨ι, ρ, S, hE, hS, (Post.bind h).mono fun k S1 ι1 H1 G1 s1 h1 => ?_⟩
  exact h1.here s1
theorem de_if {f g : Ev → Sto → R D} {t : Ev → Sto → R Bool} (hc : DT X W c t) (ha : DE X W a f) (hb : DE X W b g) : DE X W (.IfExp c a b pos) (eIf t f g) := by
  refine PE.imp (pe_ifExp hc ha hb) fun σ H Q ⟨ι, ρ, S, hE, hS, h⟩ => ⟨ι, ρ, S, hE, hS, (Post.bind h).mono fun k S1 ι1 H1 G1 s1 h1 => ?_⟩
  cases k with
  | true => rw [if_pos rfl] at h1 ⊢; exact ⟨ι1, ρ, S1, hE.grow G1, s1, h1⟩
  | false => rw [if_neg (by decide)] at h1 ⊢; exact ⟨ι1, ρ, S1, hE.grow G1, s1, h1⟩
/-- and, or, not as values: all but the last a bool -/
def eAndV (f g : Ev → Sto → R D) : Ev → Sto → R D := fun ρ S => (f ρ S).bind fun d S1 => (bOf d S1).bind fun b S2 => if b = true then g ρ S2 else .ok (.bl false) S2
def eOrV (f g : Ev → Sto → R D) : Ev → Sto → R D := fun ρ S => (f ρ S).bind fun d S1 => (bOf d S1).bind fun b S2 => if b = true then .ok (.bl true) S2 else g ρ S2
def eNotV (f : Ev → Sto → R D) : Ev → Sto → R D := fun ρ S => (f ρ S).bind fun d S1 => (bOf d S1).bind fun b S2 => .ok (.bl (!b)) S2
theorem bOf_bind {K : PySem.W.Frag} {σ : St} {ι : List Addr} {H : Hp} {d : D} {S : Sto} {v : V} {k : Bool → Sto → R D} {P : D → Sto → List Addr → Hp → Prop} (h : Post K W σ ι H ((bOf d S).bind k) P) (s : Sim K ι H S) (r : RepV K ι H d v) :
    ∃ c, v = .bl c ∧ Post K W σ ι H (k c S) P := by
  cases d with
  | bl b => rw [RepV] at r; exact ⟨b, r, h⟩
  | _ => exact (show False from h).elim
theorem de_one {op} {f : Ev → Sto → R D} (h : DE X W a f) : DE X W (.BoolOp op [a] pos) f := pe_one h
theorem de_and {f g : Ev → Sto → R D} (ha : DE X W a f) (hb : DE X W (.BoolOp .And (b :: rest) pos) g) : DE X W (.BoolOp .And (a :: b :: rest) pos) (eAndV f g) := by
  refine PE.imp (pe_and ha hb) fun σ H Q ⟨ι, ρ, S, hE, hS, h⟩ => ⟨ι, ρ, S, hE, hS, (Post.bind h).mono fun d S1 ι1 H1 G1 s1 h1 v rv => ?_⟩
  obtain ⟨k, e, h2⟩ := bOf_bind h1 s1 rv
  refine ⟨k, e, ?_⟩
  cases k with
  | true => rw [if_pos rfl] at h2 ⊢; exact ⟨ι1, ρ, S1, hE.grow G1, s1, h2⟩
  | false => rw [if_neg (by decide)] at h2 ⊢; exact h2.here s1 _ (by rw [RepV])
theorem de_not {f : Ev → Sto → R D} (ha : DE X W a f) : DE X W (.UnaryOp .Not a pos) (eNotV f) := by
  refine PE.imp (pe_not ha) fun σ H Q ⟨ι, ρ, S, hE, hS, h⟩ => ⟨ι, ρ, S, hE, hS, (Post.bind h).mono fun d S1 ι1 H1 G1 s1 h1 v rv => ?_⟩
  obtain ⟨k, e, h2⟩ := bOf_bind h1 s1 rv
  exact ⟨k, e, h2.here s1 _ (by rw [RepV])⟩
end
end DL
namespace DL
open PySem PySem.Spec L2
open PyProof.Rows hiding St
theorem OpR.or {X : Cx} {f : Value → Value → Sem Value} {r r' : R2} (h : OpR X f r) (h' : OpR X f r') : OpR X f (fun x y H Q => r x y H Q ∨ r' x y H Q) := by
  intro pins s σ H x y v u Q I rx ry q
  rcases q with q | q
  · exact h pins s σ H x y v u Q I rx ry q
  · exact h' pins s σ H x y v u Q I rx ry q
/-- a new tuple, a new list that is not changed any more -/
theorem rep_tup {K : PySem.W.Frag} {ι : List Addr} {H : Hp} {S : Sto} {ds : List D} {vs : List V} {p : Addr} (s : Sim K ι H S) (h : H p = none) (r : RepL K ι H ds vs) : RepV K ι (upd H p (.tup vs)) (.tup ds) (.ref p) := by
  rw [RepV]
  exact ⟨p, vs, rfl, .inl ⟨s.free h, upd_same⟩, RepL.grow (Grow.upd h) ds vs r⟩
theorem rep_fl {K : PySem.W.Frag} {ι : List Addr} {H : Hp} {S : Sto} {ds : List D} {vs : List V} {p : Addr} (s : Sim K ι H S) (h : H p = none) (r : RepL K ι H ds vs) : RepV K ι (upd H p (.lst vs)) (.fl ds) (.ref p) := by
  rw [RepV]
  exact ⟨p, vs, rfl, ⟨s.free h, upd_same⟩, RepL.grow (Grow.upd h) ds vs r⟩
theorem new_tup {K : PySem.W.Frag} {W : WX} {σ : St} {ι : List Addr} {H : Hp} {S : Sto} {ds : List D} {vs : List V} {Q : VK} (h : Post K W σ ι H (.ok (.tup ds) S) fun d _ ι' H' => ∀ v, RepV K ι' H' d v → Q v H') (s : Sim K ι H S) (r : RepL K ι H ds vs) :
    ∀ p, H p = none → Q (.ref p) (upd H p (.tup vs)) := fun p hp => h ι _ (Grow.upd hp) (s.upd hp) _ (rep_tup s hp r)
theorem new_fl {K : PySem.W.Frag} {W : WX} {σ : St} {ι : List Addr} {H : Hp} {S : Sto} {ds : List D} {vs : List V} {Q : VK} (h : Post K W σ ι H (.ok (.fl ds) S) fun d _ ι' H' => ∀ v, RepV K ι' H' d v → Q v H') (s : Sim K ι H S) (r : RepL K ι H ds vs) :
    ∀ p, H p = none → Q (.ref p) (upd H p (.lst vs)) := fun p hp => h ι _ (Grow.upd hp) (s.upd hp) _ (rep_fl s hp r)
theorem new_loc {K : PySem.W.Frag} {W : WX} {σ : St} {ι : List Addr} {H : Hp} {S : Sto} {ds : List D} {vs : List V} {Q : VK} (h : Post K W σ ι H (.ok (.loc S.length) (S ++ [.lst ds])) fun d _ ι' H' => ∀ v, RepV K ι' H' d v → Q v H') (s : Sim K ι H S) (r : RepL K ι H ds vs) :
    ∀ p, H p = none → Q (.ref p) (upd H p (.lst vs)) := fun p hp => by
  refine h (ι ++ [p]) _ (Grow.push hp) (s.push hp ⟨vs, upd_same, RepL.grow (Grow.push hp) ds vs r⟩) _ ?_
  rw [RepV]
  exact ⟨p, by rw [← s.len]; simp, rfl⟩
def getL (S : Sto) (n : Nat) : Option (List D) := match S[n]? with
  | some (.lst ds) => some ds
  | _ => none
def getQ (S : Sto) (n : Nat) : Option (List D) := match S[n]? with
  | some (.lst ds) => some ds
  | some (.scr ds) => some ds
  | _ => none
def lstOf (S : Sto) : D → Option (List D)
  | .fl ds => some ds
  | .loc n => getL S n
  | _ => none
def seqOf (S : Sto) : D → Option (List D)
  | .tup ds => some ds
  | .fl ds => some ds
  | .kl ds => some ds
  | .loc n => getQ S n
  | _ => none
theorem getL_some {S : Sto} {n : Nat} {ds : List D} (h : getL S n = some ds) : S[n]? = some (.lst ds) := by
  unfold getL at h
  (try unfold ifp at h); split at h
  · rename_i e; cases h; exact e
  · cases h
theorem getL_of {S : Sto} {n : Nat} {ds : List D} (h : S[n]? = some (.lst ds)) : getL S n = some ds := by unfold getL; rw [h]
theorem getQ_of {S : Sto} {n : Nat} {ds : List D} (h : S[n]? = some (.lst ds)) : getQ S n = some ds := by unfold getQ; rw [h]
theorem lst_at {K : PySem.W.Frag} {ι : List Addr} {H : Hp} {S : Sto} {d : D} {x : V} {ds : List D} (s : Sim K ι H S) (r : RepV K ι H d x) (e : lstOf S d = some ds) : ∃ p vs, x = .ref p ∧ H p = some (.lst vs) ∧ RepL K ι H ds vs := by
  cases d with
  | fl xs => cases e; rw [RepV] at r; obtain ⟨a, vs, rfl, t, q⟩ := r; exact ⟨a, vs, rfl, t.2, q⟩
  | loc n =>
    rw [RepV] at r
    obtain ⟨a, ea, rfl⟩ := r
    obtain ⟨vs, h1, h2⟩ := s.ob _ _ _ ea (getL_some e)
    exact ⟨a, vs, rfl, h1, h2⟩
  | _ => cases e
theorem seq_at {K : PySem.W.Frag} {ι : List Addr} {H : Hp} {S : Sto} {d : D} {x : V} {ds : List D} (s : Sim K ι H S) (r : RepV K ι H d x) (e : seqOf S d = some ds) : ∃ p vs, x = .ref p ∧ (SqL K H p vs ∨ SqT K H p vs) ∧ RepL K ι H ds vs := by
  cases d with
  | tup xs => cases e; rw [RepV] at r; obtain ⟨a, vs, rfl, t, q⟩ := r; exact ⟨a, vs, rfl, .inr t.sq, q⟩
  | fl xs => cases e; rw [RepV] at r; obtain ⟨a, vs, rfl, t, q⟩ := r; exact ⟨a, vs, rfl, .inl t.sq, q⟩
  | kl xs => cases e; rw [RepV] at r; obtain ⟨a, vs, rfl, t, q⟩ := r; exact ⟨a, vs, rfl, .inl t.sq, q⟩
  | loc n =>
    rw [RepV] at r
    obtain ⟨a, ea, rfl⟩ := r
    have e : getQ S n = some ds := e
    unfold getQ at e
    (try unfold ifp at e); split at e
    · rename_i q; cases e
      obtain ⟨vs, h1, h2⟩ := s.ob _ _ _ ea q
      exact ⟨a, vs, rfl, .inl (SqL.of h1), h2⟩
    · rename_i q; cases e
      obtain ⟨o, vs, h1, h2⟩ := s.ob _ _ _ ea q
      exact ⟨a, vs, rfl, .inl (.inl (.inr ⟨o, h1⟩)), h2⟩
    · cases e
  | _ => cases e
theorem tup_at {K : PySem.W.Frag} {ι : List Addr} {H : Hp} {ds : List D} {x : V} (r : RepV K ι H (.tup ds) x) : ∃ p vs, x = .ref p ∧ SqT K H p vs ∧ RepL K ι H ds vs := by
  rw [RepV] at r; obtain ⟨a, vs, rfl, t, q⟩ := r; exact ⟨a, vs, rfl, t.sq, q⟩
theorem int_at {K : PySem.W.Frag} {ι : List Addr} {H : Hp} {i : Int} {x : V} (r : RepV K ι H (.int i) x) : x = .int i := by rw [RepV] at r; exact r
theorem str_at {K : PySem.W.Frag} {ι : List Addr} {H : Hp} {i : Str} {x : V} (r : RepV K ι H (.str i) x) : x = .str i := by rw [RepV] at r; exact r
theorem int_rep {K : PySem.W.Frag} {ι : List Addr} {H : Hp} {i : Int} : RepV K ι H (.int i) (.int i) := by rw [RepV]
theorem bl_rep {K : PySem.W.Frag} {ι : List Addr} {H : Hp} {i : Bool} : RepV K ι H (.bl i) (.bl i) := by rw [RepV]
theorem str_rep {K : PySem.W.Frag} {ι : List Addr} {H : Hp} {i : Str} : RepV K ι H (.str i) (.str i) := by rw [RepV]
theorem non_rep {K : PySem.W.Frag} {ι : List Addr} {H : Hp} : RepV K ι H .non .non := by rw [RepV]
theorem rep_nil {K : PySem.W.Frag} {ι : List Addr} {H : Hp} {ds : List D} (h : RepL K ι H ds []) : ds = [] := by
  cases ds with
  | nil => rfl
  | cons d ds => rw [RepL] at h; obtain ⟨v, r, e, _⟩ := h; cases e
noncomputable def dAdd (a b : D) (S : Sto) : R D := match a, b with
  | .int i, .int j => .ok (.int (i + j)) S
  | .str x, .str y => ifp (x.length + y.length ≤ sizeLine) (.ok (.str (x ++ y)) S) .stuck
  | .tup xs, .tup ys => ifp (xs.length + ys.length ≤ sizeLine) (.ok (.tup (xs ++ ys)) S) .stuck
  | a, b => match lstOf S a, lstOf S b with
    | some xs, some ys => ifp (xs.length + ys.length ≤ sizeLine) (.ok (.fl (xs ++ ys)) S) .stuck
    | _, _ => .stuck
def dSub (a b : D) (S : Sto) : R D := match a, b with
  | .int i, .int j => .ok (.int (i - j)) S
  | _, _ => .stuck
open Classical in
noncomputable def dMul (a b : D) (S : Sto) : R D := match a, b with
  | .int i, .int j => ifp (CMul i j ∨ CMulW i j) (.ok (.int (i * j)) S) .stuck
  | a, .int k => match lstOf S a with
    | some xs => ifp (-(2 ^ 63) ≤ k ∧ k < 2 ^ 63 ∧ xs.length * k.toNat ≤ sizeLine) (.ok (.fl (List.replicate k.toNat xs).flatten) S) .stuck
    | _ => .stuck
  | _, _ => .stuck
noncomputable def dFdiv (a b : D) (S : Sto) : R D := match a, b with
  | .int i, .int j => ifp (0 < j ∧ j.natAbs.log2 < 9000) (.ok (.int (i / j)) S) .stuck
  | _, _ => .stuck
def dMod (a b : D) (S : Sto) : R D := match a, b with
  | .int i, .int j => if 0 < j then .ok (.int (i % j)) S else .stuck
  | _, _ => .stuck
noncomputable def dPow (a b : D) (S : Sto) : R D := match a, b with
  | .int i, .int j => ifp (0 ≤ j ∧ j ≤ 1000000 ∧ i.natAbs < 2 ^ 64) (.ok (.int (i ^ j.toNat)) S) .stuck
  | _, _ => .stuck
def dCmp (p : Int → Int → Bool) (a b : D) (S : Sto) : R D := match a, b with
  | .int i, .int j => .ok (.bl (p i j)) S
  | _, _ => .stuck
section
variable {X : Cx} {K : PySem.W.Frag}
def rAddD (K : PySem.W.Frag) : R2 := fun x y H Q => (∃ i j, x = .int i ∧ y = .int j ∧ Q (.int (i + j)) H) ∨ (∃ i j, x = .str i ∧ y = .str j ∧ i.length + j.length ≤ sizeLine ∧ Q (.str (i ++ j)) H) ∨ rCatA K x y H Q ∨ rCat x y H Q
theorem or_add : OpR X (binaryOp .Add) (rAddD X.K) := OpR.or op_add (OpR.or op_add_str (OpR.or op_catA op_cat))
theorem RepL.replicate {K : PySem.W.Frag} {ι : List Addr} {H : Hp} {ds : List D} {vs : List V} (h : RepL K ι H ds vs) : ∀ n : Nat, RepL K ι H (List.replicate n ds).flatten (List.replicate n vs).flatten
  | 0 => RepL.nil
  | n + 1 => by
    rw [List.replicate_succ, List.replicate_succ, List.flatten_cons, List.flatten_cons]
    exact RepL.app ds vs h _ _ (RepL.replicate h n)
theorem k_cat {W : WX} {σ : St} {ι : List Addr} {H : Hp} {S : Sto} {a b : D} {x y : V} {Q : VK} (s : Sim K ι H S) (rx : RepV K ι H a x) (ry : RepV K ι H b y)
    (h : Post K W σ ι H (match lstOf S a, lstOf S b with
    | some xs, some ys => ifp (xs.length + ys.length ≤ sizeLine) (.ok (.fl (xs ++ ys)) S) .stuck
    | _, _ => .stuck) fun d _ ι' H' => ∀ v, RepV K ι' H' d v → Q v H') : rCat x y H Q := by
  (try unfold ifp at h); split at h
  · rename_i xs ys e1 e2
    (try unfold ifp at h); split at h
    · rename_i hl
      obtain ⟨p, vs, rfl, hp, rp⟩ := lst_at s rx e1
      obtain ⟨q, us, rfl, hq, rq⟩ := lst_at s ry e2
      refine ⟨p, q, vs, us, rfl, rfl, hp, hq, ?_, new_fl h s (RepL.app _ _ rp _ _ rq)⟩
      rw [← RepL.length _ _ rp, ← RepL.length _ _ rq]; exact hl
    · exact h.elim
  · exact h.elim
theorem k_add : OpK K (rAddD K) dAdd := by
  intro W σ ι H S x y a b Q s rx ry h
  unfold dAdd at h
  (try unfold ifp at h); split at h
  · rename_i i j
    exact .inl ⟨i, j, int_at rx, int_at ry, h.here s _ int_rep⟩
  · rename_i i j
    (try unfold ifp at h); split at h
    · rename_i hl
      exact .inr (.inl ⟨i, j, str_at rx, str_at ry, hl, h.here s _ str_rep⟩)
    · exact h.elim
  · rename_i xs ys
    (try unfold ifp at h); split at h
    · rename_i hl
      obtain ⟨p, vs, rfl, hp, rp⟩ := tup_at rx
      obtain ⟨q, us, rfl, hq, rq⟩ := tup_at ry
      refine .inr (.inr (.inl ⟨p, q, vs, us, rfl, rfl, hp, hq, ?_, fun e => ?_, fun e1 e => ?_, fun _ _ => new_tup h s (RepL.app _ _ rp _ _ rq)⟩))
      · rw [← RepL.length _ _ rp, ← RepL.length _ _ rq]; exact hl
      · subst e
        have := rep_nil rp
        subst this
        exact h.here s _ (by simpa using ry)
      · subst e
        have := rep_nil rq
        subst this
        exact h.here s _ (by simpa using rx)
    · exact h.elim
  · exact .inr (.inr (.inr (k_cat s rx ry h)))
theorem k_sub : OpK K (rI0 fun i j => .int (i - j)) dSub := by
  intro W σ ι H S x y a b Q s rx ry h
  unfold dSub at h
  (try unfold ifp at h); split at h
  · rename_i i j
    exact ⟨i, j, int_at rx, int_at ry, h.here s _ int_rep⟩
  · exact h.elim
def rMulD : R2 := fun x y H Q => rI CMul (fun i j => .int (i * j)) x y H Q ∨ rI CMulW (fun i j => .int (i * j)) x y H Q ∨ rRep x y H Q
theorem or_mul : OpR X (binaryOp .Mult) rMulD := OpR.or op_mul (OpR.or op_mulW op_rep)
theorem k_mul : OpK K rMulD dMul := by
  intro W σ ι H S x y a b Q s rx ry h
  unfold dMul at h
  (try unfold ifp at h); split at h
  · rename_i i j
    (try unfold ifp at h); split at h
    · rename_i hl
      rcases hl with hl | hl
      · exact .inl ⟨i, j, int_at rx, int_at ry, hl, h.here s _ int_rep⟩
      · exact .inr (.inl ⟨i, j, int_at rx, int_at ry, hl, h.here s _ int_rep⟩)
    · exact h.elim
  · rename_i k _
    (try unfold ifp at h); split at h
    · rename_i xs e
      (try unfold ifp at h); split at h
      · rename_i hl
        obtain ⟨p, vs, rfl, hp, rp⟩ := lst_at s rx e
        refine .inr (.inr ⟨p, k, vs, rfl, int_at ry, hp, hl.1, hl.2.1, ?_, new_fl h s (RepL.replicate rp _)⟩)
        rw [← RepL.length _ _ rp]; exact hl.2.2
      · exact h.elim
    · exact h.elim
  · exact h.elim
theorem k_fdiv : OpK K (rI CDivW fun i j => .int (i / j)) dFdiv := by
  intro W σ ι H S x y a b Q s rx ry h
  unfold dFdiv at h
  (try unfold ifp at h); split at h
  · rename_i i j
    (try unfold ifp at h); split at h
    · rename_i hl
      exact ⟨i, j, int_at rx, int_at ry, hl, h.here s _ int_rep⟩
    · exact h.elim
  · exact h.elim
theorem k_mod : OpK K (rI (fun _ j => j ≠ 0) fun i j => .int (i.fmod j)) dMod := by
  intro W σ ι H S x y a b Q s rx ry h
  unfold dMod at h
  (try unfold ifp at h); split at h
  · rename_i i j
    (try unfold ifp at h); split at h
    · rename_i hl
      refine ⟨i, j, int_at rx, int_at ry, by omega, ?_⟩
      show Q (V.int (i.fmod j)) H
      rw [Int.fmod_eq_emod_of_nonneg i (by omega)]
      exact h.here s _ int_rep
    · exact h.elim
  · exact h.elim
theorem k_pow : OpK K (rI CPow fun i j => .int (i ^ j.toNat)) dPow := by
  intro W σ ι H S x y a b Q s rx ry h
  unfold dPow at h
  (try unfold ifp at h); split at h
  · rename_i i j
    (try unfold ifp at h); split at h
    · rename_i hl
      exact ⟨i, j, int_at rx, int_at ry, hl, h.here s _ int_rep⟩
    · exact h.elim
  · exact h.elim
theorem k_cmp {p : Int → Int → Bool} : OpK K (rI0 fun i j => .bl (p i j)) (dCmp p) := by
  intro W σ ι H S x y a b Q s rx ry h
  unfold dCmp at h
  (try unfold ifp at h); split at h
  · rename_i i j
    exact ⟨i, j, int_at rx, int_at ry, h.here s _ bl_rep⟩
  · exact h.elim
def dLt : D → D → Sto → R D := dCmp fun i j => decide (i < j)
def dLe : D → D → Sto → R D := dCmp fun i j => decide (i ≤ j)
def dGt : D → D → Sto → R D := dCmp fun i j => decide (j < i)
def dGe : D → D → Sto → R D := dCmp fun i j => decide (j ≤ i)
end
end DL
namespace DL
open PySem PySem.Spec L2
open PyProof.Rows hiding St
section
variable {X : Cx} {W : WX} {pos : Pos} {e : Expr} {es : List Expr}
def aNil : Ev → Sto → R (List D) := fun _ S => .ok [] S
def aCons (f : Ev → Sto → R D) (g : Ev → Sto → R (List D)) : Ev → Sto → R (List D) := fun ρ S => (f ρ S).bind fun d S1 => (g ρ S1).bind fun ds S2 => .ok (d :: ds) S2
def sOf (d : D) (S : Sto) : R (List D) := match seqOf S d with
  | some ds => .ok ds S
  | none => .stuck
def aStar (f : Ev → Sto → R D) (g : Ev → Sto → R (List D)) : Ev → Sto → R (List D) := fun ρ S => (f ρ S).bind fun d S1 => (sOf d S1).bind fun xs S2 => (g ρ S2).bind fun ds S3 => .ok (xs ++ ds) S3
theorem da_nil : DA X W [] aNil := PA.imp pa_nil fun σ H Q ⟨ι, ρ, S, hE, hS, h⟩ => h.here hS [] RepL.nil
theorem da_cons {f : Ev → Sto → R D} {g : Ev → Sto → R (List D)} (ha : DE X W e f) (hr : DA X W es g) (hs : starEach (e :: es) X.env = (false, eval e X.env) :: starEach es X.env := by rfl) : DA X W (e :: es) (aCons f g) := by
  refine PA.imp (pa_cons ha hr hs) fun σ H Q ⟨ι, ρ, S, hE, hS, h⟩ => ⟨ι, ρ, S, hE, hS, (Post.bind h).mono fun d S1 ι1 H1 G1 s1 h1 v rv => ?_⟩
  refine ⟨ι1, ρ, S1, hE.grow G1, s1, (Post.bind h1).mono fun ds S2 ι2 H2 G2 s2 h2 vs rs => ?_⟩
  exact h2.here s2 _ (RepL.cons (RepV.grow G2 d v rv) rs)
theorem sOf_bind {α : Type} {K : PySem.W.Frag} {σ : St} {ι : List Addr} {H : Hp} {d : D} {S : Sto} {v : V} {k : List D → Sto → R α} {P : α → Sto → List Addr → Hp → Prop} (h : Post K W σ ι H ((sOf d S).bind k) P) (s : Sim K ι H S) (r : RepV K ι H d v) :
    ∃ ds p vs, v = .ref p ∧ (SqL K H p vs ∨ SqT K H p vs) ∧ RepL K ι H ds vs ∧ Post K W σ ι H (k ds S) P := by
  unfold sOf at h
  cases e : seqOf S d with
  | none => rw [e] at h; exact h.elim
  | some ds =>
    rw [e] at h
    obtain ⟨p, vs, rfl, q, rl⟩ := seq_at s r e
    exact ⟨ds, p, vs, rfl, q, rl, h⟩
theorem da_star {p : Pos} {f : Ev → Sto → R D} {g : Ev → Sto → R (List D)} (ha : DE X W e f) (hr : DA X W es g) (hs : starEach (.Starred e p :: es) X.env = (true, eval e X.env) :: starEach es X.env := by rfl) : DA X W (.Starred e p :: es) (aStar f g) := by
  refine PA.imp (StX.pa_star ha hr hs) fun σ H Q ⟨ι, ρ, S, hE, hS, h⟩ => ⟨ι, ρ, S, hE, hS, (Post.bind h).mono fun d S1 ι1 H1 G1 s1 h1 v rv => ?_⟩
  obtain ⟨ds, p, vs, rfl, q, rl, h2⟩ := sOf_bind h1 s1 rv
  refine ⟨p, vs, rfl, q.symm, ι1, ρ, S1, hE.grow G1, s1, (Post.bind h2).mono fun es S2 ι2 H2 G2 s2 h2 us rs => ?_⟩
  exact h2.here s2 _ (RepL.app _ _ (RepL.grow G2 _ _ rl) _ _ rs)
noncomputable def eTup (g : Ev → Sto → R (List D)) : Ev → Sto → R D := fun ρ S => (g ρ S).bind fun ds S1 => ifp (ds.length ≤ sizeLine) (.ok (.tup ds) S1) .stuck
noncomputable def eFl (g : Ev → Sto → R (List D)) : Ev → Sto → R D := fun ρ S => (g ρ S).bind fun ds S1 => ifp (ds.length ≤ sizeLine) (.ok (.fl ds) S1) .stuck
noncomputable def eLoc (g : Ev → Sto → R (List D)) : Ev → Sto → R D := fun ρ S => (g ρ S).bind fun ds S1 => ifp (ds.length ≤ sizeLine) (.ok (.loc S1.length) (S1 ++ [.lst ds])) .stuck
theorem de_tup {k} {g : Ev → Sto → R (List D)} (h : DA X W es g) : DE X W (.Tuple es k pos) (eTup g) := by
  refine PE.imp (pe_tup h) fun σ H Q ⟨ι, ρ, S, hE, hS, h⟩ => ⟨ι, ρ, S, hE, hS, (Post.bind h).mono fun ds S1 ι1 H1 G1 s1 h1 vs rs => ?_⟩
  (try unfold ifp at h1); split at h1
  · rename_i hl
    exact ⟨by rw [← RepL.length _ _ rs]; exact hl, new_tup h1 s1 rs⟩
  · exact h1.elim
theorem de_fl {g : Ev → Sto → R (List D)} (h : DA X W es g) : DE X W (.List es pos) (eFl g) := by
  refine PE.imp (pe_lst h) fun σ H Q ⟨ι, ρ, S, hE, hS, h⟩ => ⟨ι, ρ, S, hE, hS, (Post.bind h).mono fun ds S1 ι1 H1 G1 s1 h1 vs rs => ?_⟩
  (try unfold ifp at h1); split at h1
  · rename_i hl
    exact ⟨by rw [← RepL.length _ _ rs]; exact hl, new_fl h1 s1 rs⟩
  · exact h1.elim
theorem de_loc {g : Ev → Sto → R (List D)} (h : DA X W es g) : DE X W (.List es pos) (eLoc g) := by
  refine PE.imp (pe_lst h) fun σ H Q ⟨ι, ρ, S, hE, hS, h⟩ => ⟨ι, ρ, S, hE, hS, (Post.bind h).mono fun ds S1 ι1 H1 G1 s1 h1 vs rs => ?_⟩
  (try unfold ifp at h1); split at h1
  · rename_i hl
    exact ⟨by rw [← RepL.length _ _ rs]; exact hl, new_loc h1 s1 rs⟩
  · exact h1.elim
noncomputable def dIx (a b : D) (S : Sto) : R D := match a, b with
  | .str z, .int i => ifp (z.length ≤ sizeLine) (match atI z.cps.toList i with
    | some c => .ok (.str ⟨#[c]⟩) S
    | none => .stuck) .stuck
  | a, .int i => match seqOf S a with
    | some xs => (match atI xs i with
      | some d => .ok d S
      | none => .stuck)
    | none => .stuck
  | _, _ => .stuck
theorem atI_rep {K : PySem.W.Frag} {ι : List Addr} {H : Hp} {ds : List D} {vs : List V} {i : Int} {d : D} (r : RepL K ι H ds vs) (e : atI ds i = some d) : ∃ v, atI vs i = some v ∧ RepV K ι H d v := by
  unfold atI at e ⊢
  rw [← RepL.length _ _ r]
  cases h : ixN ds.length i with
  | none => rw [h] at e; cases e
  | some j =>
    rw [h] at e
    exact RepL.get _ _ r j d e
theorem k_ix {K : PySem.W.Frag} : OpK K (rIx K) dIx := by
  intro W σ ι H S x y a b Q s rx ry h
  unfold dIx at h
  (try unfold ifp at h); split at h
  · rename_i z i
    (try unfold ifp at h); split at h
    · rename_i hz
      (try unfold ifp at h); split at h
      · rename_i c hc
        exact .inr (.inr ⟨z, i, c, str_at rx, int_at ry, hz, hc, h.here s _ str_rep⟩)
      · exact h.elim
    · exact h.elim
  · rename_i i _
    (try unfold ifp at h); split at h
    · rename_i xs e
      (try unfold ifp at h); split at h
      · rename_i d hd
        obtain ⟨p, vs, rfl, q, rl⟩ := seq_at s rx e
        obtain ⟨v, hv, rv⟩ := atI_rep rl hd
        rcases q with q | q
        · exact .inl ⟨p, vs, i, v, rfl, int_at ry, q, hv, h.here s _ rv⟩
        · exact .inr (.inl ⟨p, vs, i, v, rfl, int_at ry, q, hv, h.here s _ rv⟩)
      · exact h.elim
    · exact h.elim
  · exact h.elim
theorem de_ix {a b : Expr} {f g : Ev → Sto → R D} (ha : DE X W a f) (hb : DE X W b g) (hs : PlainIx b := by exact fun _ _ => rfl) : DE X W (.Subscript a b pos) (eOp dIx f g) :=
  PE.imp (pe_ix ix_seq ha hb hs) (op_seq k_ix)
def rdO (K : PySem.W.Frag) (W : WX) (f : Ev → Sto → R (Option Int)) : TO := fun σ H Q => ∃ ι ρ S, RepE K ι H σ ρ ∧ Sim K ι H S ∧ Post K W σ ι H (f ρ S) fun b _ _ H' => Q b H'
abbrev DO (X : Cx) (W : WX) (e : Option Expr) (f : Ev → Sto → R (Option Int)) : Prop := PO X e (rdO X.K W f)
theorem PO.imp {X : Cx} {e : Option Expr} {t u : TO} (h : PO X e t) (i : ∀ σ H Q, u σ H Q → t σ H Q) : PO X e u := ⟨fun pins s σ H Q I q => h.run pins s σ H Q I (i σ H Q q)⟩
def oNone : Ev → Sto → R (Option Int) := fun _ S => .ok none S
def iOf (d : D) (S : Sto) : R Int := match d with
  | .int i => .ok i S
  | _ => .stuck
def oSome (f : Ev → Sto → R D) : Ev → Sto → R (Option Int) := fun ρ S => (f ρ S).bind fun d S1 => (iOf d S1).bind fun i S2 => .ok (some i) S2
theorem do_none : DO X W none oNone := PO.imp po_none fun σ H Q ⟨ι, ρ, S, hE, hS, h⟩ => h.here hS
theorem do_some {f : Ev → Sto → R D} (h : DE X W e f) : DO X W (some e) (oSome f) := by
  refine PO.imp (po_some h) fun σ H Q ⟨ι, ρ, S, hE, hS, h⟩ => ⟨ι, ρ, S, hE, hS, (Post.bind h).mono fun d S1 ι1 H1 G1 s1 h1 v rv => ?_⟩
  cases d with
  | int i => exact ⟨i, int_at rv, h1.here s1⟩
  | _ => exact (show False from h1).elim
def cut {α : Type} (xs : List α) (lo hi : Option Int) : List α := (xs.drop (HT.sIx xs.length 0 lo)).take (HT.sIx xs.length xs.length hi - HT.sIx xs.length 0 lo)
noncomputable def dSl (mk : List D → Sto → R D) (a : D) (lo hi : Option Int) (S : Sto) : R D := match a with
  | .str z => ifp (z.length ≤ sizeLine) (.ok (.str (cutS z lo hi)) S) .stuck
  | .tup xs => .ok (.tup (cut xs lo hi)) S
  | a => match lstOf S a with
    | some xs => mk (cut xs lo hi) S
    | none => .stuck
def mkFl (ds : List D) (S : Sto) : R D := .ok (.fl ds) S
def mkLoc (ds : List D) (S : Sto) : R D := .ok (.loc S.length) (S ++ [.lst ds])
/-- a new list comes, frozen or into the store -/
def MkOk (mk : List D → Sto → R D) : Prop := ∀ (K : PySem.W.Frag) (W : WX) (σ : St) (ι : List Addr) (H : Hp) (S : Sto) (ds : List D) (vs : List V) (Q : VK), Post K W σ ι H (mk ds S) (fun d _ ι' H' => ∀ v, RepV K ι' H' d v → Q v H') → Sim K ι H S → RepL K ι H ds vs →
  ∀ p, H p = none → Q (.ref p) (upd H p (.lst vs))
theorem mk_fl : MkOk mkFl := fun _ _ _ _ _ _ _ _ _ h s r => new_fl h s r
noncomputable def eSl (mk : List D → Sto → R D) (f : Ev → Sto → R D) (l u : Ev → Sto → R (Option Int)) : Ev → Sto → R D := fun ρ S => (f ρ S).bind fun d S1 => (l ρ S1).bind fun lo S2 => (u ρ S2).bind fun hi S3 => dSl mk d lo hi S3
theorem cut_rep {K : PySem.W.Frag} {ι : List Addr} {H : Hp} {ds : List D} {vs : List V} (r : RepL K ι H ds vs) (lo hi : Option Int) : RepL K ι H (cut ds lo hi) (cutV vs lo hi) := by
  unfold cut cutV
  rw [← RepL.length _ _ r]
  exact RepL.take _ _ _ (RepL.drop _ _ _ r)
theorem cut_whole {α : Type} (xs : List α) (lo hi : Option Int) (h : HT.sIx xs.length 0 lo = 0 ∧ HT.sIx xs.length xs.length hi = xs.length) : cut xs lo hi = xs := by
  unfold cut
  rw [h.1, h.2]
  simp
theorem de_sl {mk : List D → Sto → R D} {lo hi : Option Expr} {p2 : Pos} {f : Ev → Sto → R D} {l u : Ev → Sto → R (Option Int)} (m : MkOk mk) (he : DE X W e f) (hl : DO X W lo l) (hu : DO X W hi u) : DE X W (.Subscript e (.Slice lo hi none p2) pos) (eSl mk f l u) := by
  refine PE.imp (pe_slice (SlR.or sl_str (SlR.or sl_tupA sl_list)) he hl hu) fun σ H Q ⟨ι, ρ, S, hE, hS, h⟩ => ⟨ι, ρ, S, hE, hS, (Post.bind h).mono fun d S1 ι1 H1 G1 s1 h1 v rv => ?_⟩
  refine ⟨ι1, ρ, S1, hE.grow G1, s1, (Post.bind h1).mono fun lo S2 ι2 H2 G2 s2 h2 => ?_⟩
  refine ⟨ι2, ρ, S2, (hE.grow G1).grow G2, s2, (Post.bind h2).mono fun hi S3 ι3 H3 G3 s3 h3 => ?_⟩
  have rv := RepV.grow G3 d v (RepV.grow G2 d v rv)
  unfold dSl at h3
  (try unfold ifp at h3); split at h3
  · (try unfold ifp at h3); split at h3
    · rename_i hz
      exact .inl ⟨_, str_at rv, hz, h3.here s3 _ str_rep⟩
    · exact h3.elim
  · obtain ⟨p, vs, rfl, q, rl⟩ := tup_at rv
    refine .inr (.inl ⟨p, vs, rfl, q, fun e => ?_, fun _ => new_tup h3 s3 (cut_rep rl _ _)⟩)
    rw [← RepL.length _ _ rl] at e
    rw [cut_whole _ _ _ e] at h3
    exact h3.here s3 _ rv
  · (try unfold ifp at h3); split at h3
    · rename_i xs e
      obtain ⟨p, vs, rfl, q, rl⟩ := lst_at s3 rv e
      exact .inr (.inr ⟨p, vs, rfl, SqL.of q, m _ _ _ _ _ _ _ _ _ h3 s3 (cut_rep rl _ _)⟩)
    · exact h3.elim
end
end DL
namespace DL
open PySem PySem.Spec L2
open PyProof.Rows hiding St
def keyPy : Key → PyData
  | .inl i => .int i
  | .inr x => .str x
mutual
def py : D → Option PyData
  | .non => some .none
  | .bl b => some (.bool b)
  | .int i => some (.int i)
  | .str x => some (.str x)
  | .tup ds => (pyL ds).map .tuple
  | .fl ds => (pyL ds).map .list
  | .kl _ => none
  | .fd kvs => (pyK kvs).map .dict
  | .ty _ => none
  | .fn _ => none
  | .exc _ _ => none
  | .loc _ => none
def pyL : List D → Option (List PyData)
  | [] => some []
  | d :: ds => (py d).bind fun p => (pyL ds).map fun ps => p :: ps
def pyK : List (Key × D) → Option (List (PyData × PyData))
  | [] => some []
  | (k, d) :: ds => (py d).bind fun p => (pyK ds).map fun ps => (keyPy k, p) :: ps
end
def pyS (S : Sto) : D → Option PyData
  | .loc n => (getQ S n).bind fun ds => (pyL ds).map .list
  | d => py d
mutual
theorem py_dp {K : PySem.W.Frag} {ι : List Addr} {H : Hp} : ∀ (d : D) (v : V) (p : PyData), RepV K ι H d v → py d = some p → p.hasDict = false → Dp K H v p
  | .non, v, p, r, e, _ => by rw [RepV] at r; rw [py] at e; cases e; subst r; exact .non
  | .bl b, v, p, r, e, _ => by rw [RepV] at r; rw [py] at e; cases e; subst r; exact .bl b
  | .int i, v, p, r, e, _ => by rw [RepV] at r; rw [py] at e; cases e; subst r; exact .int i
  | .str x, v, p, r, e, _ => by rw [RepV] at r; rw [py] at e; cases e; subst r; exact .str x
  | .tup ds, v, p, r, e, n => by
    rw [RepV] at r
    obtain ⟨a, vs, rfl, t, q⟩ := r
    rw [py] at e
    cases h : pyL ds with
    | none => rw [h] at e; cases e
    | some ps =>
      rw [h] at e; cases e
      exact .tup t.sq (pyL_dp ds vs ps q h (by simpa [PyData.hasDict] using n))
  | .fl ds, v, p, r, e, n => by
    rw [RepV] at r
    obtain ⟨a, vs, rfl, t, q⟩ := r
    rw [py] at e
    cases h : pyL ds with
    | none => rw [h] at e; cases e
    | some ps =>
      rw [h] at e; cases e
      exact .lst t.sq (pyL_dp ds vs ps q h (by simpa [PyData.hasDict] using n))
  | .kl _, v, p, r, e, _ => by rw [py] at e; cases e
  | .fd kvs, v, p, r, e, n => by
    rw [py] at e
    cases h : pyK kvs with
    | none => rw [h] at e; cases e
    | some ps => rw [h] at e; cases e; simp [PyData.hasDict] at n
  | .ty _, v, p, r, e, _ => by rw [py] at e; cases e
  | .fn _, v, p, r, e, _ => by rw [py] at e; cases e
  | .exc _ _, v, p, r, e, _ => by rw [py] at e; cases e
  | .loc _, v, p, r, e, _ => by rw [py] at e; cases e
theorem pyL_dp {K : PySem.W.Frag} {ι : List Addr} {H : Hp} : ∀ (ds : List D) (vs : List V) (ps : List PyData), RepL K ι H ds vs → pyL ds = some ps → PyData.hasDictAll ps = false → DpAll K H vs ps
  | [], vs, ps, r, e, _ => by rw [RepL] at r; rw [pyL] at e; cases e; subst r; exact .nil
  | d :: ds, vs, ps, r, e, n => by
    rw [RepL] at r
    obtain ⟨v, us, rfl, a, b⟩ := r
    rw [pyL] at e
    cases h : py d with
    | none => rw [h] at e; cases e
    | some p =>
      rw [h] at e
      cases h2 : pyL ds with
      | none => rw [h2] at e; cases e
      | some qs =>
        rw [h2] at e; cases e
        simp only [PyData.hasDictAll, Bool.or_eq_false_iff] at n
        exact .cons (py_dp d v p a h n.1) (pyL_dp ds us qs b h2 n.2)
end
theorem pyS_dp {K : PySem.W.Frag} {ι : List Addr} {H : Hp} {S : Sto} {d : D} {v : V} {p : PyData} (s : Sim K ι H S) (r : RepV K ι H d v) (e : pyS S d = some p) (n : p.hasDict = false) : Dp K H v p := by
  cases d with
  | loc m =>
    have e : (getQ S m).bind (fun ds => (pyL ds).map .list) = some p := e
    cases h : getQ S m with
    | none => rw [h] at e; cases e
    | some ds =>
      rw [h] at e
      have e : (pyL ds).map PyData.list = some p := e
      cases h2 : pyL ds with
      | none => rw [h2] at e; cases e
      | some ps =>
        rw [h2] at e; cases e
        rw [RepV] at r
        obtain ⟨a, ea, rfl⟩ := r
        have n : PyData.hasDictAll ps = false := by simpa [PyData.hasDict] using n
        unfold getQ at h
        split at h
        · rename_i q; cases h
          obtain ⟨vs, h1, h3⟩ := s.ob _ _ _ ea q
          exact .lst (SqL.of h1) (pyL_dp _ _ _ h3 h2 n)
        · rename_i q; cases h
          obtain ⟨o, vs, h1, h3⟩ := s.ob _ _ _ ea q
          exact .lst (.inl (.inr ⟨o, h1⟩)) (pyL_dp _ _ _ h3 h2 n)
        · cases h
  | _ => exact py_dp _ v p r e n
def dEqP (neg : Bool) (a b : D) (S : Sto) : R D := match pyS S a, pyS S b with
  | some p, some q => if SeqAt.shaped p = true ∧ SeqAt.shaped q = true then .ok (.bl (if neg then !PyData.eqv p q else PyData.eqv p q)) S else .stuck
  | _, _ => .stuck
def dEq (neg : Bool) (a b : D) (S : Sto) : R D := match a, b with
  | .str x, .str y => .ok (.bl (if neg then !decide (x = y) else decide (x = y))) S
  | a, b => dEqP neg a b S
theorem noDict_shaped {p : PyData} (h : SeqAt.shaped p = true) : p.hasDict = false := PyData.hasDict_of_canLay p (SeqAt.canLay_of_shaped h)
theorem or_eq {X : Cx} (hu : X.A.units + 64 < cLine) : OpR X (compareOp .Eq) (fun x y H Q => rEq x y H Q ∨ rEqD X.K x y H Q) := OpR.or op_eq (op_eqD hu)
theorem or_ne {X : Cx} (hu : X.A.units + 64 < cLine) : OpR X (compareOp .NotEq) (fun x y H Q => rNe x y H Q ∨ rNeD X.K x y H Q) := OpR.or op_ne (op_neD hu)
theorem dec_str (x y : Str) : decide ((V.str x) = V.str y) = decide (x = y) := by
  by_cases e : x = y
  · subst e; simp
  · rw [decide_eq_false e, decide_eq_false fun z => e (V.str.inj z)]
theorem k_eqD {K : PySem.W.Frag} : OpK K (fun x y H Q => rEq x y H Q ∨ rEqD K x y H Q) (dEq false) := by
  intro W σ ι H S x y a b Q s rx ry h
  unfold dEq at h
  split at h
  · rename_i u v
    rw [str_at rx, str_at ry]
    refine .inl ⟨rfl, ?_⟩
    rw [dec_str]
    exact h.here s _ bl_rep
  · unfold dEqP at h
    split at h
    · rename_i p q e1 e2
      split at h
      · rename_i hl
        exact .inr ⟨p, q, pyS_dp s rx e1 (noDict_shaped hl.1), pyS_dp s ry e2 (noDict_shaped hl.2), hl.1, hl.2, h.here s _ bl_rep⟩
      · exact h.elim
    · exact h.elim
theorem k_neD {K : PySem.W.Frag} : OpK K (fun x y H Q => rNe x y H Q ∨ rNeD K x y H Q) (dEq true) := by
  intro W σ ι H S x y a b Q s rx ry h
  unfold dEq at h
  split at h
  · rename_i u v
    rw [str_at rx, str_at ry]
    refine .inl ⟨rfl, ?_⟩
    rw [dec_str]
    exact h.here s _ bl_rep
  · unfold dEqP at h
    split at h
    · rename_i p q e1 e2
      split at h
      · rename_i hl
        exact .inr ⟨p, q, pyS_dp s rx e1 (noDict_shaped hl.1), pyS_dp s ry e2 (noDict_shaped hl.2), hl.1, hl.2, h.here s _ bl_rep⟩
      · exact h.elim
    · exact h.elim
def isN : D → Bool
  | .non => true
  | _ => false
def dIsN (neg : Bool) (a b : D) (S : Sto) : R D := match b with
  | .non => .ok (.bl (if neg then !isN a else isN a)) S
  | _ => .stuck
theorem rep_isN {K : PySem.W.Frag} {ι : List Addr} {H : Hp} {d : D} {v : V} (r : RepV K ι H d v) : decide (v = .non) = isN d := by
  cases d with
  | non => rw [RepV] at r; subst r; rfl
  | bl b => rw [RepV] at r; subst r; rfl
  | int b => rw [RepV] at r; subst r; rfl
  | str b => rw [RepV] at r; subst r; rfl
  | ty b => rw [RepV] at r; subst r; rfl
  | fn b => rw [RepV] at r; obtain ⟨a, rfl, _⟩ := r; rfl
  | exc c b => rw [RepV] at r; obtain ⟨a, _, _, rfl, _⟩ := r; rfl
  | loc b => rw [RepV] at r; obtain ⟨a, _, rfl⟩ := r; rfl
  | tup b => rw [RepV] at r; obtain ⟨a, vs, rfl, _⟩ := r; rfl
  | fl b => rw [RepV] at r; obtain ⟨a, vs, rfl, _⟩ := r; rfl
  | kl b => rw [RepV] at r; obtain ⟨a, vs, rfl, _⟩ := r; rfl
  | fd b => rw [RepV] at r; obtain ⟨a, vs, rfl, _⟩ := r; rfl
theorem k_isN {K : PySem.W.Frag} : OpK K (fun x y H Q => y = .non ∧ Q (.bl (decide (x = .non))) H) (dIsN false) := by
  intro W σ ι H S x y a b Q s rx ry h
  cases b with
  | non => rw [RepV] at ry; rw [rep_isN rx]; exact ⟨ry, h.here s _ bl_rep⟩
  | _ => exact (show False from h).elim
theorem k_notN {K : PySem.W.Frag} : OpK K (fun x y H Q => y = .non ∧ Q (.bl (!decide (x = .non))) H) (dIsN true) := by
  intro W σ ι H S x y a b Q s rx ry h
  cases b with
  | non => rw [RepV] at ry; rw [rep_isN rx]; exact ⟨ry, h.here s _ bl_rep⟩
  | _ => exact (show False from h).elim
end DL
namespace DL
open PySem PySem.Spec L2
open PyProof.Rows hiding St
def R.toS {α : Type} (r : R α) (ρ : Ev) (k : α → Sto → SR) : SR := match r with
  | .ok a S => k a S
  | .er e S => .er e ρ S
  | .stuck => .stuck
@[simp] theorem R.toS_ok {α : Type} (a : α) (S : Sto) (ρ : Ev) (k : α → Sto → SR) : (R.ok a S).toS ρ k = k a S := rfl
@[simp] theorem R.toS_er {α : Type} (e : Ex) (S : Sto) (ρ : Ev) (k : α → Sto → SR) : (R.er e S : R α).toS ρ k = .er e ρ S := rfl
@[simp] theorem R.toS_stuck {α : Type} (ρ : Ev) (k : α → Sto → SR) : (R.stuck : R α).toS ρ k = .stuck := rfl
def SR.next (r : SR) (k : Ev → Sto → SR) : SR := match r with
  | .nx ρ S => k ρ S
  | .rt d S => .rt d S
  | .bk ρ S => .bk ρ S
  | .ct ρ S => .ct ρ S
  | .er e ρ S => .er e ρ S
  | .stuck => .stuck
@[simp] theorem SR.next_nx (ρ : Ev) (S : Sto) (k : Ev → Sto → SR) : (SR.nx ρ S).next k = k ρ S := rfl
@[simp] theorem SR.next_rt (d : D) (S : Sto) (k : Ev → Sto → SR) : (SR.rt d S).next k = .rt d S := rfl
@[simp] theorem SR.next_er (e : Ex) (ρ : Ev) (S : Sto) (k : Ev → Sto → SR) : (SR.er e ρ S).next k = .er e ρ S := rfl
@[simp] theorem SR.next_bk (ρ : Ev) (S : Sto) (k : Ev → Sto → SR) : (SR.bk ρ S).next k = .bk ρ S := rfl
@[simp] theorem SR.next_ct (ρ : Ev) (S : Sto) (k : Ev → Sto → SR) : (SR.ct ρ S).next k = .ct ρ S := rfl
@[simp] theorem SR.next_stuck (k : Ev → Sto → SR) : (SR.stuck).next k = .stuck := rfl
theorem PostS.bind {α : Type} {K : PySem.W.Frag} {W : WX} {E : Ends} {σ : St} {ρ : Ev} {ι : List Addr} {H : Hp} {r : R α} {k : α → Sto → SR} (h : PostS K W E ι H (r.toS ρ k)) (hE : RepE K ι H σ ρ) :
    Post K W σ ι H r fun a S1 ι1 H1 => PostS K W E ι1 H1 (k a S1) := by
  cases r with
  | stuck => exact h
  | er e S => exact fun ι' H' cls dd G s x => h ι' H' σ cls dd G s (hE.grow G) x
  | ok a S => exact fun ι1 H1 G1 s1 => PostS.grow h G1
def dCmpI (p : Int → Int → Int) (a b : D) (S : Sto) : R D := match a, b with
  | .int i, .int j => .ok (.int (p i j)) S
  | _, _ => .stuck
def dAddI : D → D → Sto → R D := dCmpI fun i j => i + j
def dSubI : D → D → Sto → R D := dCmpI fun i j => i - j
section
variable {X : Cx} {W : WX} {pos : Pos} {e : Expr} {st : Stmt} {rest : List Stmt}
def sNil : Ev → Sto → SR := fun ρ S => .nx ρ S
def sSeq (F G : Ev → Sto → SR) : Ev → Sto → SR := fun ρ S => (F ρ S).next G
theorem dss_nil : DSs X W [] sNil := PSs.imp pss_nil fun E σ H ⟨ι, ρ, S, hE, hS, h⟩ => h ι H σ (Grow.refl _ _) hS hE
theorem dss_cons {F G : Ev → Sto → SR} (h1 : DS X W st F) (h2 : DSs X W rest G) : DSs X W (st :: rest) (sSeq F G) := by
  refine PSs.imp (pss_cons h1 h2) fun E σ H ⟨ι, ρ, S, hE, hS, h⟩ => ⟨ι, ρ, S, hE, hS, ?_⟩
  unfold sSeq at h
  cases hF : F ρ S with
  | nx ρ1 S1 => rw [hF] at h; exact fun ι1 H1 σ1 G1 s1 e1 => ⟨ι1, ρ1, S1, e1, s1, PostS.grow h G1⟩
  | rt d S1 => rw [hF] at h; exact h
  | bk ρ1 S1 => rw [hF] at h; exact h
  | ct ρ1 S1 => rw [hF] at h; exact h
  | er e ρ1 S1 => rw [hF] at h; exact h
  | stuck => rw [hF] at h; exact h
theorem dss_one {F : Ev → Sto → SR} (h1 : DS X W st F) : DSs X W [st] F := pss_one h1
def sBrk : Ev → Sto → SR := fun ρ S => .bk ρ S
def sCnt : Ev → Sto → SR := fun ρ S => .ct ρ S
def sExp (f : Ev → Sto → R D) : Ev → Sto → SR := fun ρ S => (f ρ S).toS ρ fun _ S1 => .nx ρ S1
def sRet (f : Ev → Sto → R D) : Ev → Sto → SR := fun ρ S => (f ρ S).toS ρ fun d S1 => .rt d S1
theorem ds_expr {f : Ev → Sto → R D} (he : DE X W e f) (hs : swapsWith e none pos.line X.env = pure false := by rfl) : DS X W (.Expr e pos) (sExp f) := by
  refine PS.imp (ps_expr he hs) fun E σ H ⟨ι, ρ, S, hE, hS, h⟩ => ⟨ι, ρ, S, hE, hS, (PostS.bind h hE).mono fun d S1 ι1 H1 G1 s1 h1 v rv => ?_⟩
  exact h1 ι1 H1 σ (Grow.refl _ _) s1 (hE.grow G1)
theorem ds_ret {f : Ev → Sto → R D} (he : DE X W e f) : DS X W (.Return (some e) pos) (sRet f) := by
  refine PS.imp (ps_ret he) fun E σ H ⟨ι, ρ, S, hE, hS, h⟩ => ⟨ι, ρ, S, hE, hS, (PostS.bind h hE).mono fun d S1 ι1 H1 G1 s1 h1 v rv => ?_⟩
  exact h1 ι1 H1 v (Grow.refl _ _) s1 rv
def sRetN : Ev → Sto → SR := fun _ S => .rt .non S
def sIf (c : Ev → Sto → R Bool) (F G : Ev → Sto → SR) : Ev → Sto → SR := fun ρ S => (c ρ S).toS ρ fun b S1 => if b = true then F ρ S1 else G ρ S1
theorem ds_if {c : Expr} {a b : List Stmt} {t : Ev → Sto → R Bool} {F G : Ev → Sto → SR} (hc : DT X W c t) (ha : DSs X W a F) (hb : DSs X W b G) : DS X W (.If c a b pos) (sIf t F G) := by
  refine PS.imp (ps_if hc ha hb) fun E σ H ⟨ι, ρ, S, hE, hS, h⟩ => ⟨ι, ρ, S, hE, hS, (PostS.bind h hE).mono fun b S1 ι1 H1 G1 s1 h1 => ?_⟩
  cases b with
  | true => rw [if_pos rfl] at h1 ⊢; exact ⟨ι1, ρ, S1, hE.grow G1, s1, h1⟩
  | false => rw [if_neg (by decide)] at h1 ⊢; exact ⟨ι1, ρ, S1, hE.grow G1, s1, h1⟩
abbrev Tg := D → Ev → Sto → Option (Ev × Sto)
abbrev Tgs := List D → Ev → Sto → Option (Ev × Sto)
def rdG (K : PySem.W.Frag) (T : Tg) : TG := fun v σ H Q => ∃ ι ρ S d ρ' S', RepE K ι H σ ρ ∧ Sim K ι H S ∧ RepV K ι H d v ∧ T d ρ S = some (ρ', S') ∧ ∀ ι' H' σ', Grow ι H ι' H' → Sim K ι' H' S' → RepE K ι' H' σ' ρ' → Q σ' H'
abbrev DG (X : Cx) (e : Expr) (T : Tg) : Prop := PG X e (rdG X.K T)
theorem PG.imp {X : Cx} {e : Expr} {t u : TG} (h : PG X e t) (i : ∀ v σ H Q, u v σ H Q → t v σ H Q) : PG X e u := ⟨fun pins s σ H v w Q I r q => h.run pins s σ H v w Q I r (i v σ H Q q)⟩
def tN (i : Nat) : Tg := fun d ρ S => some (ρ.set i (some d), S)
theorem dg_name (i : Nat) {x : Str} (hN : X.N.Nodup) (hi : X.N[i]? = some x := by rfl) (hx : Loc X.env.scope x := by first | exact .inl rfl | exact .inr rfl) (hf : X.fn x = true ∨ X.env.scope.names.lookup x = some .local := by first | exact .inl rfl | exact .inr rfl | assumption) : DG X (.Name x pos) (tN i) :=
  PG.imp (pg_name hN hi hx hf) fun v σ H Q ⟨ι, ρ, S, d, ρ', S', hE, hS, r, e, h⟩ => by
    cases e
    exact h ι H _ (Grow.refl _ _) hS (hE.set r i)
def rdGs (K : PySem.W.Frag) (T : Tgs) : TGs := fun vs σ H Q => ∃ ι ρ S ds ρ' S', RepE K ι H σ ρ ∧ Sim K ι H S ∧ RepL K ι H ds vs ∧ T ds ρ S = some (ρ', S') ∧ ∀ ι' H' σ', Grow ι H ι' H' → Sim K ι' H' S' → RepE K ι' H' σ' ρ' → Q σ' H'
abbrev DGs (X : Cx) (e : List Expr) (T : Tgs) : Prop := PGs X e (rdGs X.K T)
theorem PGs.imp {X : Cx} {e : List Expr} {t u : TGs} (h : PGs X e t) (i : ∀ v σ H Q, u v σ H Q → t v σ H Q) : PGs X e u := ⟨fun pins s σ H v w Q I r q => h.run pins s σ H v w Q I r (i v σ H Q q)⟩
def tNil : Tgs := fun ds ρ S => match ds with
  | [] => some (ρ, S)
  | _ => none
def tCons (T : Tg) (U : Tgs) : Tgs := fun ds ρ S => match ds with
  | d :: r => (T d ρ S).bind fun q => U r q.1 q.2
  | [] => none
theorem dgs_nil : DGs X [] tNil := PGs.imp pgs_nil fun v σ H Q ⟨ι, ρ, S, ds, ρ', S', hE, hS, r, e, h⟩ => by
  cases ds with
  | nil => cases e; rw [RepL] at r; exact ⟨r, h ι H σ (Grow.refl _ _) hS hE⟩
  | cons d ds => cases e
theorem dgs_cons {es : List Expr} {T : Tg} {U : Tgs} (h1 : DG X e T) (h2 : DGs X es U) (hs : (assignEach (e :: es) X.env).map (·.2) = assign e X.env :: (assignEach es X.env).map (·.2) := by rfl) : DGs X (e :: es) (tCons T U) :=
  PGs.imp (pgs_cons h1 h2 hs) fun v σ H Q ⟨ι, ρ, S, ds, ρ', S', hE, hS, r, e, h⟩ => by
    cases ds with
    | nil => cases e
    | cons d ds =>
      rw [RepL] at r
      obtain ⟨v, vs, rfl, rv, rl⟩ := r
      have e : (T d ρ S).bind (fun q => U ds q.1 q.2) = some (ρ', S') := e
      cases hT : T d ρ S with
      | none => rw [hT] at e; cases e
      | some q =>
        obtain ⟨ρ1, S1⟩ := q
        rw [hT] at e
        refine ⟨v, vs, rfl, ι, ρ, S, d, ρ1, S1, hE, hS, rv, hT, fun ι1 H1 σ1 G1 s1 e1 => ?_⟩
        exact ⟨ι1, ρ1, S1, ds, ρ', S', e1, s1, RepL.grow G1 _ _ rl, e, fun ι2 H2 σ2 G2 => h ι2 H2 σ2 (G1.trans G2)⟩
def tTup (n : Nat) (U : Tgs) : Tg := fun d ρ S => match d with
  | .tup ds => if ds.length = n then U ds ρ S else none
  | _ => none
theorem dg_tup {es : List Expr} {k : Nat} {U : Tgs} {n : Nat} (hc : X.calm = true) (h : DGs X es U) (hn : (assignEach es X.env).length = n := by rfl) (hst : (assignEach es X.env).findIdx? (·.1) = none := by rfl) : DG X (.Tuple es k pos) (tTup n U) :=
  PG.imp (pg_tup hc h hn hst) fun v σ H Q ⟨ι, ρ, S, d, ρ', S', hE, hS, r, e, h⟩ => by
    cases d with
    | tup ds =>
      have e : (if ds.length = n then U ds ρ S else none) = some (ρ', S') := e
      by_cases hl : ds.length = n
      · rw [if_pos hl] at e
        obtain ⟨p, vs, rfl, q, rl⟩ := tup_at r
        exact ⟨p, vs, rfl, q, by rw [← RepL.length _ _ rl]; exact hl, ι, ρ, S, ds, ρ', S', hE, hS, rl, e, h⟩
      · rw [if_neg hl] at e; cases e
    | _ => cases e
/-- o[i] = v -/
def dSet (o i v : D) (S : Sto) : Option Sto := match o, i with
  | .loc n, .int k => (getL S n).bind fun ds => (ixN ds.length k).map fun j => S.set n (.lst (ds.set j v))
  | _, _ => none
def tSub (f g : Ev → Sto → R D) : Tg := fun v ρ S => match f ρ S with
  | .ok o S1 => (match g ρ S1 with
    | .ok i S2 => (dSet o i v S2).map fun S3 => (ρ, S3)
    | _ => none)
  | _ => none
theorem dSet_some {o i v : D} {S S' : Sto} (h : dSet o i v S = some S') : ∃ n k ds j, o = .loc n ∧ i = .int k ∧ getL S n = some ds ∧ ixN ds.length k = some j ∧ S' = S.set n (.lst (ds.set j v)) := by
  unfold dSet at h
  split at h
  · rename_i n k
    cases hL : getL S n with
    | none => simp [hL] at h
    | some ds =>
      cases hj : ixN ds.length k with
      | none => simp [hL, hj] at h
      | some j =>
        simp [hL, hj] at h
        exact ⟨n, k, ds, j, rfl, rfl, hL, hj, h.symm⟩
  · cases h
theorem dg_sub {o i : Expr} {f g : Ev → Sto → R D} (ho : DE X W o f) (hi : DE X W i g) (ha : ∀ v, assign (.Subscript o i pos) X.env v = (do
      let ov ← holding [v] (eval o X.env)
      let iv ← holding [v, ov] (eval i X.env)
      standAt pos
      holding [v, ov, iv] (setItem ov iv v)
      release [v, ov, iv] []) := by intro _; rfl) : DG X (.Subscript o i pos) (tSub f g) :=
  PG.imp (pg_sub ho hi set_list ha) fun v σ H Q ⟨ι, ρ, S, d, ρ', S', hE, hS, r, e, h⟩ => by
    unfold tSub at e
    cases hf : f ρ S with
    | ok o S1 =>
      simp only [hf] at e
      refine ⟨ι, ρ, S, hE, hS, ?_⟩
      rw [hf]
      intro ι1 H1 G1 s1 x rx
      cases hg : g ρ S1 with
      | ok i S2 =>
        simp only [hg] at e
        refine ⟨ι1, ρ, S1, hE.grow G1, s1, ?_⟩
        rw [hg]
        intro ι2 H2 G2 s2 y ry
        have rx := RepV.grow G2 _ _ rx
        have rv := RepV.grow G2 _ _ (RepV.grow G1 _ _ r)
        have e : (dSet o i d S2).map (fun S3 => (ρ, S3)) = some (ρ', S') := e
        cases hd : dSet o i d S2 with
        | none => rw [hd] at e; cases e
        | some S3 =>
          rw [hd] at e
          cases e
          obtain ⟨n, k, ds, j, rfl, rfl, hL, hj, rfl⟩ := dSet_some hd
          rw [RepV] at rx
          obtain ⟨a, ea, rfl⟩ := rx
          obtain ⟨vs, h1, h3⟩ := s2.ob _ _ _ ea (getL_some hL)
          refine ⟨a, vs, k, j, rfl, int_at ry, h1, by rw [← RepL.length _ _ h3]; exact hj, ?_⟩
          have G3 : Grow ι2 H2 ι2 (upd H2 a (.lst (vs.set j v))) := Grow.put (List.mem_of_getElem? ea) h1 (fun _ _ z => by cases z)
          exact h ι2 _ σ ((G1.trans G2).trans G3) (s2.put ea h1 (fun _ _ z => by cases z) ⟨_, upd_same, RepL.set (RepV.grow G3 _ _ rv) _ _ _ (RepL.grow G3 _ _ h3)⟩) (((hE.grow G1).grow G2).grow G3)
      | er e1 S2 => simp only [hg] at e; cases e
      | stuck => simp only [hg] at e; cases e
    | er e1 S1 => simp only [hf] at e; cases e
    | stuck => simp only [hf] at e; cases e
def sAsg (f : Ev → Sto → R D) (T : Tg) : Ev → Sto → SR := fun ρ S => (f ρ S).toS ρ fun d S1 => match T d ρ S1 with
  | some (ρ', S') => .nx ρ' S'
  | none => .stuck
theorem asg_read {K : PySem.W.Frag} {f : Ev → Sto → R D} {T : Tg} : ∀ E σ H, rdS K W (sAsg f T) E σ H → tAsg (rdE K W f) (rdG K T) E σ H := fun E σ H ⟨ι, ρ, S, hE, hS, h⟩ => by
  refine ⟨ι, ρ, S, hE, hS, (PostS.bind h hE).mono fun d S1 ι1 H1 G1 s1 h1 v rv => ?_⟩
  cases hT : T d ρ S1 with
  | none => simp only [hT] at h1; exact h1.elim
  | some q =>
    obtain ⟨ρ1, S2⟩ := q
    simp only [hT] at h1
    exact ⟨ι1, ρ, S1, d, ρ1, S2, hE.grow G1, s1, rv, hT, fun ι2 H2 σ2 G2 s2 e2 => h1 ι2 H2 σ2 G2 s2 e2⟩
theorem ds_asg {tg : Expr} {f : Ev → Sto → R D} {T : Tg} (he : DE X W e f) (hg : DG X tg T) (hs : swapsWithSole [tg] e pos.line X.env = pure false := by rfl) (hw : swappedStores [tg] e X.env = pure none := by rfl)
    (h1 : (assignEach [tg] X.env).map (·.2) = [assign tg X.env] := by rfl) : DS X W (.Assign [tg] e pos) (sAsg f T) := PS.imp (ps_asg he hg hs hw h1) asg_read
/-- name = e -/
def sSet (i : Nat) (f : Ev → Sto → R D) : Ev → Sto → SR := fun ρ S => (f ρ S).toS ρ fun d S1 => .nx (ρ.set i (some d)) S1
theorem set_read {K : PySem.W.Frag} {f : Ev → Sto → R D} {i : Nat} : ∀ E σ H, rdS K W (sSet i f) E σ H → tAsg (rdE K W f) (gName i) E σ H := fun E σ H ⟨ι, ρ, S, hE, hS, h⟩ => by
  refine ⟨ι, ρ, S, hE, hS, (PostS.bind h hE).mono fun d S1 ι1 H1 G1 s1 h1 v rv => ?_⟩
  exact h1 ι1 H1 _ (Grow.refl _ _) s1 ((hE.grow G1).set rv i)
theorem ds_set (i : Nat) {x : Str} {pos' : Pos} {f : Ev → Sto → R D} (hN : X.N.Nodup) (he : DE X W e f) (hi : X.N[i]? = some x := by rfl) (hx : Loc X.env.scope x := by first | exact .inl rfl | exact .inr rfl)
    (hs : swapsWith e (some (.Name x pos')) pos.line X.env = pure false := by rfl) (hf : X.fn x = true ∨ X.env.scope.names.lookup x = some .local := by first | exact .inl rfl | exact .inr rfl | assumption) :
    DS X W (.Assign [.Name x pos'] e pos) (sSet i f) := PS.imp (ps_set hN hi hx he hs hf) set_read
/-- name op= e -/
def sAug (i : Nat) (o : D → D → Sto → R D) (f : Ev → Sto → R D) : Ev → Sto → SR := fun ρ S => match ρ[i]? with
  | some (some x) => ((f ρ S).bind fun d S1 => o x d S1).toS ρ fun z S2 => .nx (ρ.set i (some z)) S2
  | _ => .stuck
theorem ds_aug (i : Nat) {x : Str} {op : Operator} {r : TIp} {o : D → D → Sto → R D} {pos' : Pos} {f : Ev → Sto → R D} (hN : X.N.Nodup) (he : DE X W e f) (ho : PIp X op r) (k : OpK X.K r o) (hi : X.N[i]? = some x := by rfl) (hx : Loc X.env.scope x := by first | exact .inl rfl | exact .inr rfl)
    (hf : X.fn x = true ∨ X.env.scope.names.lookup x = some .local := by first | exact .inl rfl | exact .inr rfl | assumption) : DS X W (.AugAssign (.Name x pos') op e pos) (sAug i o f) := by
  refine PS.imp (ps_aug hN hi hx he ho hf) fun E σ H ⟨ι, ρ, S, hE, hS, h⟩ => ?_
  unfold sAug at h
  split at h
  · rename_i d hd
    obtain ⟨v, hv, rv⟩ := hE.get hd
    refine ⟨v, hv, ι, ρ, S, hE, hS, ((PostS.bind h hE).bind).mono fun b S1 ι1 H1 G1 s1 h1 y ry => ?_⟩
    refine k W σ ι1 H1 S1 v y d b _ s1 (RepV.grow G1 _ _ rv) ry (h1.mono fun z S2 ι2 H2 G2 s2 h2 u ru => ?_)
    exact h2 ι2 H2 _ (Grow.refl _ _) s2 (((hE.grow G1).grow G2).set ru i)
  · exact h.elim
theorem k_ipadd {K : PySem.W.Frag} : OpK K (ipI fun i j => i + j) dAddI := by
  intro W σ ι H S x y a b Q s rx ry h
  unfold dAddI dCmpI at h
  split at h
  · rename_i i j
    exact ⟨i, j, int_at rx, int_at ry, h.here s _ int_rep⟩
  · exact h.elim
/-- a, b = x, y and a, b, c = x, y, z with plain locals -/
def sPar2 (i j : Nat) (g : Ev → Sto → R (List D)) : Ev → Sto → SR := fun ρ S => (g ρ S).toS ρ fun ds S1 => match ds with
  | [a, b] => .nx ((ρ.set i (some a)).set j (some b)) S1
  | _ => .stuck
theorem ds_par2 (i j : Nat) {x y : Str} {a b : Expr} {g : Ev → Sto → R (List D)} {px py pt : Pos} {kt k2 pt2} (hc : X.calm = true) (hN : X.N.Nodup) (ha : DA X W [a, b] g) (hij : i ≠ j := by decide) (hi : X.N[i]? = some x := by rfl) (hj : X.N[j]? = some y := by rfl)
    (hx : X.env.scope.names.lookup x = some .local := by rfl) (hy : X.env.scope.names.lookup y = some .local := by rfl)
    (hw : swappedStores [.Tuple [.Name x px, .Name y py] kt pt] (.Tuple [a, b] k2 pt2) X.env = pure (some [x, y]) := by rfl)
    (hs : swapsWithSole [.Tuple [.Name x px, .Name y py] kt pt] (.Tuple [a, b] k2 pt2) pos.line X.env = pure false := by rfl) :
    DS X W (.Assign [.Tuple [.Name x px, .Name y py] kt pt] (.Tuple [a, b] k2 pt2) pos) (sPar2 i j g) := by
  refine PS.imp (ps_par hc hN hi hj hij hx hy ha hw hs) fun E σ H ⟨ι, ρ, S, hE, hS, h⟩ => ⟨ι, ρ, S, hE, hS, (PostS.bind h hE).mono fun ds S1 ι1 H1 G1 s1 h1 vs rs => ?_⟩
  split at h1
  · rw [RepL] at rs
    obtain ⟨v, r, rfl, rv, rs⟩ := rs
    rw [RepL] at rs
    obtain ⟨u, r, rfl, ru, rs⟩ := rs
    rw [RepL] at rs
    subst rs
    exact ⟨v, u, rfl, h1 ι1 H1 _ (Grow.refl _ _) s1 (((hE.grow G1).set rv i).set ru j)⟩
  · exact h1.elim
end
end DL
namespace DL
open PySem PySem.Spec L2
open PyProof.Rows hiding St
abbrev Src := List D × (Sto → Prop)
def ItOk (K : PySem.W.Frag) (J : It) (ι : List Addr) (H : Hp) (q : Src) : Prop := ∀ ι1 H1 S1, Grow ι H ι1 H1 → Sim K ι1 H1 S1 → q.2 S1 →
  (∀ i, q.1.length ≤ i → J.stop i H1) ∧ ∀ i d, q.1[i]? = some d → J.go i H1 ∧ ∀ x H2, J.yld i H1 x H2 → Grow ι1 H1 ι1 H2 ∧ Sim K ι1 H2 S1 ∧ RepV K ι1 H2 d x
def rdI (K : PySem.W.Frag) (W : WX) (f : Ev → Sto → R Src) : TI := fun σ H Rr => ∃ ι ρ S, RepE K ι H σ ρ ∧ Sim K ι H S ∧ Post K W σ ι H (f ρ S) fun q _ ι' H' => ∀ J, ItOk K J ι' H' q → Rr J H'
abbrev DI (X : Cx) (W : WX) (tg iter : Expr) (f : Ev → Sto → R Src) : Prop := PI X tg iter (rdI X.K W f)
theorem PI.imp {X : Cx} {tg e : Expr} {t u : TI} (h : PI X tg e t) (i : ∀ σ H Q, u σ H Q → t σ H Q) : PI X tg e u := ⟨fun pins s σ H Q I q => h.run pins s σ H Q I (i σ H Q q)⟩
theorem PI.or {X : Cx} {tg e : Expr} {t u : TI} (h : PI X tg e t) (h' : PI X tg e u) : PI X tg e (fun σ H Q => t σ H Q ∨ u σ H Q) := ⟨fun pins s σ H Q I q => by
  rcases q with q | q
  · exact h.run pins s σ H Q I q
  · exact h'.run pins s σ H Q I q⟩
def yes : Sto → Prop := fun _ => True
def srcOf (d : D) (S : Sto) : R Src := match d with
  | .tup ds => .ok (ds, yes) S
  | .fl ds => .ok (ds, yes) S
  | .kl ds => .ok (ds, yes) S
  | .loc n => (match getQ S n with
    | some ds => .ok (ds, fun S => getQ S n = some ds) S
    | none => .stuck)
  | _ => .stuck
def iSeq (f : Ev → Sto → R D) : Ev → Sto → R Src := fun ρ S => (f ρ S).bind srcOf
theorem itl_ok {K : PySem.W.Frag} {ι : List Addr} {H : Hp} {ds : List D} {a : Addr} {g : Sto → Prop} (h : ∀ ι1 H1 S1, Grow ι H ι1 H1 → Sim K ι1 H1 S1 → g S1 → ∃ vs, SqL K H1 a vs ∧ RepL K ι1 H1 ds vs) : ItOk K (Itl K a) ι H (ds, g) := fun ι1 H1 S1 G s gs => by
  obtain ⟨vs, q, r⟩ := h ι1 H1 S1 G s gs
  refine ⟨fun i hi => ⟨vs, q, by rw [← RepL.length _ _ r]; exact hi⟩, fun i d e => ?_⟩
  obtain ⟨v, hv, rv⟩ := RepL.get _ _ r i d e
  refine ⟨⟨vs, v, q, hv⟩, fun x H2 y => ?_⟩
  obtain ⟨rfl, y⟩ := y
  have := y vs q
  rw [hv] at this; cases this
  exact ⟨Grow.refl _ _, s, rv⟩
theorem itt_ok {K : PySem.W.Frag} {ι : List Addr} {H : Hp} {ds : List D} {a : Addr} {g : Sto → Prop} (h : ∀ ι1 H1 S1, Grow ι H ι1 H1 → Sim K ι1 H1 S1 → g S1 → ∃ vs, SqT K H1 a vs ∧ RepL K ι1 H1 ds vs) : ItOk K (Itt K a) ι H (ds, g) := fun ι1 H1 S1 G s gs => by
  obtain ⟨vs, q, r⟩ := h ι1 H1 S1 G s gs
  refine ⟨fun i hi => ⟨vs, q, by rw [← RepL.length _ _ r]; exact hi⟩, fun i d e => ?_⟩
  obtain ⟨v, hv, rv⟩ := RepL.get _ _ r i d e
  refine ⟨⟨vs, v, q, hv⟩, fun x H2 y => ?_⟩
  obtain ⟨rfl, y⟩ := y
  have := y vs q
  rw [hv] at this; cases this
  exact ⟨Grow.refl _ _, s, rv⟩
theorem loc_at {K : PySem.W.Frag} {ι : List Addr} {H : Hp} {S : Sto} {n : Nat} {a : Addr} {ds : List D} (s : Sim K ι H S) (ea : ι[n]? = some a) (e : getQ S n = some ds) : ∃ vs, SqL K H a vs ∧ RepL K ι H ds vs := by
  unfold getQ at e
  (try unfold ifp at e); split at e
  · rename_i q; cases e
    obtain ⟨vs, h1, h2⟩ := s.ob _ _ _ ea q
    exact ⟨vs, SqL.of h1, h2⟩
  · rename_i q; cases e
    obtain ⟨o, vs, h1, h2⟩ := s.ob _ _ _ ea q
    exact ⟨vs, .inl (.inr ⟨o, h1⟩), h2⟩
  · cases e
/-- what a list or tuple that is walked gives, whatever turns behind it -/
theorem src_stands {K : PySem.W.Frag} {ι : List Addr} {H : Hp} {S : Sto} {d : D} {q : Src} {S' : Sto} {v : V} (e : srcOf d S = .ok q S') (s : Sim K ι H S) (r : RepV K ι H d v) : S' = S ∧ ∃ a, v = .ref a ∧
    ((∀ ι1 H1 S1, Grow ι H ι1 H1 → Sim K ι1 H1 S1 → q.2 S1 → ∃ vs, SqT K H1 a vs ∧ RepL K ι1 H1 q.1 vs) ∨ (∀ ι1 H1 S1, Grow ι H ι1 H1 → Sim K ι1 H1 S1 → q.2 S1 → ∃ vs, SqL K H1 a vs ∧ RepL K ι1 H1 q.1 vs)) ∧ q.2 S := by
  cases d with
  | tup ds =>
    cases e
    rw [RepV] at r
    obtain ⟨a, vs, rfl, t, rl⟩ := r
    exact ⟨rfl, a, rfl, .inl fun ι1 H1 S1 G s1 _ => ⟨vs, (t.grow G).sq, RepL.grow G _ _ rl⟩, True.intro⟩
  | fl ds =>
    cases e
    rw [RepV] at r
    obtain ⟨a, vs, rfl, t, rl⟩ := r
    exact ⟨rfl, a, rfl, .inr fun ι1 H1 S1 G s1 _ => ⟨vs, (t.grow G).sq, RepL.grow G _ _ rl⟩, True.intro⟩
  | kl ds =>
    cases e
    rw [RepV] at r
    obtain ⟨a, vs, rfl, t, rl⟩ := r
    exact ⟨rfl, a, rfl, .inr fun ι1 H1 S1 G s1 _ => ⟨vs, (t.grow G).sq, RepL.grow G _ _ rl⟩, True.intro⟩
  | loc n =>
    have e : (match getQ S n with
      | some ds => R.ok (ds, fun S => getQ S n = some ds) S
      | none => .stuck) = .ok q S' := e
    cases hq : getQ S n with
    | none => rw [hq] at e; cases e
    | some ds =>
      rw [hq] at e
      cases e
      rw [RepV] at r
      obtain ⟨a, ea, rfl⟩ := r
      refine ⟨rfl, a, rfl, .inr fun ι1 H1 S1 G s1 g1 => ?_, hq⟩
      exact loc_at s1 (getElem?_pre G.pre ea) g1
  | _ => cases e
section
variable {X : Cx} {W : WX} {pos : Pos} {e tg : Expr}
theorem di_seq {f : Ev → Sto → R D} (h : DE X W e f) : DI X W tg e (iSeq f) := by
  refine PI.imp (PI.or (pi_tup h) (pi_list h)) fun σ H Rr ⟨ι, ρ, S, hE, hS, q⟩ => ?_
  unfold iSeq at q
  cases hf : f ρ S with
  | stuck => rw [hf] at q; exact q.elim
  | er x S1 =>
    rw [hf] at q
    refine .inl ⟨ι, ρ, S, hE, hS, ?_⟩
    rw [hf]; exact q
  | ok d S1 =>
    rw [hf] at q
    replace q : Post X.K W σ ι H (srcOf d S1) fun q _ ι' H' => ∀ J, ItOk X.K J ι' H' q → Rr J H' := q
    cases hs : srcOf d S1 with
    | stuck => rw [hs] at q; exact q.elim
    | er x S2 => exfalso; unfold srcOf at hs; split at hs <;> first | cases hs | (split at hs <;> cases hs)
    | ok c S2 =>
      rw [hs] at q
      have kind : (∃ ds, d = .tup ds) ∨ (∃ ds, d = .fl ds ∨ d = .kl ds) ∨ ∃ n, d = .loc n := by
        cases d with
        | tup ds => exact .inl ⟨ds, rfl⟩
        | fl ds => exact .inr (.inl ⟨ds, .inl rfl⟩)
        | kl ds => exact .inr (.inl ⟨ds, .inr rfl⟩)
        | loc n => exact .inr (.inr ⟨n, rfl⟩)
        | _ => cases hs
      rcases kind with ⟨ds, rfl⟩ | kind
      · refine .inl ⟨ι, ρ, S, hE, hS, ?_⟩
        rw [hf]
        intro ι1 H1 G1 s1 v rv
        obtain ⟨rfl, a, rfl, st, g0⟩ := src_stands hs s1 rv
        rw [RepV] at rv
        obtain ⟨b, vs, eb, t, rl⟩ := rv
        cases eb
        cases hs
        exact ⟨a, rfl, ⟨vs, t.sq⟩, q ι1 H1 G1 s1 _ (itt_ok fun ι2 H2 S2 G s2 _ => ⟨vs, (t.grow G).sq, RepL.grow G _ _ rl⟩)⟩
      · refine .inr ⟨ι, ρ, S, hE, hS, ?_⟩
        rw [hf]
        intro ι1 H1 G1 s1 v rv
        rcases kind with ⟨ds, rfl | rfl⟩ | ⟨n, rfl⟩
        · rw [RepV] at rv
          obtain ⟨b, vs, rfl, t, rl⟩ := rv
          cases hs
          exact ⟨b, rfl, ⟨vs, t.sq⟩, q ι1 H1 G1 s1 _ (itl_ok fun ι2 H2 S2 G s2 _ => ⟨vs, (t.grow G).sq, RepL.grow G _ _ rl⟩)⟩
        · rw [RepV] at rv
          obtain ⟨b, vs, rfl, t, rl⟩ := rv
          cases hs
          exact ⟨b, rfl, ⟨vs, t.sq⟩, q ι1 H1 G1 s1 _ (itl_ok fun ι2 H2 S2 G s2 _ => ⟨vs, (t.grow G).sq, RepL.grow G _ _ rl⟩)⟩
        · rw [RepV] at rv
          obtain ⟨b, eb, rfl⟩ := rv
          have hs' : (match getQ S1 n with
            | some ds => R.ok (ds, fun S => getQ S n = some ds) S1
            | none => .stuck) = .ok c S2 := hs
          cases hq : getQ S1 n with
          | none => rw [hq] at hs'; cases hs'
          | some ds =>
            rw [hq] at hs'
            cases hs'
            obtain ⟨vs, z, _⟩ := loc_at s1 eb hq
            exact ⟨b, rfl, ⟨vs, z⟩, q ι1 H1 G1 s1 _ (itl_ok fun ι2 H2 S2 G s2 g2 => loc_at s2 (getElem?_pre G.pre eb) g2)⟩
def rangeD (lo : Int) (n : Nat) : List D := (List.range n).map fun k => .int (lo + (k : Nat))
theorem rangeD_get {lo : Int} {n i : Nat} {d : D} (h : (rangeD lo n)[i]? = some d) : i < n ∧ d = .int (lo + (i : Nat)) := by
  unfold rangeD at h
  rw [List.getElem?_map] at h
  cases e : (List.range n)[i]? with
  | none => rw [e] at h; cases h
  | some k =>
    rw [e] at h; cases h
    have := List.getElem?_eq_some_iff.mp e
    obtain ⟨h1, h2⟩ := this
    simp at h1 h2
    subst h2
    exact ⟨h1, rfl⟩
theorem rangeD_len (lo : Int) (n : Nat) : (rangeD lo n).length = n := by simp [rangeD]
theorem itr_ok {K : PySem.W.Frag} {ι : List Addr} {H : Hp} {lo : Int} {n : Nat} {g : Sto → Prop} : ItOk K (Itr lo n) ι H (rangeD lo n, g) := fun ι1 H1 S1 G s gs => by
  refine ⟨fun i hi => by rw [rangeD_len] at hi; exact hi, fun i d e => ?_⟩
  obtain ⟨hi, rfl⟩ := rangeD_get e
  refine ⟨hi, fun x H2 y => ?_⟩
  obtain ⟨rfl, rfl⟩ := y
  exact ⟨Grow.refl _ _, s, int_rep⟩
noncomputable def iRange1 (g : Ev → Sto → R (List D)) : Ev → Sto → R Src := fun ρ S => (g ρ S).bind fun ds S1 => match ds with
  | [.int j] => ifp (-(2 ^ 62) ≤ j ∧ j < 2 ^ 62) (.ok (rangeD 0 j.toNat, yes) S1) .stuck
  | _ => .stuck
noncomputable def iRange2 (g : Ev → Sto → R (List D)) : Ev → Sto → R Src := fun ρ S => (g ρ S).bind fun ds S1 => match ds with
  | [.int i, .int j] => ifp (-(2 ^ 62) ≤ i ∧ i < 2 ^ 62 ∧ -(2 ^ 62) ≤ j ∧ j < 2 ^ 62) (.ok (rangeD i (j - i).toNat, yes) S1) .stuck
  | _ => .stuck
theorem RepL.one_inv {K : PySem.W.Frag} {ι : List Addr} {H : Hp} {d : D} {vs : List V} (h : RepL K ι H [d] vs) : ∃ v, vs = [v] ∧ RepV K ι H d v := by
  rw [RepL] at h
  obtain ⟨v, r, rfl, rv, rs⟩ := h
  rw [RepL] at rs
  subst rs
  exact ⟨v, rfl, rv⟩
theorem RepL.two_inv {K : PySem.W.Frag} {ι : List Addr} {H : Hp} {d e : D} {vs : List V} (h : RepL K ι H [d, e] vs) : ∃ v u, vs = [v, u] ∧ RepV K ι H d v ∧ RepV K ι H e u := by
  rw [RepL] at h
  obtain ⟨v, r, rfl, rv, rs⟩ := h
  obtain ⟨u, rfl, ru⟩ := RepL.one_inv rs
  exact ⟨v, u, rfl, rv, ru⟩
theorem di_range1 {a : Expr} {g : Ev → Sto → R (List D)} {p pos : Pos} (hg : Gl X "range") (hm : X.mg "range" = none) (ha : DA X W [a] g) (hs : starEach [a] X.env = [(false, eval a X.env)] := by rfl) : DI X W tg (.Call (.Name "range" p) [a] [] pos) (iRange1 g) := by
  refine PI.imp (pi_range1 hg hm ha hs) fun σ H Rr ⟨ι, ρ, S, hE, hS, q⟩ => ⟨ι, ρ, S, hE, hS, (Post.bind q).mono fun ds S1 ι1 H1 G1 s1 h1 vs rs => ?_⟩
  (try unfold ifp at h1); split at h1
  · obtain ⟨v, rfl, rv⟩ := RepL.one_inv rs
    (try unfold ifp at h1); split at h1
    · rename_i hj
      exact ⟨_, by rw [int_at rv], hj.1, hj.2, h1.here s1 _ itr_ok⟩
    · exact h1.elim
  · exact h1.elim
open Classical in
noncomputable def forD (g : Sto → Prop) (T : Tg) (B Z : Ev → Sto → SR) : List D → Ev → Sto → SR
  | [], ρ, S => if g S then Z ρ S else .stuck
  | d :: ds, ρ, S => if g S then (match T d ρ S with
    | none => .stuck
    | some (ρ1, S1) => match B ρ1 S1 with
      | .nx ρ2 S2 => forD g T B Z ds ρ2 S2
      | .ct ρ2 S2 => forD g T B Z ds ρ2 S2
      | .bk ρ2 S2 => .nx ρ2 S2
      | .rt d S2 => .rt d S2
      | .er e ρ2 S2 => .er e ρ2 S2
      | .stuck => .stuck) else .stuck
noncomputable def sFor (f : Ev → Sto → R Src) (T : Tg) (B Z : Ev → Sto → SR) : Ev → Sto → SR := fun ρ S => (f ρ S).toS ρ fun q S1 => forD q.2 T B Z q.1 ρ S1
theorem for_read {K : PySem.W.Frag} {f : Ev → Sto → R Src} {T : Tg} {B Z : Ev → Sto → SR} : ∀ E σ H, rdS K W (sFor f T B Z) E σ H → tForE (rdI K W f) (rdG K T) (rdS K W B) (rdS K W Z) E σ H := fun E σ H ⟨ι, ρ, S, hE, hS, h⟩ => by
  refine ⟨ι, ρ, S, hE, hS, (PostS.bind h hE).mono fun q S1 ι1 H1 G1 s1 h1 J hJ => ?_⟩
  obtain ⟨ds, g⟩ := q
  refine ⟨fun i m σ' H' => m = ds.length - i ∧ i ≤ ds.length ∧ ∃ ι' ρ' S', Grow ι1 H1 ι' H' ∧ RepE K ι' H' σ' ρ' ∧ Sim K ι' H' S' ∧ PostS K W E ι' H' (forD g T B Z (ds.drop i) ρ' S'), ⟨_, rfl, Nat.zero_le _, ι1, ρ, S1, Grow.refl _ _, hE.grow G1, s1, h1⟩, ?_⟩
  rintro i m σ' H' ⟨rfl, hi, ι', ρ', S', G', e', s', h'⟩
  by_cases hlt : i < ds.length
  · rw [List.drop_eq_getElem_cons hlt] at h'
    unfold forD at h'
    (try unfold ifp at h'); split at h'
    · rename_i hg
      obtain ⟨-, item⟩ := hJ ι' H' S' G' s' hg
      obtain ⟨go, yl⟩ := item i ds[i] (List.getElem?_eq_some_iff.mpr ⟨hlt, rfl⟩)
      refine .inr ⟨go, fun σ2 H2 => ∃ ι2 ρ2 S2, Grow ι1 H1 ι2 H2 ∧ RepE K ι2 H2 σ2 ρ2 ∧ Sim K ι2 H2 S2 ∧ PostS K W E ι2 H2 (forD g T B Z (ds.drop (i + 1)) ρ2 S2), fun σ2 H2 hh => ⟨ds.length - (i + 1), by omega, rfl, hlt, hh⟩, fun x H2 y => ?_⟩
      obtain ⟨G2, s2, rx⟩ := yl x H2 y
      cases hT : T ds[i] ρ' S' with
      | none => simp only [hT] at h'; exact h'.elim
      | some q =>
        obtain ⟨ρ1, S2⟩ := q
        simp only [hT] at h'
        refine ⟨ι', ρ', S', ds[i], ρ1, S2, e'.grow G2, s2, rx, hT, fun ι3 H3 σ3 G3 s3 e3 => ⟨ι3, ρ1, S2, e3, s3, ?_⟩⟩
        have G13 := (G'.trans G2).trans G3
        have h3 := PostS.grow h' (G2.trans G3)
        cases hB : B ρ1 S2 with
        | nx ρ2 S3 => simp only [hB] at h3; exact fun ι4 H4 σ4 G4 s4 e4 => ⟨ι4, ρ2, S3, G13.trans G4, e4, s4, PostS.grow h3 G4⟩
        | ct ρ2 S3 => simp only [hB] at h3; exact fun ι4 H4 σ4 G4 s4 e4 => ⟨ι4, ρ2, S3, G13.trans G4, e4, s4, PostS.grow h3 G4⟩
        | bk ρ2 S3 => simp only [hB] at h3; exact h3
        | rt d S3 => simp only [hB] at h3; exact h3
        | er x ρ2 S3 => simp only [hB] at h3; exact h3
        | stuck => simp only [hB] at h3; exact h3
    · exact h'.elim
  · have e : i = ds.length := by omega
    subst e
    rw [List.drop_length] at h'
    unfold forD at h'
    (try unfold ifp at h'); split at h'
    · rename_i hg
      obtain ⟨stop, -⟩ := hJ ι' H' S' G' s' hg
      exact .inl ⟨stop _ (Nat.le_refl _), ι', ρ', S', e', s', h'⟩
    · exact h'.elim
theorem ds_for {iter : Expr} {body orelse : List Stmt} {f : Ev → Sto → R Src} {T : Tg} {B Z : Ev → Sto → SR} (hp : PassesOwn (model X.prog X.w) X.A X.env X.xe) (hc : X.calm = true) (hi : DI X W tg iter f) (hg : DG X tg T) (hb : DSs X W body B) (ho : DSs X W orelse Z)
    (hs : ∀ x, foldedSetIterable iter X.env x = pure x := by intro _; rfl) : DS X W (.For tg iter body orelse pos) (sFor f T B Z) := PS.imp (ps_forE hp hc hi hg hb ho hs) for_read
def whileD (c : Ev → Sto → R Bool) (B : Ev → Sto → SR) : Nat → Ev → Sto → SR
  | 0, _, _ => .stuck
  | n + 1, ρ, S => (c ρ S).toS ρ fun b S1 => if b = true then (match B ρ S1 with
      | .nx ρ2 S2 => whileD c B n ρ2 S2
      | .ct ρ2 S2 => whileD c B n ρ2 S2
      | .bk ρ2 S2 => .nx ρ2 S2
      | .rt d S2 => .rt d S2
      | .er e ρ2 S2 => .er e ρ2 S2
      | .stuck => .stuck) else .nx ρ S1
theorem ds_while (n : Nat) {c : Expr} {body : List Stmt} {t : Ev → Sto → R Bool} {B : Ev → Sto → SR} (hp : PassesOwn (model X.prog X.w) X.A X.env X.xe) (hc : DT X W c t) (hb : DSs X W body B) : DS X W (.While c body [] pos) (whileD t B n) := by
  refine PS.imp (ps_while hp hc hb) fun E σ H ⟨ι, ρ, S, hE, hS, h⟩ => ?_
  refine ⟨fun m σ' H' => ∃ ι' ρ' S', RepE X.K ι' H' σ' ρ' ∧ Sim X.K ι' H' S' ∧ PostS X.K W E ι' H' (whileD t B m ρ' S'), ⟨n, ι, ρ, S, hE, hS, h⟩, ?_⟩
  rintro m σ' H' ⟨ι', ρ', S', e', s', h'⟩
  cases m with
  | zero => exact h'.elim
  | succ m =>
    refine ⟨ι', ρ', S', e', s', (PostS.bind h' e').mono fun b S1 ι1 H1 G1 s1 h1 => ?_⟩
    cases b with
    | false => rw [if_neg (by decide)] at h1 ⊢; exact h1 ι1 H1 σ' (Grow.refl _ _) s1 (e'.grow G1)
    | true =>
      rw [if_pos rfl] at h1 ⊢
      refine ⟨fun σ2 H2 => ∃ ι2 ρ2 S2, RepE X.K ι2 H2 σ2 ρ2 ∧ Sim X.K ι2 H2 S2 ∧ PostS X.K W E ι2 H2 (whileD t B m ρ2 S2), fun σ2 H2 hh => ⟨m, Nat.lt_succ_self _, hh⟩, ι1, ρ', S1, e'.grow G1, s1, ?_⟩
      cases hB : B ρ' S1 with
      | nx ρ2 S3 => simp only [hB] at h1; exact fun ι4 H4 σ4 G4 s4 e4 => ⟨ι4, ρ2, S3, e4, s4, PostS.grow h1 G4⟩
      | ct ρ2 S3 => simp only [hB] at h1; exact fun ι4 H4 σ4 G4 s4 e4 => ⟨ι4, ρ2, S3, e4, s4, PostS.grow h1 G4⟩
      | bk ρ2 S3 => simp only [hB] at h1; exact h1
      | rt d S3 => simp only [hB] at h1; exact h1
      | er x ρ2 S3 => simp only [hB] at h1; exact h1
      | stuck => simp only [hB] at h1; exact h1
end
end DL
namespace DL
open PySem PySem.Spec L2
open PyProof.Rows hiding St
mutual
def low (n : Nat) : D → Bool
  | .loc m => decide (m < n)
  | .tup ds => lowL n ds
  | .fl ds => lowL n ds
  | .kl ds => lowL n ds
  | .fd kvs => lowK n kvs
  | .exc _ fs => lowF n fs
  | .non => true
  | .bl _ => true
  | .int _ => true
  | .str _ => true
  | .ty _ => true
  | .fn _ => true
def lowL (n : Nat) : List D → Bool
  | [] => true
  | d :: ds => low n d && lowL n ds
def lowK (n : Nat) : List (Key × D) → Bool
  | [] => true
  | (_, d) :: ds => low n d && lowK n ds
def lowF (n : Nat) : List (Str × D) → Bool
  | [] => true
  | (_, d) :: ds => low n d && lowF n ds
end
def lowKT (n : Nat) : List (List Key × D) → Bool
  | [] => true
  | (_, d) :: ds => low n d && lowKT n ds
def lowO (n : Nat) : Ob → Bool
  | .lst ds => lowL n ds
  | .ins _ fs => lowF n fs
  | .dct kvs => lowK n kvs
  | .dtt kvs => lowK n kvs
  | .scr ds => lowL n ds
  | .tpl ds => lowL n ds
section
variable {K : PySem.W.Frag} {ι : List Addr} {H : Hp}
theorem take_out {a : Addr} {n : Nat} (h : a ∉ ι) : a ∉ ι.take n := fun z => h (List.mem_of_mem_take z)
mutual
theorem RepV.low (n : Nat) : ∀ (d : D) (v : V), RepV K ι H d v → DL.low n d = true → RepV K (ι.take n) H d v
  | .non, _, h, _ => by rw [RepV] at h ⊢; exact h
  | .bl _, _, h, _ => by rw [RepV] at h ⊢; exact h
  | .int _, _, h, _ => by rw [RepV] at h ⊢; exact h
  | .str _, _, h, _ => by rw [RepV] at h ⊢; exact h
  | .ty _, _, h, _ => by rw [RepV] at h ⊢; exact h
  | .fn _, _, h, _ => by rw [RepV] at h ⊢; exact h
  | .loc m, _, h, l => by
    rw [RepV] at h ⊢
    obtain ⟨a, e, r⟩ := h
    have l : m < n := by simpa [DL.low] using l
    exact ⟨a, by rw [List.getElem?_take_of_lt l]; exact e, r⟩
  | .tup ds, _, h, l => by
    rw [RepV] at h ⊢
    obtain ⟨a, vs, e, t, r⟩ := h
    refine ⟨a, vs, e, ?_, RepL.low n ds vs r (by simpa [DL.low] using l)⟩
    rcases t with ⟨t1, t2⟩ | t
    · exact .inl ⟨take_out t1, t2⟩
    · exact .inr t
  | .fl ds, _, h, l => by
    rw [RepV] at h ⊢
    obtain ⟨a, vs, e, t, r⟩ := h
    exact ⟨a, vs, e, ⟨take_out t.1, t.2⟩, RepL.low n ds vs r (by simpa [DL.low] using l)⟩
  | .kl ds, _, h, l => by
    rw [RepV] at h ⊢
    obtain ⟨a, vs, e, t, r⟩ := h
    refine ⟨a, vs, e, ?_, RepL.low n ds vs r (by simpa [DL.low] using l)⟩
    rcases t with ⟨t1, t2⟩ | t
    · exact .inl ⟨take_out t1, t2⟩
    · exact .inr t
  | .fd kvs, _, h, l => by
    rw [RepV] at h ⊢
    obtain ⟨a, vs, e, m, t, r⟩ := h
    exact ⟨a, vs, e, take_out m, t, RepK.low n kvs vs r (by simpa [DL.low] using l)⟩
  | .exc c fs, _, h, l => by
    rw [RepV] at h ⊢
    obtain ⟨a, cls, dd, e, m, t, rc, r⟩ := h
    refine ⟨a, cls, dd, e, take_out m, t, rc, ?_⟩
    rcases r with r | ⟨d, vs, e1, e2, e3, e4⟩
    · exact .inl r
    · exact .inr ⟨d, vs, e1, take_out e2, e3, RepF.low n fs vs e4 (by simpa [DL.low] using l)⟩
theorem RepL.low (n : Nat) : ∀ (ds : List D) (vs : List V), RepL K ι H ds vs → DL.lowL n ds = true → RepL K (ι.take n) H ds vs
  | [], _, h, _ => by rw [RepL] at h ⊢; exact h
  | d :: ds, _, h, l => by
    rw [RepL] at h ⊢
    obtain ⟨v, r, e, a, b⟩ := h
    simp only [DL.lowL, Bool.and_eq_true] at l
    exact ⟨v, r, e, RepV.low n d v a l.1, RepL.low n ds r b l.2⟩
theorem RepK.low (n : Nat) : ∀ (ds : List (Key × D)) (vs : List (Key × V)), RepK K ι H ds vs → DL.lowK n ds = true → RepK K (ι.take n) H ds vs
  | [], _, h, _ => by rw [RepK] at h ⊢; exact h
  | (k, d) :: ds, _, h, l => by
    rw [RepK] at h ⊢
    obtain ⟨v, r, e, a, b⟩ := h
    simp only [DL.lowK, Bool.and_eq_true] at l
    exact ⟨v, r, e, RepV.low n d v a l.1, RepK.low n ds r b l.2⟩
theorem RepF.low (n : Nat) : ∀ (ds : List (Str × D)) (vs : List (Str × V)), RepF K ι H ds vs → DL.lowF n ds = true → RepF K (ι.take n) H ds vs
  | [], _, h, _ => by rw [RepF] at h ⊢; exact h
  | (k, d) :: ds, _, h, l => by
    rw [RepF] at h ⊢
    obtain ⟨v, r, e, a, b⟩ := h
    simp only [DL.lowF, Bool.and_eq_true] at l
    exact ⟨v, r, e, RepV.low n d v a l.1, RepF.low n ds r b l.2⟩
end
theorem RepKT.low (n : Nat) : ∀ (ds : List (List Key × D)) (vs : List (List Key × V)), RepKT K ι H ds vs → DL.lowKT n ds = true → RepKT K (ι.take n) H ds vs
  | [], _, h, _ => by rw [RepKT] at h ⊢; exact h
  | (k, d) :: ds, _, h, l => by
    rw [RepKT] at h ⊢
    obtain ⟨v, r, e, a, b⟩ := h
    simp only [DL.lowKT, Bool.and_eq_true] at l
    exact ⟨v, r, e, RepV.low n d v a l.1, RepKT.low n ds r b l.2⟩
theorem RepO.low {a : Addr} {o : Ob} (n : Nat) (h : RepO K ι H a o) (l : DL.lowO n o = true) : RepO K (ι.take n) H a o := by
  cases o with
  | lst ds => obtain ⟨vs, q, r⟩ := h; exact ⟨vs, q, RepL.low n ds vs r l⟩
  | ins C fs => obtain ⟨C', dx, vs, nc, q, r⟩ := h; exact ⟨C', dx, vs, nc, q, RepF.low n fs vs r l⟩
  | dct ks => obtain ⟨vs, q, r⟩ := h; exact ⟨vs, q, RepK.low n ks vs r l⟩
  | dtt ks => obtain ⟨o, vs, q, r⟩ := h; exact ⟨o, vs, q, RepK.low n ks vs r l⟩
  | scr ds => obtain ⟨o, vs, q, r⟩ := h; exact ⟨o, vs, q, RepL.low n ds vs r l⟩
  | tpl ds => obtain ⟨o, vs, q, c1, c2, r⟩ := h; exact ⟨o, vs, q, c1, c2, RepL.low n ds vs r l⟩
mutual
theorem RepV.isLow : ∀ (d : D) (v : V), RepV K ι H d v → DL.low ι.length d = true
  | .non, _, _ => rfl
  | .bl _, _, _ => rfl
  | .int _, _, _ => rfl
  | .str _, _, _ => rfl
  | .ty _, _, _ => rfl
  | .fn _, _, _ => rfl
  | .loc m, _, h => by
    rw [RepV] at h
    obtain ⟨a, e, _⟩ := h
    simpa [DL.low] using (List.getElem?_eq_some_iff.mp e).1
  | .tup ds, _, h => by
    rw [RepV] at h
    obtain ⟨a, vs, e, t, r⟩ := h
    simpa [DL.low] using RepL.isLow ds vs r
  | .fl ds, _, h => by
    rw [RepV] at h
    obtain ⟨a, vs, e, t, r⟩ := h
    simpa [DL.low] using RepL.isLow ds vs r
  | .kl ds, _, h => by
    rw [RepV] at h
    obtain ⟨a, vs, e, t, r⟩ := h
    simpa [DL.low] using RepL.isLow ds vs r
  | .fd ds, _, h => by
    rw [RepV] at h
    obtain ⟨a, vs, e, m, t, r⟩ := h
    simpa [DL.low] using RepK.isLow ds vs r
  | .exc c ds, _, h => by
    rw [RepV] at h
    obtain ⟨a, cls, dd, e, m, t, rc, r⟩ := h
    rcases r with ⟨_, rfl⟩ | ⟨d, vs, e1, e2, e3, e4⟩
    · rfl
    · simpa [DL.low] using RepF.isLow ds vs e4
theorem RepL.isLow : ∀ (ds : List D) (vs : List V), RepL K ι H ds vs → DL.lowL ι.length ds = true
  | [], _, _ => rfl
  | d :: ds, _, h => by
    rw [RepL] at h
    obtain ⟨v, r, e, a, b⟩ := h
    simp only [DL.lowL, Bool.and_eq_true]
    exact ⟨RepV.isLow d v a, RepL.isLow ds r b⟩
theorem RepK.isLow : ∀ (ds : List (Key × D)) (vs : List (Key × V)), RepK K ι H ds vs → DL.lowK ι.length ds = true
  | [], _, _ => rfl
  | (k, d) :: ds, _, h => by
    rw [RepK] at h
    obtain ⟨v, r, e, a, b⟩ := h
    simp only [DL.lowK, Bool.and_eq_true]
    exact ⟨RepV.isLow d v a, RepK.isLow ds r b⟩
theorem RepF.isLow : ∀ (ds : List (Str × D)) (vs : List (Str × V)), RepF K ι H ds vs → DL.lowF ι.length ds = true
  | [], _, _ => rfl
  | (k, d) :: ds, _, h => by
    rw [RepF] at h
    obtain ⟨v, r, e, a, b⟩ := h
    simp only [DL.lowF, Bool.and_eq_true]
    exact ⟨RepV.isLow d v a, RepF.isLow ds r b⟩
end
theorem RepKT.isLow : ∀ (ds : List (List Key × D)) (vs : List (List Key × V)), RepKT K ι H ds vs → DL.lowKT ι.length ds = true
  | [], _, _ => rfl
  | (k, d) :: ds, _, h => by
    rw [RepKT] at h
    obtain ⟨v, r, e, a, b⟩ := h
    simp only [DL.lowKT, Bool.and_eq_true]
    exact ⟨RepV.isLow d v a, RepKT.isLow ds r b⟩
theorem RepO.isLow {a : Addr} {o : Ob} (h : RepO K ι H a o) : DL.lowO ι.length o = true := by
  cases o with
  | lst ds => obtain ⟨vs, q, r⟩ := h; exact RepL.isLow ds vs r
  | ins C fs => obtain ⟨C', dx, vs, nc, q, r⟩ := h; exact RepF.isLow fs vs r
  | dct ks => obtain ⟨vs, q, r⟩ := h; exact RepK.isLow ks vs r
  | dtt ks => obtain ⟨o, vs, q, r⟩ := h; exact RepK.isLow ks vs r
  | scr ds => obtain ⟨o, vs, q, r⟩ := h; exact RepL.isLow ds vs r
  | tpl ds => obtain ⟨o, vs, q, c1, c2, r⟩ := h; exact RepL.isLow ds vs r
end
/-- the elder places hold what they held, or nothing that points to a younger one -/
def Trunc (S S' : Sto) : Prop := S.length ≤ S'.length ∧ ∀ k o, k < S.length → S'[k]? = some o → S[k]? = some o ∨ lowO S.length o = true
theorem Trunc.same (S l : Sto) : Trunc S (S ++ l) := ⟨by simp, fun k o h e => .inl (by rw [List.getElem?_append_left h] at e; exact e)⟩
theorem Sim.trunc {K : PySem.W.Frag} {ι ι' : List Addr} {H H' : Hp} {S S' : Sto} (s : Sim K ι H S) (s' : Sim K ι' H' S') (G : Grow ι H ι' H') (t : Trunc S S') : Sim K ι H' (S'.take S.length) ∧ Grow ι H ι H' := by
  have hp : ι'.take ι.length = ι := by
    obtain ⟨r, e⟩ := G.pre
    rw [← e, List.take_left]
  refine ⟨⟨s.nd, by rw [s.len, List.length_take]; have := t.1; omega, fun n a o e1 e2 => ?_⟩, List.prefix_rfl, G.keep, fun _ z n => absurd z n, G.frz⟩
  have hn : n < S.length := by rw [← s.len]; exact (List.getElem?_eq_some_iff.mp e1).1
  rw [List.getElem?_take_of_lt hn] at e2
  have e1' := getElem?_pre G.pre e1
  have r' := s'.ob n a o e1' e2
  have l : lowO S.length o = true := by
    rcases t.2 n o hn e2 with h | h
    · have := (s.ob n a o e1 h).isLow
      rw [s.len] at this; exact this
    · exact h
  have := r'.low S.length l
  rw [← s.len, hp] at this
  exact this
theorem RepV.trunc {K : PySem.W.Frag} {ι ι' : List Addr} {H H' : Hp} {S : Sto} {d : D} {v : V} (s : Sim K ι H S) (G : Grow ι H ι' H') (r : RepV K ι' H' d v) (l : DL.low S.length d = true) : RepV K ι H' d v := by
  have hp : ι'.take S.length = ι := by
    obtain ⟨r, e⟩ := G.pre
    rw [← s.len, ← e, List.take_left]
  have := RepV.low S.length d v r l
  rw [hp] at this; exact this
theorem RepL.trunc {K : PySem.W.Frag} {ι ι' : List Addr} {H H' : Hp} {S : Sto} {ds : List D} {vs : List V} (s : Sim K ι H S) (G : Grow ι H ι' H') (r : RepL K ι' H' ds vs) (l : lowL S.length ds = true) : RepL K ι H' ds vs := by
  have hp : ι'.take S.length = ι := by
    obtain ⟨r, e⟩ := G.pre
    rw [← s.len, ← e, List.take_left]
  have := RepL.low S.length ds vs r l
  rw [hp] at this; exact this
theorem RepF.trunc {K : PySem.W.Frag} {ι ι' : List Addr} {H H' : Hp} {S : Sto} {ds : List (Str × D)} {vs : List (Str × V)} (s : Sim K ι H S) (G : Grow ι H ι' H') (r : RepF K ι' H' ds vs) (l : lowF S.length ds = true) : RepF K ι H' ds vs := by
  have hp : ι'.take S.length = ι := by
    obtain ⟨r, e⟩ := G.pre
    rw [← s.len, ← e, List.take_left]
  have := RepF.low S.length ds vs r l
  rw [hp] at this; exact this
abbrev W0 : WX := fun _ _ _ _ => False
open Classical in
noncomputable def compD (g : Sto → Prop) (T : Tg) (c : Ev → Sto → R Bool) (f : Ev → Sto → R D) (n : Nat) (ρ : Ev) : List D → Sto → Option Sto
  | [], S => if g S then some S else none
  | d :: ds, S => if g S then (match T d ρ S with
    | none => none
    | some (ρ1, S1) => match c ρ1 S1 with
      | .ok b S2 => if b = true then (match f ρ1 S2 with
          | .ok y S3 => (match getL S3 n with
            | some acc => ifp (acc.length < sizeLine) (compD g T c f n ρ ds (S3.set n (.lst (acc ++ [y])))) none
            | none => none)
          | _ => none) else compD g T c f n ρ ds S2
      | _ => none) else none
def cYes : Ev → Sto → R Bool := fun _ S => .ok true S
/-- how the list stays: in the store, or frozen -/
def finLoc (S : Sto) (S' : Sto) : R D := .ok (.loc S.length) S'
open Classical in
noncomputable def finFl (S : Sto) (S' : Sto) : R D := match getL S' S.length with
  | some acc => if Trunc S S' ∧ S'.length = S.length + 1 ∧ lowL S.length acc = true then .ok (.fl acc) (S'.take S.length) else .stuck
  | none => .stuck
def FinOk (fin : Sto → Sto → R D) : Prop := ∀ (K : PySem.W.Frag) (W : WX) (σ : St) (ι ι' : List Addr) (H H0 H' : Hp) (S S' : Sto) (Da : Addr) (Q : VK), Sim K ι H S → H Da = none → Grow ι H ι H0 → (∀ b, b ≠ Da → H0 b = H b) → Sim K ι' H' S' → Grow (ι ++ [Da]) H0 ι' H' →
  Post K W σ ι H (fin S S') (fun d _ ι' H' => ∀ v, RepV K ι' H' d v → Q v H') → Q (.ref Da) H'
theorem fin_grow {ι ι' : List Addr} {H H0 H' : Hp} {Da : Addr} (n : H Da = none) (hb : ∀ b, b ≠ Da → H0 b = H b) (G : Grow (ι ++ [Da]) H0 ι' H') : Grow ι H ι' H' where
  pre := (List.prefix_append _ _).trans G.pre
  keep := fun a o e na => by
    have hne : a ≠ Da := ne_of_none e n
    refine G.keep a o (by rw [hb a hne]; exact e) fun z => ?_
    rcases List.mem_append.mp z with z | z
    · exact na z
    · exact hne (List.mem_singleton.mp z)
  fresh := fun a z na => by
    by_cases hne : a = Da
    · rw [hne]; exact n
    · have := G.fresh a z fun y => by
        rcases List.mem_append.mp y with y | y
        · exact na y
        · exact hne (List.mem_singleton.mp y)
      rw [hb a hne] at this; exact this
  frz := fun a od u e => G.frz a od u (by rw [hb a (ne_of_none e n)]; exact e)
theorem fin_loc : FinOk finLoc := fun K W σ ι ι' H H0 H' S S' Da Q s n G0 hb s' G h => by
  refine h ι' H' (fin_grow n hb G) s' _ ?_
  rw [RepV]
  exact ⟨Da, getElem?_pre G.pre (by rw [← s.len]; simp), rfl⟩
theorem fin_fl : FinOk finFl := fun K W σ ι ι' H H0 H' S S' Da Q s n G0 hb s' G h => by
  unfold finFl at h
  (try unfold ifp at h); split at h
  · rename_i acc ha
    (try unfold ifp at h); split at h
    · rename_i hh
      obtain ⟨t, hl, hlow⟩ := hh
      have G1 := fin_grow n hb G
      obtain ⟨s2, G2⟩ := s.trunc s' G1 t
      have ea : ι'[S.length]? = some Da := getElem?_pre G.pre (by rw [← s.len]; simp)
      obtain ⟨vs, h1, h2⟩ := s'.ob _ _ _ ea (getL_some ha)
      refine h ι H' G2 s2 _ ?_
      rw [RepV]
      refine ⟨Da, vs, rfl, ⟨fun z => ?_, h1⟩, RepL.trunc s G1 h2 hlow⟩
      obtain ⟨u, e⟩ := s.there z
      rw [n] at e; cases e
    · exact h.elim
  · exact h.elim
/-- the target of a comprehension: its own slots, its store, by the very slots -/
structure CT (K : PySem.W.Frag) (vs : List Nat) (g : TG) (T : Tg) : Prop where
  wipeE : ∀ (ι : List Addr) (H : Hp) (σ : St) (ρ : Ev), RepE K ι H σ ρ → RepE K ι H (wipe σ vs) (ρ.mapIdx fun i d => if i ∈ vs then none else d)
  run : ∀ (ι : List Addr) (H : Hp) (S S' : Sto) (σ : St) (ρ ρ' : Ev) (d : D) (v : V) (Q : St → Hp → Prop), RepE K ι H (wipe σ vs) ρ → Sim K ι H S → RepV K ι H d v → T d ρ S = some (ρ', S') → S' = S ∧
    ((∀ σ', wipe σ' vs = wipe σ vs → RepE K ι H σ' ρ' → Q σ' H) → g v (wipe σ vs) H Q)
def wipeD (ρ : Ev) (vs : List Nat) : Ev := ρ.mapIdx fun i d => if i ∈ vs then none else d
noncomputable def eLc (fin : Sto → Sto → R D) (src : Ev → Sto → R Src) (T : Tg) (vs : List Nat) (c : Ev → Sto → R Bool) (f : Ev → Sto → R D) : Ev → Sto → R D := fun ρ S => (src ρ S).bind fun q S1 => match compD q.2 T c f S1.length (wipeD ρ vs) q.1 (S1 ++ [.lst []]) with
  | some S2 => fin S1 S2
  | none => .stuck
section
variable {X : Cx} {W : WX} {pos : Pos}
theorem lc_read {fin : Sto → Sto → R D} {K : PySem.W.Frag} {src : Ev → Sto → R Src} {g : TG} {T : Tg} {vs : List Nat} {c : Ev → Sto → R Bool} {f : Ev → Sto → R D} (hfin : FinOk fin) (ct : CT K vs g T) :
    ∀ σ H Q, rdE K W (eLc fin src T vs c f) σ H Q → tLc (rdI K W src) g (rdT K W0 c) (rdE K W0 f) vs σ H Q := fun σ H Q ⟨ι, ρ, S, hE, hS, h⟩ => by
  refine ⟨ι, ρ, S, hE, hS, (Post.bind h).mono fun q S1 ι1 H1 G1 s1 h1 J hJ Da hDa => ?_⟩
  obtain ⟨ds, gd⟩ := q
  cases hc : compD gd T c f S1.length (wipeD ρ vs) ds (S1 ++ [.lst []]) with
  | none => simp only [hc] at h1; exact h1.elim
  | some S2 =>
    simp only [hc] at h1
    have G0 : Grow ι1 H1 (ι1 ++ [Da]) (upd H1 Da (.lst [])) := Grow.push hDa
    have hE1 := ct.wipeE _ _ _ _ (hE.grow G1)
    refine ⟨fun i m H' => m = ds.length - i ∧ i ≤ ds.length ∧ ∃ ι' S', Grow (ι1 ++ [Da]) (upd H1 Da (.lst [])) ι' H' ∧ Sim K ι' H' S' ∧ compD gd T c f S1.length (wipeD ρ vs) (ds.drop i) S' = some S2,
      ⟨_, rfl, Nat.zero_le _, ι1 ++ [Da], (S1 ++ [Ob.lst []] : Sto), Grow.refl _ _, s1.push (b := Ob.lst []) hDa ⟨[], upd_same, RepL.nil⟩, hc⟩, ?_⟩
    rintro i m H' ⟨rfl, hi, ι', S', G', s', h'⟩
    have Gt : Grow ι1 H1 ι' H' := G0.trans G'
    have hE' : RepE K ι' H' (wipe σ vs) (wipeD ρ vs) := hE1.grow Gt
    have eD : ι'[S1.length]? = some Da := getElem?_pre G'.pre (by rw [← s1.len]; simp)
    by_cases hlt : i < ds.length
    · rw [List.drop_eq_getElem_cons hlt] at h'
      unfold compD at h'
      (try unfold ifp at h'); split at h'
      · rename_i hg
        obtain ⟨-, item⟩ := hJ ι' H' S' Gt s' hg
        obtain ⟨go, yl⟩ := item i ds[i] (List.getElem?_eq_some_iff.mpr ⟨hlt, rfl⟩)
        refine .inr ⟨go, fun H2 => ∃ ι2 S2', Grow (ι1 ++ [Da]) (upd H1 Da (.lst [])) ι2 H2 ∧ Sim K ι2 H2 S2' ∧ compD gd T c f S1.length (wipeD ρ vs) (ds.drop (i + 1)) S2' = some S2, fun H2 hh => ⟨ds.length - (i + 1), by omega, rfl, hlt, hh⟩, fun x H2 y => ?_⟩
        obtain ⟨G2, s2, rx⟩ := yl x H2 y
        cases hT : T ds[i] (wipeD ρ vs) S' with
        | none => simp only [hT] at h'; cases h'
        | some q =>
          obtain ⟨ρ1, S3⟩ := q
          simp only [hT] at h'
          obtain ⟨e3, run⟩ := ct.run ι' H2 S' S3 σ _ ρ1 ds[i] x (fun σ2 H2 => wipe σ2 vs = wipe σ vs ∧ rdT K W0 c σ2 H2 fun b H3 =>
            if b = true then rdE K W0 f σ2 H3 fun y H4 => ∃ acc, H4 Da = some (.lst acc) ∧ acc.length < sizeLine ∧ ∃ ι2 S2', Grow (ι1 ++ [Da]) (upd H1 Da (.lst [])) ι2 (upd H4 Da (.lst (acc ++ [y]))) ∧ Sim K ι2 (upd H4 Da (.lst (acc ++ [y]))) S2' ∧ compD gd T c f S1.length (wipeD ρ vs) (ds.drop (i + 1)) S2' = some S2
            else ∃ ι2 S2', Grow (ι1 ++ [Da]) (upd H1 Da (.lst [])) ι2 H3 ∧ Sim K ι2 H3 S2' ∧ compD gd T c f S1.length (wipeD ρ vs) (ds.drop (i + 1)) S2' = some S2) (hE'.grow G2) s2 rx hT
          subst e3
          refine run fun σ2 hw e2 => ⟨hw, ι', ρ1, S3, e2, s2, ?_⟩
          cases hcc : c ρ1 S3 with
          | stuck => simp only [hcc] at h'; cases h'
          | er x S4 => simp only [hcc] at h'; cases h'
          | ok b S4 =>
            simp only [hcc] at h'
            intro ι3 H3 G3 s3
            cases b with
            | false =>
              rw [if_neg (by decide)] at h' ⊢
              exact ⟨ι3, S4, (G'.trans G2).trans G3, s3, h'⟩
            | true =>
              rw [if_pos rfl] at h' ⊢
              refine ⟨ι3, ρ1, S4, e2.grow G3, s3, ?_⟩
              cases hf : f ρ1 S4 with
              | stuck => simp only [hf] at h'; cases h'
              | er x S5 => simp only [hf] at h'; cases h'
              | ok z S5 =>
                simp only [hf] at h'
                intro ι4 H4 G4 s4 v rv
                cases hL : getL S5 S1.length with
                | none => simp only [hL] at h'; cases h'
                | some acc =>
                  simp only [hL] at h'
                  (try unfold ifp at h'); split at h'
                  · rename_i hz
                    have e4 : ι4[S1.length]? = some Da := getElem?_pre G4.pre (getElem?_pre G3.pre eD)
                    obtain ⟨us, h5, h6⟩ := s4.ob _ _ _ e4 (getL_some hL)
                    have G5 : Grow ι4 H4 ι4 (upd H4 Da (.lst (us ++ [v]))) := Grow.put (List.mem_of_getElem? e4) h5 (fun _ _ z => by cases z)
                    refine ⟨us, h5, by rw [← RepL.length _ _ h6]; exact hz, ι4, _, (((G'.trans G2).trans G3).trans G4).trans G5, s4.put (b := .lst (acc ++ [z])) e4 h5 (fun _ _ z => by cases z) ⟨_, upd_same, ?_⟩, h'⟩
                    exact RepL.app _ _ (RepL.grow G5 _ _ h6) _ _ (RepL.one (RepV.grow G5 _ _ rv))
                  · cases h'
      · cases h'
    · have e : i = ds.length := by omega
      subst e
      rw [List.drop_length] at h'
      unfold compD at h'
      (try unfold ifp at h'); split at h'
      · rename_i hg
        cases h'
        obtain ⟨stop, -⟩ := hJ ι' H' S2 Gt s' hg
        exact .inl ⟨stop _ (Nat.le_refl _), hfin K W σ ι1 ι' H1 _ H' S1 S2 Da Q s1 hDa (Grow.upd hDa) (fun b hb => upd_ne hb) s' G' h1⟩
      · cases h'
theorem getElem?_wipe {ρ : Ev} {vs : List Nat} {i : Nat} {d : D} (h : (wipeD ρ vs)[i]? = some (some d)) : i ∉ vs ∧ ρ[i]? = some (some d) := by
  unfold wipeD at h
  rw [List.getElem?_mapIdx] at h
  cases e : ρ[i]? with
  | none => rw [e] at h; cases h
  | some x =>
    rw [e] at h
    simp only [Option.map_some, Option.some.injEq] at h
    by_cases hi : i ∈ vs
    · rw [if_pos hi] at h; cases h
    · rw [if_neg hi] at h; exact ⟨hi, by rw [h]⟩
theorem wipe_get (σ : St) : ∀ (vs : List Nat) (i : Nat), i ∉ vs → (wipe σ vs)[i]? = σ[i]?
  | [], _, _ => rfl
  | v :: vs, i, h => by
    unfold wipe
    rw [List.getElem?_set_ne (fun e => h (by rw [← e]; exact List.mem_cons_self))]
    exact wipe_get σ vs i fun z => h (List.mem_cons_of_mem _ z)
theorem wipe_rep {K : PySem.W.Frag} (vs : List Nat) : ∀ (ι : List Addr) (H : Hp) (σ : St) (ρ : Ev), RepE K ι H σ ρ → RepE K ι H (wipe σ vs) (wipeD ρ vs) := fun ι H σ ρ h => by
  refine ⟨by rw [wipe_length]; simp [wipeD, h.1], fun i d e => ?_⟩
  obtain ⟨hi, e⟩ := getElem?_wipe e
  obtain ⟨v, e', r⟩ := h.2 i d e
  exact ⟨v, by rw [wipe_get σ vs i hi]; exact e', r⟩
theorem ct_name {K : PySem.W.Frag} (i : Nat) : CT K [i] (gName i) (tN i) where
  wipeE := wipe_rep [i]
  run := fun ι H S S' σ ρ ρ' d v Q hE s r e => by
    cases e
    refine ⟨rfl, fun h => ?_⟩
    refine h ((wipe σ [i]).set i (some v)) ?_ (hE.set r i)
    simp [wipe]
theorem ct_pair {K : PySem.W.Frag} (i j : Nat) (hij : i ≠ j) : CT K [i, j] (gTup K 2 (gCons (gName i) (gCons (gName j) gNil))) (tTup 2 (tCons (tN i) (tCons (tN j) tNil))) where
  wipeE := wipe_rep [i, j]
  run := fun ι H S S' σ ρ ρ' d v Q hE s r e => by
    cases d with
    | tup ds =>
      match ds, r, e with
      | [a, b], r, e =>
        have e : some ((ρ.set i (some a)).set j (some b), S) = some (ρ', S') := e
        cases e
        refine ⟨rfl, fun h => ?_⟩
        obtain ⟨p, vs, rfl, q, rl⟩ := tup_at r
        obtain ⟨x, y, rfl, rx, ry⟩ := RepL.two_inv rl
        refine ⟨p, [x, y], rfl, q, rfl, x, [y], rfl, y, [], rfl, rfl, ?_⟩
        refine h _ ?_ ((hE.set rx i).set ry j)
        apply List.ext_getElem?
        intro k
        simp only [wipe, List.getElem?_set]
        by_cases h1 : i = k <;> by_cases h2 : j = k <;> simp [h1, h2]
      | [], r, e => cases e
      | [_], r, e => cases e
      | _ :: _ :: _ :: _, r, e => simp [tTup] at e
    | _ => cases e
theorem de_lc {fin : Sto → Sto → R D} {elt tg iter : Expr} {ifs : List Expr} {scope : Scope} {own : List (Str × Nat)} {src : Ev → Sto → R Src} {g : TG} {T : Tg} {c : Ev → Sto → R Bool} {f : Ev → Sto → R D} (hfin : FinOk fin) (ct : CT X.K (own.map (·.2)) g T) (hc : X.calm = true) (hN : X.N.Nodup) (hi : DI X W tg iter src) (ok : BlkOk X.N X.env.scope scope own)
    (hg : ∀ (s : Shared) (H : Hp) (C : Addr) (cl : List (Str × Addr)) (fp : List Addr), PG (X.blk s H scope (compEnvC scope cl C X.env) fp) tg g) (ht : ∀ (s : Shared) (H : Hp) (C : Addr) (cl : List (Str × Addr)) (fp : List Addr), PTs (X.blk s H scope (compEnvC scope cl C X.env) fp) ifs (rdT X.K W0 c))
    (he : ∀ (s : Shared) (H : Hp) (C : Addr) (cl : List (Str × Addr)) (fp : List Addr), DE (X.blk s H scope (compEnvC scope cl C X.env) fp) W0 elt f) (hs : ∀ x, foldedSetIterable iter X.env x = pure x := by intro _; rfl) :
    DE X W (.ListComp elt [⟨tg, iter, ifs, 0⟩] scope pos) (eLc fin src T (own.map (·.2)) c f) := PE.imp (pe_lc hc hN hi ok hg ht he hs) (lc_read hfin ct)
/-- name = [..] -/
theorem ds_setLc (i : Nat) {y : Str} {py spos : Pos} {fin : Sto → Sto → R D} {elt tg iter : Expr} {ifs : List Expr} {scope : Scope} {own : List (Str × Nat)} {src : Ev → Sto → R Src} {g : TG} {T : Tg} {c : Ev → Sto → R Bool} {f : Ev → Sto → R D} (hfin : FinOk fin) (ct : CT X.K (own.map (·.2)) g T) (hc : X.calm = true) (hN : X.N.Nodup) (hi : DI X W tg iter src) (ok : BlkOk X.N X.env.scope scope own)
    (hg : ∀ (s : Shared) (H : Hp) (C : Addr) (cl : List (Str × Addr)) (fp : List Addr), PG (X.blk s H scope (compEnvC scope cl C X.env) fp) tg g) (ht : ∀ (s : Shared) (H : Hp) (C : Addr) (cl : List (Str × Addr)) (fp : List Addr), PTs (X.blk s H scope (compEnvC scope cl C X.env) fp) ifs (rdT X.K W0 c))
    (he : ∀ (s : Shared) (H : Hp) (C : Addr) (cl : List (Str × Addr)) (fp : List Addr), DE (X.blk s H scope (compEnvC scope cl C X.env) fp) W0 elt f) (hy : X.N[i]? = some y := by rfl) (hyl : X.env.scope.names.lookup y = some .local := by rfl)
    (hsw : swapsWith (.ListComp elt [⟨tg, iter, ifs, 0⟩] scope pos) (some (.Name y py)) spos.line X.env = pure true := by exact sw_true rfl rfl rfl (by decide +kernel)) (hs : ∀ x, foldedSetIterable iter X.env x = pure x := by intro _; rfl) :
    DS X W (.Assign [.Name y py] (.ListComp elt [⟨tg, iter, ifs, 0⟩] scope pos) spos) (sSet i (eLc fin src T (own.map (·.2)) c f)) :=
  PS.imp (ps_setLc hc hN hy hyl hsw hi ok hg ht he hs) fun E σ H q => by
    obtain ⟨ι, ρ, S, hE, hS, h⟩ := q
    refine lc_read (W := W) hfin ct σ H _ ⟨ι, ρ, S, hE, hS, (PostS.bind h hE).mono fun d S1 ι1 H1 G1 s1 h1 v rv => ?_⟩
    exact h1 ι1 H1 _ (Grow.refl _ _) s1 ((hE.grow G1).set rv i)
theorem dts_nil : PTs X [] (rdT X.K W0 cYes) := ⟨fun pins s σ H Q I ⟨ι, ρ, S, hE, hS, h⟩ => pts_nil.run pins s σ H Q I (h.here hS)⟩
theorem dts_one {c : Expr} {t : Ev → Sto → R Bool} (h : DT X W0 c t) : PTs X [c] (rdT X.K W0 t) := pts_one h
end
end DL
namespace DL
open PySem PySem.Spec L2
open PyProof.Rows hiding St
abbrev Fn := List D → Sto → R D
def PostX (K : PySem.W.Frag) (E : XK) (ι : List Addr) (H : Hp) (r : R D) (Q : VK) : Prop := match r with
  | .ok d S' => ∀ ι' H' v, Grow ι H ι' H' → Sim K ι' H' S' → RepV K ι' H' d v → Q v H'
  | .er e S' => ∀ ι' H' cls dd, Grow ι H ι' H' → Sim K ι' H' S' → RepX K ι' H' e cls dd → E cls dd H'
  | .stuck => False
def spD (K : PySem.W.Frag) (F : Fn) : Sp := fun vs H Q E => ∃ ι S ds, RepL K ι H ds vs ∧ Sim K ι H S ∧ PostX K E ι H (F ds S) Q
/-- the def at f does what F says, called by position -/
def FnD (gd : Bool) (P : Program) (w : World) (K : PySem.W.Frag) (mg : Str → Option Value) (base : Heap) (k : Nat) (f : Addr) (F : Fn) : Prop :=
  ∀ (A : Around) (outer : List Env) (s : Shared) (H : Hp) (us : List Value) (vs : List V) (Q : VK) (E : XK), Room k A → (gd = true → A.guards = some []) → Env0 P w K mg base A outer s H → Vals vs us → spD K F vs H Q E →
    codeAny (model P w) A (.call (.ref f) ⟨us, []⟩) (CR (L2.CX P w) outer P w H s Q E) s
theorem FnD.mono {gd : Bool} {P : Program} {w : World} {K : PySem.W.Frag} {mg : Str → Option Value} {base : Heap} {j k : Nat} {f : Addr} {F : Fn} (h : FnD gd P w K mg base j f F) (hj : j ≤ k) : FnD gd P w K mg base k f F :=
  fun A outer s H us vs Q E hr => h A outer s H us vs Q E (hr.mono hj)
open Classical in
noncomputable def close (S : Sto) (d : D) (S' : Sto) : R D :=
  if S'.length = S.length then .ok d S' else if Trunc S S' ∧ low S.length d = true then .ok d (S'.take S.length) else match d with
    | .loc m => (match getL S' m with
      | some ds => if Trunc S S' ∧ lowL S.length ds = true then .ok (.fl ds) (S'.take S.length) else .stuck
      | none => .stuck)
    | _ => .stuck
open Classical in
noncomputable def closeE (S : Sto) (e : Ex) (S' : Sto) : R D := if S'.length = S.length then .er e S' else if Trunc S S' ∧ lowF S.length e.fs = true then .er e (S'.take S.length) else .stuck
/-- nothing is dropped -/
def closeK (_ : Sto) (d : D) (S' : Sto) : R D := .ok d S'
def ClOk (cl : Sto → D → Sto → R D) : Prop := ∀ (K : PySem.W.Frag) (E : XK) (ι ι' : List Addr) (H H' : Hp) (S S' : Sto) (d : D) (v : V) (Q : VK), Sim K ι H S → Sim K ι' H' S' → Grow ι H ι' H' → RepV K ι' H' d v → PostX K E ι H (cl S d S') Q → Q v H'
theorem cl_keep : ClOk closeK := fun K E ι ι' H H' S S' d v Q s s' G r h => h ι' H' v G s' r
theorem cl_drop : ClOk close := fun K E ι ι' H H' S S' d v Q s s' G r h => by
  unfold close at h
  split at h
  · exact h ι' H' v G s' r
  · rename_i hl
    split at h
    · rename_i hh
      obtain ⟨s2, G2⟩ := s.trunc s' G hh.1
      exact h ι H' v G2 s2 (RepV.trunc s G r hh.2)
    · rename_i hlow
      split at h
      · rename_i m
        split at h
        · rename_i ds hd
          split at h
          · rename_i hh
            obtain ⟨s2, G2⟩ := s.trunc s' G hh.1
            refine h ι H' v G2 s2 ?_
            rw [RepV] at r
            obtain ⟨a, ea, rfl⟩ := r
            obtain ⟨vs, h1, h2⟩ := s'.ob _ _ _ ea (getL_some hd)
            have hm : ¬ m < S.length := fun z => hlow ⟨hh.1, by simpa [low] using z⟩
            rw [RepV]
            refine ⟨a, vs, rfl, ⟨fun z => ?_, h1⟩, RepL.trunc s G h2 hh.2⟩
            obtain ⟨n, hn, en⟩ := List.mem_iff_getElem.mp z
            have e1 : ι'[n]? = some a := getElem?_pre G.pre (List.getElem?_eq_some_iff.mpr ⟨hn, en⟩)
            obtain ⟨q1, q2⟩ := List.getElem?_eq_some_iff.mp e1
            obtain ⟨q3, q4⟩ := List.getElem?_eq_some_iff.mp ea
            have : n = m := (List.getElem_inj s'.nd).mp (q2.trans q4.symm)
            rw [← s.len] at hm
            omega
          · exact h.elim
        · exact h.elim
      · exact h.elim
theorem cl_err {K : PySem.W.Frag} {E : XK} {ι ι' : List Addr} {H H' : Hp} {S S' : Sto} {e : Ex} {cls : Value} {dd : Option Addr} {Q : VK} (s : Sim K ι H S) (s' : Sim K ι' H' S') (G : Grow ι H ι' H') (r : RepX K ι' H' e cls dd) (h : PostX K E ι H (closeE S e S') Q) : E cls dd H' := by
  unfold closeE at h
  split at h
  · exact h ι' H' cls dd G s' r
  · split at h
    · rename_i hh
      obtain ⟨s2, G2⟩ := s.trunc s' G hh.1
      refine h ι H' cls dd G2 s2 ⟨r.1, ?_⟩
      rcases r.2 with r2 | ⟨a, vs, e1, e2, e3, e4⟩
      · exact .inl r2
      · refine .inr ⟨a, vs, e1, fun z => e2 ?_, e3, RepF.trunc s G e4 hh.2⟩
        obtain ⟨t, rfl⟩ := G.pre
        exact List.mem_append_left _ z
    · exact h.elim
def startD (n : Nat) (ds : List D) : Ev := ds.map some ++ List.replicate (n - ds.length) none
noncomputable def fnC (cl : Sto → D → Sto → R D) (n : Nat) (m : Nat) (B : Ev → Sto → SR) : Fn := fun ds S => if ds.length = m then (match B (startD n ds) S with
  | .nx _ S' => cl S .non S'
  | .rt d S' => cl S d S'
  | .er e _ S' => closeE S e S'
  | _ => .stuck) else .stuck
theorem start_rep {K : PySem.W.Frag} {ι : List Addr} {H : Hp} {ds : List D} {vs : List V} (N : List Str) (r : RepL K ι H ds vs) : RepE K ι H (start N vs) (startD N.length ds) := by
  have hl := RepL.length _ _ r
  refine ⟨by simp [L2.start, startD, hl], fun i d e => ?_⟩
  unfold startD at e
  by_cases hi : i < ds.length
  · rw [List.getElem?_append_left (by simpa using hi), List.getElem?_map] at e
    cases q : ds[i]? with
    | none => rw [q] at e; cases e
    | some x =>
      rw [q] at e; cases e
      obtain ⟨v, hv, rv⟩ := RepL.get _ _ r i d q
      refine ⟨v, ?_, rv⟩
      unfold L2.start
      rw [List.getElem?_append_left (by simp [← hl]; exact hi), List.getElem?_map, hv]
      rfl
  · rw [List.getElem?_append_right (by simpa using hi), List.getElem?_replicate] at e
    split at e <;> cases e
/-- how the body's reading gives the def's -/
theorem body_read {K : PySem.W.Frag} {cl : Sto → D → Sto → R D} (hcl : ClOk cl) {N : List Str} {m : Nat} {B : Ev → Sto → SR} {vs : List V} {H : Hp} {Q : VK} {E : XK} (h : spD K (fnC cl N.length m B) vs H Q E) :
    vs.length = m ∧ rdS K (fun cls d _ H' => E cls d H') B { nx := fun _ H' => Q .non H', rt := Q } (start N vs) H := by
  obtain ⟨ι, S, ds, rl, s, h⟩ := h
  unfold fnC at h
  split at h
  · rename_i hm
    refine ⟨by rw [← RepL.length _ _ rl]; exact hm, ι, startD N.length ds, S, start_rep N rl, s, ?_⟩
    cases hB : B (startD N.length ds) S with
    | nx ρ S' => simp only [hB] at h; exact fun ι' H' σ' G s' e => hcl K E ι ι' H H' S S' .non .non Q s s' G non_rep h
    | rt d S' => simp only [hB] at h; exact fun ι' H' v G s' r => hcl K E ι ι' H H' S S' d v Q s s' G r h
    | er e ρ S' => simp only [hB] at h; exact fun ι' H' σ' cls dd G s' _ r => cl_err s s' G r h
    | bk ρ S' => simp only [hB] at h; exact h.elim
    | ct ρ S' => simp only [hB] at h; exact h.elim
    | stuck => simp only [hB] at h; exact h.elim
  · exact h.elim
section
variable {gd : Bool} {P : Program} {w : World} {K : PySem.W.Frag} {mg : Str → Option Value} {base : Heap} {k : Nat} {f : Addr} {fd : FuncData} {N ps : List Str}
/-- a def by its body -/
theorem fnD_of {x qual : Str} {st : Stmt} {cl : Sto → D → Sto → R D} {B : Ev → Sto → SR} (F : Fun K x qual st f fd) (sc : FnScope N ps (defScope st)) (hb : Binds K fd ps []) (hcl : ClOk cl)
    (hbody : ∀ (cdv : Value) (A : Around) (outer : List Env) (s : Shared) (H : Hp) (E : XK), Room k (A.deeper (envOfC qual (defScope st) s.heap.objs.size f cdv)) → (gd = true → A.guards = some []) →
      Takes (cxOf (L2.CX P w) P w K mg base N qual (defScope st) f cdv A outer s H E) (fun cls d _ H' => E cls d H') →
      PassesOwn (model P w) (A.deeper (envOfC qual (defScope st) s.heap.objs.size f cdv)) (envOfC qual (defScope st) s.heap.objs.size f cdv) (cxOf (L2.CX P w) P w K mg base N qual (defScope st) f cdv A outer s H E).xe →
      DSs (cxOf (L2.CX P w) P w K mg base N qual (defScope st) f cdv A outer s H E) (fun cls d _ H' => E cls d H') (defBody st) B) : FnD gd P w K mg base (k + 1) f (fnC cl N.length ps.length B) := by
  intro A outer s H us vs Q E hr hgd e0 rv hsp
  obtain ⟨oc, od, kV, doc, pm, an, cdv, ct, osl, efd, lk, hcd⟩ := F.ex
  obtain ⟨hl, rd⟩ := body_read (N := N) hcl hsp
  have hlu : us.length = ps.length := by rw [← rv.length]; exact hl
  have kept : ∀ b o, base.get? b = some o → s.heap.get? b = some o := fun b o e => (e0.bs b o e).1
  have KX : K.In s.heap := e0.mod.kin.keeps kept
  have bd := hb s us KX (by rw [List.append_nil]; exact hlu)
  rw [List.append_nil, efd] at bd
  rw [efd] at lk
  have hkind : ∀ y ∈ ps.zip us, (defScope st).names.lookup y.1 = some .local ∨ ((defScope st).names.lookup y.1 = some .cell ∧
      ((cellsFrom (s.heap.objs.size + 1) (defScope st).names []).lookup y.1).isSome = true) := by
    rintro ⟨n, v⟩ hy
    exact (sc.par n (List.of_mem_zip hy).1).imp id fun q => ⟨q, PySem.W.cellsFrom_some _ _ _ (.inl q)⟩
  refine codeAny_call_function hr.depth (KX _ _ lk) rfl sc.co sc.gen rfl
    (PySem.W.codeRec_of KX hcd) (bd _ _ _ _ (wpAny_newFunctionEnv_cells sc.kind hkind fun env he s1 ic => ?_))
  subst he
  refine ⟨(e0.mod.nolimit.keeps kept).keeps ic.toInCall.keep, codeAny_func ?_⟩
  have I := inv_start (CX := L2.CX P w) (P := P) (w := w) (E := E) sc hr.hd e0 hl rv ic
  have body := hbody cdv A outer s H E (hr.deeper _) hgd (takes_of rfl rfl rfl rfl) (passes_of rfl)
  refine wpAny_mono (body.run [] s1 (start N vs) H _ I rd) (fun fl s' hs => ?_) fun e s' hs => hs
  cases fl with
  | ret u =>
    obtain ⟨v, σ', H', J, r', q⟩ := hs
    exact ⟨v, H', J.os, J.bare, J.base, J.hok, r', q⟩
  | next =>
    obtain ⟨σ', H', J, q⟩ := hs
    exact ⟨V.non, H', J.os, J.bare, J.base, J.hok, rfl, q⟩
  | brk => obtain ⟨_, _, _, q⟩ := hs; exact False.elim q
  | cont => obtain ⟨_, _, _, q⟩ := hs; exact False.elim q
end
def eCall (F : Fn) (g : Ev → Sto → R (List D)) : Ev → Sto → R D := fun ρ S => (g ρ S).bind fun ds S1 => F ds S1
theorem PostX.of {K : PySem.W.Frag} {W : WX} {σ : St} {ι : List Addr} {H : Hp} {r : R D} {Q : VK} (h : Post K W σ ι H r fun d _ ι' H' => ∀ v, RepV K ι' H' d v → Q v H') : PostX K (WE W σ) ι H r Q := by
  cases r with
  | ok d S => exact fun ι' H' v G s r => h ι' H' G s v r
  | er e S => exact h
  | stuck => exact h
section
variable {X : Cx} {W : WX} {gd : Bool} {k : Nat} {f : Addr} {F : Fn} {x : Str} {p pos : Pos} {e : Expr} {es : List Expr} {g : Ev → Sto → R (List D)}
theorem run_fnD {pins : List (Addr × Obj)} {σ : St} {H : Hp} {s : Shared} {Q : VK} {us : List Value} {vs : List V} (hF : FnD gd X.prog X.w X.K X.mg X.base k f F) (hr : Room k X.A) (hG : gd = true → X.A.guards = some []) (tk : Takes X W)
    (I : Inv X pins σ H s) (r : Vals vs us) (h : spD X.K F vs H Q (WE W σ)) : wpAny (model X.prog X.w) X.A (call (.ref f) us) (EP X pins σ Q) X.xe s := by
  refine wpAny_call (codeAny_mono (hF X.A X.stack s H us vs Q (WE W σ) hr hG I.env0 r h) fun res s' hq => ?_)
  cases res with
  | error er => exact passAt tk σ pins H s er s' I hq
  | ok fl =>
    cases fl with
    | ret u => exact I.after hq
    | next => exact False.elim hq
    | brk => exact False.elim hq
    | cont => exact False.elim hq
theorem de_callD (hF : FnD gd X.prog X.w X.K X.mg X.base k f F) (hr : Room k X.A) (hG : gd = true → X.A.guards = some []) (tk : Takes X W) (hm : X.mg x = some (.ref f)) (hk : PySem.W.keepIn X.K (.ref f) = true) (ha : DA X W (e :: es) g) (hg : Gl X x := by rfl) (hdb : (x == ("__debug__" : Str)) = false := by decide)
    (he : starEach (e :: es) X.env = (false, eval e X.env) :: starEach es X.env := by rfl) (hpl : (backTo pos (starEach es X.env)).any (·.1) = false := by rfl) : DE X W (.Call (.Name x p) (e :: es) [] pos) (eCall F g) := by
  refine ⟨fun pins s σ H Q I ⟨ι, ρ, S, hE, hS, h⟩ => ?_⟩
  refine wpAny_Call_Name_kw (ld_glob I hg hm ?_ hdb)
  have rd : rdA X.K W g σ H fun vs H1 => spD X.K F vs H1 Q (WE W σ) := ⟨ι, ρ, S, hE, hS, (Post.bind h).mono fun ds S1 ι1 H1 G1 s1 h1 vs rs => ⟨ι1, S1, ds, rs, s1, PostX.of h1⟩⟩
  exact PySem.W.callWith_K (h₀ := X.base) I.ok.mod.kin hk (thn (ha.run pos pins s σ H _ I rd) fun us s1 ⟨vs, H1, I1, r1, q1⟩ => ⟨I1.kIn, run_fnD hF hr hG tk I1 r1 q1⟩) he hpl
end
end DL
namespace DL
open PySem PySem.Spec L2
open PyProof.Rows hiding St
def CallK (K : PySem.W.Frag) (r : List V → Hp → VK → Prop) (b : Fn) : Prop := ∀ (W : WX) (σ : St) (ι : List Addr) (H : Hp) (S : Sto) (vs : List V) (ds : List D) (Q : VK), Sim K ι H S → RepL K ι H ds vs →
  Post K W σ ι H (b ds S) (fun d _ ι' H' => ∀ v, RepV K ι' H' d v → Q v H') → r vs H Q
theorem CallR.or {X : Cx} {f : Value} {r r' : List V → Hp → VK → Prop} (h : CallR X f r) (h' : CallR X f r') : CallR X f (fun vs H Q => r vs H Q ∨ r' vs H Q) := by
  intro pins s σ H vs us Q I rv q
  rcases q with q | q
  · exact h pins s σ H vs us Q I rv q
  · exact h' pins s σ H vs us Q I rv q
section
variable {X : Cx} {W : WX} {x : Str} {p pos : Pos} {e : Expr} {es : List Expr} {g : Ev → Sto → R (List D)} {id T : String} {r : List V → Hp → VK → Prop} {b : Fn}
theorem cb_read {K : PySem.W.Frag} (k : CallK K r b) : ∀ σ H Q, rdE K W (eCall b g) σ H Q → tCB r (rdA K W g) σ H Q := fun σ H Q ⟨ι, ρ, S, hE, hS, h⟩ =>
  ⟨ι, ρ, S, hE, hS, (Post.bind h).mono fun ds S1 ι1 H1 G1 s1 h1 vs rs => k W σ ι1 H1 S1 vs ds Q s1 rs h1⟩
theorem de_callB (hc : CallR X (.builtin id) r) (k : CallK X.K r b) (hm : X.mg x = none) (hv : bootBuiltins x = some (.builtin id)) (ha : DA X W (e :: es) g) (hg : Gl X x := by rfl) (hn : x ≠ "__name__" := by decide) (hdb : (x == ("__debug__" : Str)) = false := by decide)
    (he : starEach (e :: es) X.env = (false, eval e X.env) :: starEach es X.env := by rfl) (hpl : (backTo pos (starEach es X.env)).any (·.1) = false := by rfl) : DE X W (.Call (.Name x p) (e :: es) [] pos) (eCall b g) :=
  PE.imp (pe_callB hc hg hm hv ha hn hdb he hpl) (cb_read k)
theorem de_callTy (hc : CallR X (.type T) r) (k : CallK X.K r b) (hm : X.mg x = none) (hv : bootBuiltins x = some (.type T)) (ha : DA X W (e :: es) g) (hg : Gl X x := by rfl) (hn : x ≠ "__name__" := by decide) (hdb : (x == ("__debug__" : Str)) = false := by decide)
    (he : starEach (e :: es) X.env = (false, eval e X.env) :: starEach es X.env := by rfl) (hpl : (backTo pos (starEach es X.env)).any (·.1) = false := by rfl) : DE X W (.Call (.Name x p) (e :: es) [] pos) (eCall b g) :=
  PE.imp (pe_callTy hc hg hm hv ha hn hdb he hpl) (cb_read k)
end
section
variable {X : Cx} {K : PySem.W.Frag}
noncomputable def bLen : Fn := fun ds S => match ds with
  | [.str z] => ifp (z.length ≤ sizeLine) (.ok (.int z.length) S) .stuck
  | [d] => (match seqOf S d with
    | some xs => .ok (.int xs.length) S
    | none => .stuck)
  | _ => .stuck
theorem c_len : CallR X (.builtin "len") (fun xs H Q => (∃ z, xs = [.str z] ∧ z.length ≤ sizeLine ∧ Q (.int z.length) H) ∨ ∃ p ys, xs = [.ref p] ∧ (SqL X.K H p ys ∨ SqT X.K H p ys) ∧ Q (.int ys.length) H) := CallR.or call_len_str call_len_seq
theorem k_len : CallK K (fun xs H Q => (∃ z, xs = [.str z] ∧ z.length ≤ sizeLine ∧ Q (.int z.length) H) ∨ ∃ p ys, xs = [.ref p] ∧ (SqL K H p ys ∨ SqT K H p ys) ∧ Q (.int ys.length) H) bLen := by
  intro W σ ι H S vs ds Q s rl h
  unfold bLen at h
  (try unfold ifp at h); split at h
  · obtain ⟨v, rfl, rv⟩ := RepL.one_inv rl
    (try unfold ifp at h); split at h
    · rename_i hz
      exact .inl ⟨_, by rw [str_at rv], hz, h.here s _ int_rep⟩
    · exact h.elim
  · obtain ⟨v, rfl, rv⟩ := RepL.one_inv rl
    (try unfold ifp at h); split at h
    · rename_i xs hx
      obtain ⟨p, vs, rfl, q, rq⟩ := seq_at s rv hx
      refine .inr ⟨p, vs, rfl, q, ?_⟩
      rw [← RepL.length _ _ rq]
      exact h.here s _ int_rep
    · exact h.elim
  · exact h.elim
def bAbs : Fn := fun ds S => match ds with
  | [.int i] => .ok (.int (if i < 0 then -i else i)) S
  | _ => .stuck
theorem k_abs : CallK K (fun xs H Q => ∃ i, xs = [.int i] ∧ Q (.int (if i < 0 then -i else i)) H) bAbs := by
  intro W σ ι H S vs ds Q s rl h
  unfold bAbs at h
  (try unfold ifp at h); split at h
  · obtain ⟨v, rfl, rv⟩ := RepL.one_inv rl
    exact ⟨_, by rw [int_at rv], h.here s _ int_rep⟩
  · exact h.elim
def intsOf : List D → Option (List Int)
  | [] => some []
  | .int i :: ds => (intsOf ds).map fun is => i :: is
  | _ => none
theorem intsOf_rep {ι : List Addr} {H : Hp} : ∀ (ds : List D) (vs : List V) (is : List Int), RepL K ι H ds vs → intsOf ds = some is → vs = is.map V.int
  | [], vs, is, r, e => by rw [RepL] at r; cases e; subst r; rfl
  | d :: ds, vs, is, r, e => by
    rw [RepL] at r
    obtain ⟨v, us, rfl, a, b⟩ := r
    cases d with
    | int i =>
      have e : (intsOf ds).map (fun is => i :: is) = some is := e
      cases h : intsOf ds with
      | none => rw [h] at e; cases e
      | some js =>
        rw [h] at e; cases e
        rw [int_at a, intsOf_rep ds us js b h]; rfl
    | _ => cases e
theorem intsOf_map (is : List Int) : intsOf (is.map D.int) = some is := by
  induction is with
  | nil => rfl
  | cons i is ih => simp [intsOf, ih]
def maxL : List Int → Int
  | [] => 0
  | i :: is => is.foldl max i
def minL : List Int → Int
  | [] => 0
  | i :: is => is.foldl min i
def bMax : Fn := fun ds S => match ds with
  | [.int i, .int j] => .ok (.int (max i j)) S
  | [d] => (match (lstOf S d).bind intsOf with
    | some is => if is = [] then .stuck else .ok (.int (maxL is)) S
    | none => .stuck)
  | _ => .stuck
def bMin : Fn := fun ds S => match ds with
  | [.int i, .int j] => .ok (.int (min i j)) S
  | [d] => (match (lstOf S d).bind intsOf with
    | some is => if is = [] then .stuck else .ok (.int (minL is)) S
    | none => .stuck)
  | _ => .stuck
theorem foldl_min_le (l : List Int) : ∀ i : Int, l.foldl min i ≤ i ∧ ∀ x ∈ l, l.foldl min i ≤ x := by
  induction l with
  | nil => intro i; simp
  | cons a l ih =>
    intro i
    obtain ⟨h1, h2⟩ := ih (min i a)
    refine ⟨by simp only [List.foldl_cons]; omega, fun x hx => ?_⟩
    simp only [List.foldl_cons]
    rcases List.mem_cons.mp hx with rfl | hx
    · omega
    · exact h2 x hx
theorem foldl_min_mem (l : List Int) : ∀ i : Int, l.foldl min i = i ∨ l.foldl min i ∈ l := by
  induction l with
  | nil => intro i; simp
  | cons a l ih =>
    intro i
    simp only [List.foldl_cons]
    rcases ih (min i a) with h | h
    · rw [h]
      by_cases hia : a ≤ i
      · exact .inr (by rw [Int.min_eq_right hia]; exact List.mem_cons_self)
      · exact .inl (by omega)
    · exact .inr (List.mem_cons_of_mem _ h)
theorem minL_spec {is : List Int} (h : is ≠ []) : minL is ∈ is ∧ ∀ x ∈ is, minL is ≤ x := by
  cases is with
  | nil => exact absurd rfl h
  | cons i l =>
    obtain ⟨h1, h2⟩ := foldl_min_le l i
    refine ⟨?_, fun x hx => ?_⟩
    · rcases foldl_min_mem l i with e | e
      · show l.foldl min i ∈ i :: l
        rw [e]; exact List.mem_cons_self
      · exact List.mem_cons_of_mem _ e
    · rcases List.mem_cons.mp hx with rfl | hx
      · exact h1
      · exact h2 x hx
theorem lst_ints {ι : List Addr} {H : Hp} {S : Sto} {d : D} {v : V} {is : List Int} (s : Sim K ι H S) (r : RepV K ι H d v) (e : (lstOf S d).bind intsOf = some is) : ∃ p, v = .ref p ∧ SqL K H p (is.map V.int) := by
  cases h : lstOf S d with
  | none => rw [h] at e; cases e
  | some ds =>
    rw [h] at e
    obtain ⟨p, vs, rfl, q, rl⟩ := lst_at s r h
    rw [intsOf_rep _ _ _ rl e] at q
    exact ⟨p, rfl, SqL.of q⟩
theorem c_min (hc : X.calm = true) : CallR X (.builtin "min") (fun xs H Q => (∃ i j, xs = [.int i, .int j] ∧ Q (.int (if j < i then j else i)) H) ∨ rMin X.K xs H Q) := CallR.or (call_min2 hc) (cr_min hc)
theorem k_min : CallK K (fun xs H Q => (∃ i j, xs = [.int i, .int j] ∧ Q (.int (if j < i then j else i)) H) ∨ rMin K xs H Q) bMin := by
  intro W σ ι H S vs ds Q s rl h
  unfold bMin at h
  (try unfold ifp at h); split at h
  · rename_i i j
    obtain ⟨v, u, rfl, rv, ru⟩ := RepL.two_inv rl
    refine .inl ⟨i, j, by rw [int_at rv, int_at ru], ?_⟩
    have : (if j < i then j else i) = min i j := by split <;> omega
    rw [this]
    exact h.here s _ int_rep
  · obtain ⟨v, rfl, rv⟩ := RepL.one_inv rl
    (try unfold ifp at h); split at h
    · rename_i is hi
      (try unfold ifp at h); split at h
      · exact h.elim
      · rename_i hne
        obtain ⟨p, rfl, q⟩ := lst_ints s rv hi
        obtain ⟨m1, m2⟩ := minL_spec hne
        refine .inr ⟨p, is, rfl, q, List.length_pos_iff.mpr hne, fun m hm hle => ?_⟩
        have : m = minL is := by have := hle _ m1; have := m2 _ hm; omega
        rw [this]
        exact h.here s _ int_rep
    · exact h.elim
  · exact h.elim
def bList (mk : List D → Sto → R D) : Fn := fun ds S => match ds with
  | [d] => (match seqOf S d with
    | some xs => mk xs S
    | none => .stuck)
  | _ => .stuck
theorem k_list {mk : List D → Sto → R D} (m : MkOk mk) : CallK K (fun xs H Q => ∃ p ys, xs = [.ref p] ∧ (SqL K H p ys ∨ SqT K H p ys) ∧ ∀ l, H l = none → Q (.ref l) (upd H l (.lst ys))) (bList mk) := by
  intro W σ ι H S vs ds Q s rl h
  unfold bList at h
  (try unfold ifp at h); split at h
  · obtain ⟨v, rfl, rv⟩ := RepL.one_inv rl
    (try unfold ifp at h); split at h
    · rename_i xs hx
      obtain ⟨p, vs, rfl, q, rq⟩ := seq_at s rv hx
      exact ⟨p, vs, rfl, q, m _ _ _ _ _ _ _ _ _ h s rq⟩
    · exact h.elim
  · exact h.elim
def bTuple : Fn := fun ds S => match ds with
  | [d] => (match seqOf S d with
    | some xs => .ok (.tup xs) S
    | none => .stuck)
  | _ => .stuck
theorem k_tuple : CallK K (fun xs H Q => ∃ p ys, xs = [.ref p] ∧ ((SqL K H p ys ∧ ∀ l, H l = none → Q (.ref l) (upd H l (.tup ys))) ∨ (SqT K H p ys ∧ Q (.ref p) H))) bTuple := by
  intro W σ ι H S vs ds Q s rl h
  match ds, rl, h with
  | [], rl, h => exact (show False from h).elim
  | _ :: _ :: _, rl, h => exact (show False from h).elim
  | [d], rl, h =>
    obtain ⟨v, rfl, rv⟩ := RepL.one_inv rl
    replace h : Post K W σ ι H (match seqOf S d with
      | some xs => .ok (.tup xs) S
      | none => .stuck) (fun d _ ι' H' => ∀ v, RepV K ι' H' d v → Q v H') := h
    cases d with
    | tup ys =>
      have rv' := rv
      obtain ⟨p, vs, rfl, q, rq⟩ := tup_at rv
      exact ⟨p, vs, rfl, .inr ⟨q, Post.here (a := D.tup ys) h s _ rv'⟩⟩
    | fl ys =>
      rw [RepV] at rv
      obtain ⟨a, us, rfl, t, rl'⟩ := rv
      exact ⟨a, us, rfl, .inl ⟨t.sq, new_tup h s rl'⟩⟩
    | kl ys =>
      rw [RepV] at rv
      obtain ⟨a, us, rfl, t, rl'⟩ := rv
      exact ⟨a, us, rfl, .inl ⟨t.sq, new_tup h s rl'⟩⟩
    | loc n =>
      rw [RepV] at rv
      obtain ⟨a, ea, rfl⟩ := rv
      cases hq : getQ S n with
      | none =>
        have e : seqOf S (.loc n) = none := hq
        rw [e] at h; exact h.elim
      | some ys =>
        have e : seqOf S (.loc n) = some ys := hq
        rw [e] at h
        obtain ⟨us, z, rl'⟩ := loc_at s ea hq
        exact ⟨a, us, rfl, .inl ⟨z, new_tup h s rl'⟩⟩
    | _ => exact (show False from h).elim
def tyOf (S : Sto) : D → Option String
  | .non => some "NoneType"
  | .bl _ => some "bool"
  | .int _ => some "int"
  | .str _ => some "str"
  | .tup _ => some "tuple"
  | .fl _ => some "list"
  | .fd _ => some "dict"
  | .kl _ => none
  | .loc n => (match S[n]? with
    | some (.lst _) => some "list"
    | some (.dct _) => some "dict"
    | _ => none)
  | .ty _ => none
  | .fn _ => none
  | .exc _ _ => none
theorem ty_at {ι : List Addr} {H : Hp} {S : Sto} {d : D} {v : V} {t : String} (s : Sim K ι H S) (r : RepV K ι H d v) (e : tyOf S d = some t) : TyX K H v (.type t) := by
  cases d with
  | non => rw [RepV] at r; cases e; subst r; exact .base .non
  | bl b => rw [RepV] at r; cases e; subst r; exact .base (.bl b)
  | int b => rw [RepV] at r; cases e; subst r; exact .base (.int b)
  | str b => rw [RepV] at r; cases e; subst r; exact .base (.str b)
  | tup ds =>
    cases e
    rw [RepV] at r
    obtain ⟨a, vs, rfl, tt, rl⟩ := r
    rcases tt with tt | tt | ⟨o, its, n, h1, h2, _⟩
    · exact .base (.tup tt.2)
    · exact (no_rd tt).elim
    · exact .kTuple h1 h2
  | fl ds =>
    cases e
    rw [RepV] at r
    obtain ⟨a, vs, rfl, tt, rl⟩ := r
    exact .base (.lst tt.2)
  | fd ds =>
    cases e
    rw [RepV] at r
    obtain ⟨a, vs, rfl, tt, h1, rl⟩ := r
    exact .base (.dK h1)
  | loc n =>
    rw [RepV] at r
    obtain ⟨a, ea, rfl⟩ := r
    have e : (match S[n]? with
      | some (.lst _) => some "list"
      | some (.dct _) => some "dict"
      | _ => none) = some t := e
    (try unfold ifp at e); split at e
    · rename_i q
      cases e
      obtain ⟨vs, h1, _⟩ := s.ob _ _ _ ea q
      exact .base (.lst h1)
    · rename_i q
      cases e
      obtain ⟨vs, h1, _⟩ := s.ob _ _ _ ea q
      exact .base (.dK h1)
    · cases e
  | ty b => cases e
  | kl b => cases e
  | fn b => cases e
  | exc c b => cases e
def bIsi : Fn := fun ds S => match ds with
  | [d, .ty c] => (match tyOf S d with
    | some t => (match kitB t c with
      | some b => .ok (.bl b) S
      | none => .stuck)
    | none => .stuck)
  | _ => .stuck
theorem k_isi : CallK K (rIsi K) bIsi := by
  intro W σ ι H S vs ds Q s rl h
  unfold bIsi at h
  (try unfold ifp at h); split at h
  · obtain ⟨v, u, rfl, rv, ru⟩ := RepL.two_inv rl
    rw [RepV] at ru
    (try unfold ifp at h); split at h
    · rename_i t ht
      (try unfold ifp at h); split at h
      · rename_i b hb
        refine ⟨v, u, .type t, .type _, b, rfl, ?_, ty_at s rv ht, kit_ty hb, h.here s _ bl_rep⟩
        subst ru
        exact .ty _
      · exact h.elim
    · exact h.elim
  · exact h.elim
end
section
variable {X : Cx} {W : WX} {pos : Pos} {a b c : Expr}
def eNeg (f : Ev → Sto → R D) : Ev → Sto → R D := fun ρ S => (f ρ S).bind fun d S1 => (iOf d S1).bind fun i S2 => .ok (.int (-i)) S2
theorem de_neg {f : Ev → Sto → R D} (ha : DE X W a f) : DE X W (.UnaryOp .USub a pos) (eNeg f) := by
  refine PE.imp (pe_un un_neg ha) fun σ H Q ⟨ι, ρ, S, hE, hS, h⟩ => ⟨ι, ρ, S, hE, hS, (Post.bind h).mono fun d S1 ι1 H1 G1 s1 h1 v rv => ?_⟩
  cases d with
  | int i => exact ⟨i, int_at rv, Post.here (a := D.int (-i)) h1 s1 _ int_rep⟩
  | _ => exact (show False from h1).elim
def eChain (o o' : D → D → Sto → R D) (f g h : Ev → Sto → R D) : Ev → Sto → R D := fun ρ S => (f ρ S).bind fun x S1 => (g ρ S1).bind fun y S2 => (o x y S2).bind fun z S3 => (bOf z S3).bind fun k S4 => if k = true then (h ρ S4).bind fun w S5 => o' y w S5 else .ok (.bl false) S4
theorem chain_read {r r' : R2} {o o' : D → D → Sto → R D} {f g h : Ev → Sto → R D} (k : OpK X.K r o) (k' : OpK X.K r' o') : ∀ σ H Q, rdE X.K W (eChain o o' f g h) σ H Q → tChain r r' (rdE X.K W f) (rdE X.K W g) (rdE X.K W h) σ H Q := fun σ H Q ⟨ι, ρ, S, hE, hS, q⟩ => by
  refine ⟨ι, ρ, S, hE, hS, (Post.bind q).mono fun x S1 ι1 H1 G1 s1 h1 vx rx => ?_⟩
  refine ⟨ι1, ρ, S1, hE.grow G1, s1, (Post.bind h1).mono fun y S2 ι2 H2 G2 s2 h2 vy ry => ?_⟩
  refine k W σ ι2 H2 S2 vx vy x y _ s2 (RepV.grow G2 _ _ rx) ry ((Post.bind h2).mono fun z S3 ι3 H3 G3 s3 h3 vz rz => ?_)
  obtain ⟨b, e, h4⟩ := bOf_bind h3 s3 rz
  refine ⟨b, e, ?_⟩
  have hE3 := ((hE.grow G1).grow G2).grow G3
  cases b with
  | false => rw [if_neg (by decide)] at h4 ⊢; exact h4.here s3 _ bl_rep
  | true =>
    rw [if_pos rfl] at h4 ⊢
    refine ⟨ι3, ρ, S3, hE3, s3, (Post.bind h4).mono fun w S4 ι4 H4 G4 s4 h5 vw rw' => ?_⟩
    exact k' W σ ι4 H4 S4 vy vw y w Q s4 (RepV.grow G4 _ _ (RepV.grow G3 _ _ ry)) rw' h5
theorem de_chain {op op' : CmpOp} {r r' : R2} {o o' : D → D → Sto → R D} {f g h : Ev → Sto → R D} (ho : OpR X (compareOp op) r) (k : OpK X.K r o) (ho' : OpR X (compareOp op') r') (k' : OpK X.K r' o') (ha : DE X W a f) (hb : DE X W b g) (hc : DE X W c h)
    (hm : lastMarks [op, op'] [b, c] = false := by with_unfolding_all rfl) : DE X W (.Compare a [op, op'] [b, c] pos) (eChain o o' f g h) := PE.imp (pe_chain ho ho' ha hb hc hm) (chain_read k k')
theorem dt_chain {op op' : CmpOp} {r r' : R2} {o o' : D → D → Sto → R D} {f g h : Ev → Sto → R D} (ho : OpR X (compareOp op) r) (k : OpK X.K r o) (ho' : OpR X (compareOp op') r') (k' : OpK X.K r' o') (ha : DE X W a f) (hb : DE X W b g) (hc : DE X W c h)
    (hm : lastMarks [op, op'] [b, c] = false := by with_unfolding_all rfl) : DT X W (.Compare a [op, op'] [b, c] pos) (eT (eChain o o' f g h)) := dt_of_test (pt_chain ho ho' ha hb hc hm) (chain_read k k')
end
end DL
namespace DL
open PySem PySem.Spec L2
open PyProof.Rows hiding St
abbrev Mt := D → List D → Sto → R D
def MtK (K : PySem.W.Frag) (r : V → List V → Hp → VK → Prop) (m : Mt) : Prop := ∀ (W : WX) (σ : St) (ι : List Addr) (H : Hp) (S : Sto) (x : V) (vs : List V) (a : D) (ds : List D) (Q : VK), Sim K ι H S → RepV K ι H a x → RepL K ι H ds vs →
  Post K W σ ι H (m a ds S) (fun d _ ι' H' => ∀ v, RepV K ι' H' d v → Q v H') → r x vs H Q
def isLst (S : Sto) (d : D) : Bool := (lstOf S d).isSome
def eMt (c : Sto → D → Bool) (m : Mt) (f : Ev → Sto → R D) (g : Ev → Sto → R (List D)) : Ev → Sto → R D := fun ρ S => (f ρ S).bind fun a S1 => if c S1 a = true then (g ρ S1).bind fun ds S2 => m a ds S2 else .stuck
def isStr (_ : Sto) (d : D) : Bool := match d with
  | .str _ => true
  | _ => false
def ChkOk (T : String) (c : Sto → D → Bool) : Prop := ∀ (K : PySem.W.Frag) (ι : List Addr) (H : Hp) (S : Sto) (d : D) (x : V), Sim K ι H S → RepV K ι H d x → c S d = true → tyV K T x H
theorem chk_lst : ChkOk "list" isLst := fun K ι H S d x s r h => by
  unfold isLst at h
  cases e : lstOf S d with
  | none => rw [e] at h; cases h
  | some ds =>
    obtain ⟨p, vs, rfl, q, _⟩ := lst_at s r e
    exact .inl ⟨rfl, vs, SqL.of q⟩
section
variable {X : Cx} {W : WX} {o e : Expr} {es : List Expr} {apos cpos : Pos} {T id : String} {name : Str} {r : V → List V → Hp → VK → Prop} {c : Sto → D → Bool} {m : Mt} {f : Ev → Sto → R D} {g : Ev → Sto → R (List D)}
theorem de_bm (pa : PlainAttrs T) (slot : Slot T name id) (hty : typeOf (.builtin id) = pure (.type "method_descriptor")) (hm : MtR X id r) (k : MtK X.K r m) (hc : ChkOk T c) (ho : DE X W o f) (ha : DA X W (e :: es) g)
    (hbase : attributeBase o name X.env (eval o X.env) = eval o X.env := by rfl)
    (hfew : ((backTo cpos (starEach (e :: es) X.env)).all (fun x => !x.1) && (backToKw cpos (keywordEach [] X.env)).all (fun x => x.1.isSome)
      && decide ((e :: es).length + ([] : List Keyword).length + (if ([] : List Keyword).isEmpty then 0 else 1) < 30)) = true := by rfl)
    (hline : (apos.endLine == cpos.line) = true := by rfl) (hs : starEach (e :: es) X.env = (false, eval e X.env) :: starEach es X.env := by rfl)
    (hplain : (backTo cpos (starEach es X.env)).any (·.1) = false := by rfl) : DE X W (.Call (.Attribute o name apos) (e :: es) [] cpos) (eMt c m f g) := by
  refine PE.imp (pe_bm pa slot hty hm ho ha hbase hfew hline hs hplain) fun σ H Q ⟨ι, ρ, S, hE, hS, h⟩ => ⟨ι, ρ, S, hE, hS, (Post.bind h).mono fun a S1 ι1 H1 G1 s1 h1 x rx => ?_⟩
  (try unfold ifp at h1); split at h1
  · rename_i hh
    refine ⟨hc _ _ _ _ _ _ s1 rx hh, ι1, ρ, S1, hE.grow G1, s1, (Post.bind h1).mono fun ds S2 ι2 H2 G2 s2 h2 vs rs => ?_⟩
    exact k W σ ι2 H2 S2 x vs a ds Q s2 (RepV.grow G2 _ _ rx) rs h2
  · exact h1.elim
theorem de_bm0 (pa : PlainAttrs T) (slot : Slot T name id) (hty : typeOf (.builtin id) = pure (.type "method_descriptor")) (hm : MtR X id r) (k : MtK X.K r m) (hc : ChkOk T c) (ho : DE X W o f)
    (hbase : attributeBase o name X.env (eval o X.env) = eval o X.env := by rfl) (hline : (apos.endLine == cpos.line) = true := by rfl) : DE X W (.Call (.Attribute o name apos) [] [] cpos) (eMt c m f aNil) := by
  refine PE.imp (pe_bm0 pa slot hty hm ho hbase hline) fun σ H Q ⟨ι, ρ, S, hE, hS, h⟩ => ⟨ι, ρ, S, hE, hS, (Post.bind h).mono fun a S1 ι1 H1 G1 s1 h1 x rx => ?_⟩
  (try unfold ifp at h1); split at h1
  · rename_i hh
    refine ⟨hc _ _ _ _ _ _ s1 rx hh, ?_⟩
    exact k W σ ι1 H1 S1 x [] a [] Q s1 rx RepL.nil h1
  · exact h1.elim
end
section
variable {X : Cx} {K : PySem.W.Frag}
noncomputable def mAppend : Mt := fun o ds S => match o, ds with
  | .loc n, [y] => (match getL S n with
    | some xs => ifp (xs.length < sizeLine) (.ok .non (S.set n (.lst (xs ++ [y])))) .stuck
    | none => .stuck)
  | _, _ => .stuck
/-- a list of the store is changed -/
theorem loc_put {W : WX} {σ : St} {ι : List Addr} {H : Hp} {S : Sto} {n : Nat} {a : Addr} {xs : List D} {ys : List D} {us : List V} {d : D} {Q : VK} {v : V} (h : Post K W σ ι H (.ok d (S.set n (.lst ys))) fun d _ ι' H' => ∀ v, RepV K ι' H' d v → Q v H') (s : Sim K ι H S) (ea : ι[n]? = some a)
    {u0 : List V} (hu : H a = some (.lst u0)) (rl : RepL K ι H ys us) (rv : RepV K ι H d v) : Q v (upd H a (.lst us)) :=
  have G := Grow.put (H := H) (o := .lst us) (List.mem_of_getElem? ea) hu (fun _ _ z => by cases z)
  h ι _ G (s.put (b := .lst ys) ea hu (fun _ _ z => by cases z) ⟨us, upd_same, RepL.grow G _ _ rl⟩) v (RepV.grow G _ _ rv)
theorem k_append : MtK K rAppend mAppend := by
  intro W σ ι H S x vs a ds Q s rx rl h
  unfold mAppend at h
  (try unfold ifp at h); split at h
  · (try unfold ifp at h); split at h
    · rename_i xs hL
      (try unfold ifp at h); split at h
      · rename_i hz
        obtain ⟨y, rfl, ry⟩ := RepL.one_inv rl
        rw [RepV] at rx
        obtain ⟨p, ea, rfl⟩ := rx
        obtain ⟨us, h1, h2⟩ := s.ob _ _ _ ea (getL_some hL)
        exact ⟨p, us, y, rfl, rfl, h1, by rw [← RepL.length _ _ h2]; exact hz, loc_put (xs := xs) h s ea h1 (RepL.app _ _ h2 _ _ (RepL.one ry)) non_rep⟩
      · exact h.elim
    · exact h.elim
  · exact h.elim
def mPop : Mt := fun o ds S => match o, ds with
  | .loc n, [] => (match getL S n with
    | some xs => (match xs[xs.length - 1]? with
      | some y => .ok y (S.set n (.lst xs.dropLast))
      | none => .stuck)
    | none => .stuck)
  | _, _ => .stuck
theorem RepL.dropLast {ι : List Addr} {H : Hp} {ds : List D} {vs : List V} (h : RepL K ι H ds vs) : RepL K ι H ds.dropLast vs.dropLast := by
  rw [List.dropLast_eq_take, List.dropLast_eq_take, ← RepL.length _ _ h]
  exact RepL.take _ _ _ h
theorem k_pop : MtK K rPop mPop := by
  intro W σ ι H S x vs a ds Q s rx rl h
  unfold mPop at h
  (try unfold ifp at h); split at h
  · (try unfold ifp at h); split at h
    · rename_i xs hL
      (try unfold ifp at h); split at h
      · rename_i y hy
        have := rl
        rw [RepL] at this
        subst this
        rw [RepV] at rx
        obtain ⟨p, ea, rfl⟩ := rx
        obtain ⟨us, h1, h2⟩ := s.ob _ _ _ ea (getL_some hL)
        obtain ⟨v, hv, rv⟩ := RepL.get _ _ h2 _ _ hy
        rw [RepL.length _ _ h2] at hv
        exact ⟨p, us, v, rfl, rfl, h1, hv, loc_put (xs := xs) h s ea h1 h2.dropLast rv⟩
      · exact h.elim
    · exact h.elim
  · exact h.elim
noncomputable def mPopAt : Mt := fun o ds S => match o, ds with
  | .loc n, [.int i] => (match getL S n with
    | some xs => ifp (-(2 ^ 63) ≤ i ∧ i < 2 ^ 63) (match seqIndex? i xs.length with
        | some k => (match xs[k]? with
          | some y => .ok y (S.set n (.lst (xs.eraseIdx k)))
          | none => .stuck)
        | none => .stuck) .stuck
    | none => .stuck)
  | _, _ => .stuck
theorem RepL.erase {ι : List Addr} {H : Hp} : ∀ (ds : List D) (vs : List V) (k : Nat), RepL K ι H ds vs → RepL K ι H (ds.eraseIdx k) (vs.eraseIdx k)
  | [], _, k, h => by rw [RepL] at h; subst h; simp [RepL]
  | d :: ds, _, 0, h => by
    rw [RepL] at h
    obtain ⟨v, r, rfl, a, b⟩ := h
    exact b
  | d :: ds, _, k + 1, h => by
    rw [RepL] at h
    obtain ⟨v, r, rfl, a, b⟩ := h
    exact RepL.cons a (RepL.erase ds r k b)
theorem k_popAt : MtK K rPopAt mPopAt := by
  intro W σ ι H S x vs a ds Q s rx rl h
  unfold mPopAt at h
  (try unfold ifp at h); split at h
  · rename_i n i
    (try unfold ifp at h); split at h
    · rename_i xs hL
      (try unfold ifp at h); split at h
      · rename_i hi
        (try unfold ifp at h); split at h
        · rename_i k hk
          (try unfold ifp at h); split at h
          · rename_i y hy
            obtain ⟨u, rfl, ru⟩ := RepL.one_inv rl
            rw [RepV] at rx
            obtain ⟨p, ea, rfl⟩ := rx
            obtain ⟨us, h1, h2⟩ := s.ob _ _ _ ea (getL_some hL)
            obtain ⟨v, hv, rv⟩ := RepL.get _ _ h2 _ _ hy
            refine ⟨p, us, i, k, v, rfl, by rw [int_at ru], h1, hi.1, hi.2, by rw [← RepL.length _ _ h2]; exact hk, hv, loc_put (xs := xs) h s ea h1 (RepL.erase _ _ _ h2) rv⟩
          · exact h.elim
        · exact h.elim
      · exact h.elim
    · exact h.elim
  · exact h.elim
noncomputable def mInsert : Mt := fun o ds S => match o, ds with
  | .loc n, [.int i, y] => (match getL S n with
    | some xs => ifp (xs.length < sizeLine ∧ 0 ≤ i ∧ i < 2 ^ 63) (.ok .non (S.set n (.lst (xs.take i.toNat ++ [y] ++ xs.drop i.toNat)))) .stuck
    | none => .stuck)
  | _, _ => .stuck
theorem k_insert : MtK K (fun x vs H Q => ∃ (l : Addr) (xs : List V) (i : Int) (y : V), x = .ref l ∧ vs = [.int i, y] ∧ H l = some (.lst xs) ∧ xs.length < sizeLine ∧ 0 ≤ i ∧ i < 2 ^ 63 ∧ Q .non (upd H l (.lst (xs.take i.toNat ++ [y] ++ xs.drop i.toNat)))) mInsert := by
  intro W σ ι H S x vs a ds Q s rx rl h
  unfold mInsert at h
  (try unfold ifp at h); split at h
  · rename_i n i y0
    (try unfold ifp at h); split at h
    · rename_i xs hL
      (try unfold ifp at h); split at h
      · rename_i hz
        obtain ⟨u, y, rfl, ru, ry⟩ := RepL.two_inv rl
        rw [RepV] at rx
        obtain ⟨p, ea, rfl⟩ := rx
        obtain ⟨us, h1, h2⟩ := s.ob _ _ _ ea (getL_some hL)
        refine ⟨p, us, i, y, rfl, by rw [int_at ru], h1, by rw [← RepL.length _ _ h2]; exact hz.1, hz.2.1, hz.2.2, loc_put (xs := xs) h s ea h1 ?_ non_rep⟩
        exact RepL.app _ _ (RepL.app _ _ (RepL.take _ _ _ h2) _ _ (RepL.one ry)) _ _ (RepL.drop _ _ _ h2)
      · exact h.elim
    · exact h.elim
  · exact h.elim
end
section
variable {X : Cx} {pins : List (Addr × Obj)} {σ : St} {ι : List Addr} {H : Hp} {s : Shared}
theorem no_sys (I : Inv X pins σ H s) (hb : ∃ o, X.base.get? sysModules = some o) {a : Addr} {u : HO} (e : H a = some u) : sysModules ≠ a := by
  rintro rfl
  obtain ⟨o, h⟩ := hb
  have := (I.bs _ _ h).2
  rw [this] at e; cases e
theorem pairs_reads {P : Program} {w : World} {h : Heap} : ∀ (kvs : List (Key × V)) (vs : List (Key × Value)) (es : List DictEntry), KV kvs vs → Pairs (mixKind P w) es vs → ∃ ks, ks = es.map (·.key) ∧ ReadsAll h ks (kvs.map fun q => keyPy q.1) [] ∧ Vals (kvs.map (·.2)) (es.map (·.val))
  | [], _, _, .nil, .nil => ⟨_, rfl, .nil, .nil⟩
  | (k, x) :: kvs, _, _, .cons r rs, .cons (e := e) h1 h2 h3 => by
    obtain ⟨ks, rfl, h4, h5⟩ := pairs_reads (h := h) kvs _ _ rs h3
    obtain ⟨r1, r2⟩ := r
    refine ⟨_, rfl, ?_, .cons (show L2.RelV x e.val by rw [h2]; exact r2) h5⟩
    rw [← r1] at h1
    rcases keyIs_shape h1 with ⟨i, t, e1, e2⟩ | ⟨z, t, e1, e2⟩
    · cases e1
      show ReadsAll h (e.key :: _) (PyData.int i :: _) ([] ++ [])
      rw [e2]
      exact .cons (Reads.int i t) h4
    · cases e1
      show ReadsAll h (e.key :: _) (PyData.str z :: _) ([] ++ [])
      rw [e2]
      exact .cons (Reads.str z t) h4
theorem repK_fst {K : PySem.W.Frag} : ∀ (kvs : List (Key × D)) (ks : List (Key × V)), RepK K ι H kvs ks → ks.map (fun q => keyPy q.1) = kvs.map (fun q => keyPy q.1) ∧ RepL K ι H (kvs.map (·.2)) (ks.map (·.2))
  | [], _, h => by rw [RepK] at h; subst h; exact ⟨rfl, RepL.nil⟩
  | (k, d) :: kvs, _, h => by
    rw [RepK] at h
    obtain ⟨v, r, rfl, a, b⟩ := h
    obtain ⟨h1, h2⟩ := repK_fst kvs r b
    exact ⟨by simp [h1], RepL.cons a h2⟩
theorem pyK_split : ∀ (kvs : List (Key × D)) (ps : List (PyData × PyData)), pyK kvs = some ps → ps.map (·.1) = kvs.map (fun q => keyPy q.1) ∧ pyL (kvs.map (·.2)) = some (ps.map (·.2))
  | [], ps, h => by rw [pyK] at h; cases h; exact ⟨rfl, rfl⟩
  | (k, d) :: kvs, ps, h => by
    rw [pyK] at h
    cases h1 : py d with
    | none => rw [h1] at h; cases h
    | some p =>
      rw [h1] at h
      cases h2 : pyK kvs with
      | none => rw [h2] at h; cases h
      | some qs =>
        rw [h2] at h; cases h
        obtain ⟨a, b⟩ := pyK_split kvs qs h2
        refine ⟨by simp [a], ?_⟩
        show pyL (d :: kvs.map (·.2)) = _
        rw [pyL, h1, b]; rfl
mutual
theorem py_reads (I : Inv X pins σ H s) (hb : ∃ o, X.base.get? sysModules = some o) : ∀ (d : D) (v : V) (u : Value) (p : PyData), RepV X.K ι H d v → RelV v u → py d = some p → ∃ as, Reads s.heap u p as ∧ sysModules ∉ as
  | .non, v, u, p, r, q, e => by rw [RepV] at r; rw [py] at e; cases e; subst r; cases q; exact ⟨_, .none, by simp⟩
  | .bl b, v, u, p, r, q, e => by rw [RepV] at r; rw [py] at e; cases e; subst r; cases q; exact ⟨_, .bool b, by simp⟩
  | .int i, v, u, p, r, q, e => by rw [RepV] at r; rw [py] at e; cases e; subst r; obtain ⟨t, rfl⟩ := q; exact ⟨_, .int i t, by simp⟩
  | .str x, v, u, p, r, q, e => by rw [RepV] at r; rw [py] at e; cases e; subst r; obtain ⟨t, rfl⟩ := q; exact ⟨_, .str x t, by simp⟩
  | .tup ds, v, u, p, r, q, e => by
    rw [RepV] at r
    obtain ⟨a, vs, rfl, t, rl⟩ := r
    cases q
    rw [py] at e
    cases h : pyL ds with
    | none => rw [h] at e; cases e
    | some ps =>
      rw [h] at e; cases e
      obtain ⟨its, rv, ⟨o, ho, hc, n, hd⟩, _⟩ := I.tuple t.sq
      obtain ⟨as, h1, h2⟩ := pyL_reads I hb ds vs its ps rl rv h
      exact ⟨as, .tuple ho hc hd h1, h2⟩
  | .fl ds, v, u, p, r, q, e => by
    rw [RepV] at r
    obtain ⟨a, vs, rfl, t, rl⟩ := r
    cases q
    rw [py] at e
    cases h : pyL ds with
    | none => rw [h] at e; cases e
    | some ps =>
      rw [h] at e; cases e
      obtain ⟨its, rv, ⟨o, n, ho, hc, _, hd⟩, _⟩ := I.list t.sq
      obtain ⟨as, h1, h2⟩ := pyL_reads I hb ds vs its ps rl rv h
      exact ⟨a :: as, .list ho hc hd h1, by simp [h2, no_sys I hb t.2]⟩
  | .fd kvs, v, u, p, r, q, e => by
    rw [RepV] at r
    obtain ⟨a, ks, rfl, na, ha, rk⟩ := r
    cases q
    rw [py] at e
    cases h : pyK kvs with
    | none => rw [h] at e; cases e
    | some ps =>
      rw [h] at e; cases e
      obtain ⟨_, _, vs, kv, o, es, ep, ho, hx, hd, _, hp, _⟩ := I.hok a _ ha
      obtain ⟨e1, rl⟩ := repK_fst kvs ks rk
      obtain ⟨e2, e3⟩ := pyK_split kvs ps h
      obtain ⟨_, rfl, h4, h5⟩ := pairs_reads (h := s.heap) ks vs es.toList kv hp
      obtain ⟨as, h6, h7⟩ := pyLK_reads I hb kvs _ _ (ps.map (·.2)) rl h5 e3
      refine ⟨a :: [] ++ as, .dict ho hx.1 hd (by rw [e2, ← e1]; exact h4) h6, ?_⟩
      simp [h7, no_sys I hb ha]
  | .ty _, v, u, p, r, q, e => by rw [py] at e; cases e
  | .kl _, v, u, p, r, q, e => by rw [py] at e; cases e
  | .fn _, v, u, p, r, q, e => by rw [py] at e; cases e
  | .exc _ _, v, u, p, r, q, e => by rw [py] at e; cases e
  | .loc _, v, u, p, r, q, e => by rw [py] at e; cases e
theorem pyL_reads (I : Inv X pins σ H s) (hb : ∃ o, X.base.get? sysModules = some o) : ∀ (ds : List D) (vs : List V) (us : List Value) (ps : List PyData), RepL X.K ι H ds vs → Vals vs us → pyL ds = some ps → ∃ as, ReadsAll s.heap us ps as ∧ sysModules ∉ as
  | [], vs, us, ps, r, q, e => by rw [RepL] at r; rw [pyL] at e; cases e; subst r; cases q; exact ⟨_, .nil, by simp⟩
  | d :: ds, vs, us, ps, r, q, e => by
    rw [RepL] at r
    obtain ⟨v, ws, rfl, a, b⟩ := r
    rw [pyL] at e
    cases h : py d with
    | none => rw [h] at e; cases e
    | some p =>
      rw [h] at e
      cases h2 : pyL ds with
      | none => rw [h2] at e; cases e
      | some qs =>
        rw [h2] at e; cases e
        cases q with
        | cons q1 q2 =>
          obtain ⟨as, r1, n1⟩ := py_reads I hb d v _ p a q1 h
          obtain ⟨bs, r2, n2⟩ := pyL_reads I hb ds ws _ qs b q2 h2
          exact ⟨as ++ bs, .cons r1 r2, by simp [n1, n2]⟩
theorem pyLK_reads (I : Inv X pins σ H s) (hb : ∃ o, X.base.get? sysModules = some o) : ∀ (ds : List (Key × D)) (vs : List V) (us : List Value) (ps : List PyData), RepL X.K ι H (ds.map (·.2)) vs → Vals vs us → pyL (ds.map (·.2)) = some ps → ∃ as, ReadsAll s.heap us ps as ∧ sysModules ∉ as
  | [], vs, us, ps, r, q, e => by
    have r : RepL X.K ι H [] vs := r
    have e : pyL [] = some ps := e
    rw [RepL] at r; rw [pyL] at e; cases e; subst r; cases q; exact ⟨_, .nil, by simp⟩
  | (k, d) :: ds, vs, us, ps, r, q, e => by
    have r : RepL X.K ι H (d :: ds.map (·.2)) vs := r
    have e : pyL (d :: ds.map (·.2)) = some ps := e
    rw [RepL] at r
    obtain ⟨v, ws, rfl, a, b⟩ := r
    rw [pyL] at e
    cases h : py d with
    | none => rw [h] at e; cases e
    | some p =>
      rw [h] at e
      cases h2 : pyL (ds.map (·.2)) with
      | none => rw [h2] at e; cases e
      | some qs =>
        rw [h2] at e; cases e
        cases q with
        | cons q1 q2 =>
          obtain ⟨as, r1, n1⟩ := py_reads I hb d v _ p a q1 h
          obtain ⟨bs, r2, n2⟩ := pyLK_reads I hb ds ws _ qs b q2 h2
          exact ⟨as ++ bs, .cons r1 r2, by simp [n1, n2]⟩
end
theorem pyS_reads {S : Sto} (I : Inv X pins σ H s) (hb : ∃ o, X.base.get? sysModules = some o) (sm : Sim X.K ι H S) {d : D} {v : V} {u : Value} {p : PyData} (r : RepV X.K ι H d v) (q : RelV v u) (e : pyS S d = some p) : ∃ as, Reads s.heap u p as ∧ sysModules ∉ as := by
  cases d with
  | loc m =>
    have e : (getQ S m).bind (fun ds => (pyL ds).map .list) = some p := e
    cases h : getQ S m with
    | none => rw [h] at e; cases e
    | some ds =>
      rw [h] at e
      have e : (pyL ds).map PyData.list = some p := e
      cases h2 : pyL ds with
      | none => rw [h2] at e; cases e
      | some ps =>
        rw [h2] at e; cases e
        rw [RepV] at r
        obtain ⟨a, ea, rfl⟩ := r
        cases q
        obtain ⟨vs, h3, h4⟩ := loc_at sm ea h
        obtain ⟨w, hw⟩ := sm.there (List.mem_of_getElem? ea)
        obtain ⟨its, rv, ⟨o, n, ho, hc, _, hd⟩, _⟩ := I.list h3
        obtain ⟨as, h5, h6⟩ := pyL_reads I hb ds vs its ps h4 rv h2
        exact ⟨a :: as, .list ho hc hd h5, by simp [h6, no_sys I hb hw]⟩
  | _ => exact py_reads I hb _ v u p r q e
end
def showOk (p : PyData) : Prop := p.showable = true ∧ p.shown.length ≤ sizeLine ∧ p.depth ≤ 60
open Classical in
noncomputable def bRepr : Fn := fun ds S => match ds with
  | [d] => (match pyS S d with
    | some p => if showOk p then .ok (.str p.shown) S else .stuck
    | none => .stuck)
  | _ => .stuck
def rRepr (K : PySem.W.Frag) : List V → Hp → VK → Prop := fun xs H Q => ∃ ι S d x p, xs = [x] ∧ Sim K ι H S ∧ RepV K ι H d x ∧ pyS S d = some p ∧ showOk p ∧ Q (.str p.shown) H
theorem c_repr {X : Cx} {k : Nat} (hr : Room k X.A) (hg : X.A.guards = some []) (hb : ∃ o, X.base.get? sysModules = some o) : CallR X (.builtin "repr") (rRepr X.K) := by
  intro pins s σ H xs us Q I rv h
  obtain ⟨ι, S, d, x, p, rfl, sm, r, e, ⟨h1, h2, h3⟩, q⟩ := h
  cases rv with
  | cons r1 r2 =>
    cases r2
    rename_i u
    obtain ⟨as, rd, na⟩ := pyS_reads I hb sm r r1 e
    show wpAny _ _ (call (.builtin "repr") [u]) _ _ _
    have hu := hr.units
    have fin : ∀ (h' : Heap) (t : Tok) (tk : Nat), (∀ b o, s.heap.get? b = some o → h'.get? b = some o) → EP X pins σ Q (.str p.shown t) { s with heap := h', toks := tk } := fun h' t tk hk => ⟨.str p.shown, H, I.kept hk, ⟨_, rfl⟩, q⟩
    cases rd with
    | none => exact P.repr_of_none (fin _ _ _ fun _ _ e => e)
    | bool b => exact P.repr_of_bool (fin _ _ _ fun _ _ e => e)
    | int i t => exact P.repr_of_int (by simpa [PyData.showable] using h1) (fin _ _ _ fun _ _ e => e)
    | str z t => exact P.repr_of_str (fin _ _ _ fun _ _ e => e) h2
    | list a1 a2 a3 a4 => exact repr_of_reads' (.list a1 a2 a3 a4) h1 (fun _ => na) hg (by omega) (fun _ _ e => e) (fun h' t tk hk => fin h' t tk hk) h2
    | tuple a1 a2 a3 a4 => exact repr_of_reads' (.tuple a1 a2 a3 a4) h1 (fun _ => na) hg (by omega) (fun _ _ e => e) (fun h' t tk hk => fin h' t tk hk) h2
    | dict a1 a2 a3 a4 a5 => exact repr_of_reads' (.dict a1 a2 a3 a4 a5) h1 (fun _ => na) hg (by omega) (fun _ _ e => e) (fun h' t tk hk => fin h' t tk hk) h2
theorem k_repr {K : PySem.W.Frag} : CallK K (rRepr K) bRepr := by
  intro W σ ι H S vs ds Q s rl h
  unfold bRepr at h
  (try unfold ifp at h); split at h
  · obtain ⟨v, rfl, rv⟩ := RepL.one_inv rl
    (try unfold ifp at h); split at h
    · rename_i p hp
      (try unfold ifp at h); split at h
      · rename_i hs
        exact ⟨ι, S, _, v, p, rfl, s, rv, hp, hs, h.here s _ str_rep⟩
      · exact h.elim
    · exact h.elim
  · exact h.elim
/-- the name of a built-in class as a value -/
theorem de_bty {X : Cx} {W : WX} {x : Str} {T : String} {pos : Pos} (hm : X.mg x = none) (hv : bootBuiltins x = some (.type T)) (hg : Gl X x := by rfl) (hn : x ≠ "__name__" := by decide) (hd : (x == ("__debug__" : Str)) = false := by decide) : DE X W (.Name x pos) (eC (.ty T)) :=
  de_c (pe_bltn (v := .ty T) hg hm hv rfl hn hd) fun _ _ => by rw [RepV]
end DL
namespace DL
open PySem PySem.Spec L2
open PyProof.Rows hiding St
/-- what a law's function must give -/
def LawOk (F : Fn) : Prop := ∀ ns : List Int, ns.length ≤ 63 → (∀ z ∈ ns, Builtin.Int.intBits z ≤ 1048576) → ∃ S', F [.kl (ns.map D.int)] [] = .ok (.bl true) S'
theorem repL_ints {K : PySem.W.Frag} {ι : List Addr} {H : Hp} (ns : List Int) : RepL K ι H (ns.map D.int) (ns.map V.int) := by
  induction ns with
  | nil => exact RepL.nil
  | cons n ns ih => exact RepL.cons int_rep ih
theorem law_run {P : Program} {w : World} {K : PySem.W.Frag} {mg mb : Str → Option Value} {k : Nat} {fa a : Addr} {F : Fn} {s₁ : Shared} {vs : List Value} {ns : List Int}
    (KX : K.In s₁.heap) (hns : s₁.heap.Ns mainGlobals mg) (hb : s₁.heap.Ns builtinsNs mb) (hbb : ∀ x : Str, x ≠ "__name__" → mb x = bootBuiltins x) (hlim : s₁.heap.NoLimit) (hsy : s₁.heap.NoSeer) (hg : s₁.gens = #[])
    (ha : s₁.heap.get? a = some { cls := .type "list", data := .seq vs.toArray }) (hi : IntsAre vs ns) (hl : ns.length ≤ 63) (hbit : ∀ z ∈ ns, Builtin.Int.intBits z ≤ 1048576) (hr : Room k callerA)
    (hF : ∀ base : Heap, K.In base → base.Ns mainGlobals mg → (∃ o, base.get? sysModules = some o) → FnD true P w K mg base k fa F) (hlaw : LawOk F) :
    codeAny (model P w) callerA (.call (.ref fa) ⟨[.ref a], []⟩) (fun r s' => r = .ok (.ret (.bool true)) ∧ OldK s₁.heap s'.heap ∧ s'.os = s₁.os ∧ AllBare s'.gens) s₁ := by
  have rvs := vals_ints hi
  have hz : ns.length ≤ sizeLine := Nat.le_trans hl (by decide)
  have hlv := hi.length
  have go : ∀ H : Hp, (∀ b u, H b = some u → b = a ∧ K.lookup a = none ∧ ∃ o, u = .frz o (.lst (ns.map V.int))) → KlAt K [] H a (ns.map V.int) → HOk P w H s₁.heap →
      codeAny (model P w) callerA (.call (.ref fa) ⟨[.ref a], []⟩) (fun r s' => r = .ok (.ret (.bool true)) ∧ OldK s₁.heap s'.heap ∧ s'.os = s₁.os ∧ AllBare s'.gens) s₁ := by
    intro H only kl hok
    have free : ∀ {b : Addr} {o : Obj}, s₁.heap.get? b = some o → (b = a → K.lookup a ≠ none ∨ ∃ es ep, o.data = .dict es ep) → H b = none := by
      intro b o e1 e2
      cases q : H b with
      | none => rfl
      | some u =>
        obtain ⟨rfl, n1, _⟩ := only b u q
        rcases e2 rfl with z | ⟨es, ep, z⟩
        · exact absurd n1 z
        · rw [ha] at e1; cases e1; cases z
    have nsb : ∀ {b : Addr} {m : Str → Option Value}, s₁.heap.Ns b m → (hidT s₁.heap H).Ns b m := by
      rintro b m ⟨o, es, ep, e1, e2, r⟩
      exact ⟨o, es, ep, hidT_get e1 (free e1 fun _ => .inr ⟨es, ep, e2⟩), e2, r⟩
    have kin : K.In (hidT s₁.heap H) := fun b o e => hidT_get (KX b o e) (free (KX b o e) fun z => .inl (by rw [← z, e]; simp))
    have hsys : ∃ o, (hidT s₁.heap H).get? sysModules = some o := by
      obtain ⟨mm, ⟨o, es, ep, e1, e2, r⟩, _⟩ := hsy.mods
      exact ⟨o, hidT_get e1 (free e1 fun _ => .inr ⟨es, ep, e2⟩)⟩
    have md : Mod K mg (hidT s₁.heap H) := ⟨kin, nsb hns, ⟨mb, nsb hb, hbb⟩, let ⟨mc, h1, h2⟩ := hlim; ⟨mc, nsb h1, h2⟩⟩
    have e0 : Env0 P w K mg (hidT s₁.heap H) callerA [] s₁ H :=
      { frames := rfl, mod := md, bs := fun b o e => of_hidT e, bsz := Nat.le_of_eq (hidT_size _ _), funs := trivial
        frf := fun b z => absurd (show b ∈ ([] : List Addr) from z) (by simp), hok := hok, bare := .of_eq hg }
    obtain ⟨S', hS⟩ := hlaw ns hl hbit
    have sp : spD K F [V.ref a] H (fun v _ => v = .bl true) fun _ _ _ => False := by
      refine ⟨[], [], [.kl (ns.map D.int)], RepL.one (by rw [RepV]; exact ⟨a, _, rfl, kl, repL_ints ns⟩), ⟨List.nodup_nil, rfl, fun n a o e => by simp at e⟩, ?_⟩
      rw [hS]
      intro ι' H' v _ _ r
      rw [RepV] at r; exact r
    refine codeAny_mono (hF _ kin (nsb hns) hsys callerA [] s₁ H [.ref a] [.ref a] _ _ hr (fun _ => rfl) e0 (.cons rfl .nil) sp) fun r s' h => ?_
    cases r with
    | error e =>
      obtain ⟨_, _, _, _, _, _, _, _, _, _, _, _, z⟩ := h
      exact z.elim
    | ok fl =>
      cases fl with
      | next => exact False.elim h
      | brk => exact False.elim h
      | cont => exact False.elim h
      | ret u =>
        obtain ⟨v, H', os, bare, un, hok', r', q⟩ := h
        have q : v = .bl true := q
        subst q
        cases (show u = Value.bool true from r')
        refine ⟨rfl, OldK.of_keep fun b o e => ?_, os, bare⟩
        cases hb' : H b with
        | none => exact un.keep b o e hb' (fun z => absurd (show b ∈ ([] : List Addr) from z) (by simp)) (by simp)
        | some u =>
          obtain ⟨rfl, _, ob, rfl⟩ := only b u hb'
          have z1 := (hok b _ hb').1
          have z2 := (hok' b _ (un.frzs b ob _ hb')).1
          rw [e] at z1; cases z1
          exact z2
  cases hk : K.lookup a with
  | some o =>
    have e := KX a o hk
    rw [ha] at e; cases e
    refine go (fun _ => none) (fun b u z => by cases z) (.inr (.inr ⟨_, vs.toArray, _, hk, rfl, rfl, rfl, by rw [List.size_toArray, hlv]; exact hz, by simpa using rvs⟩)) fun b u z => by cases z
  | none =>
    refine go (upd (fun _ => none) a (.frz { cls := .type "list", data := .seq vs.toArray } (.lst (ns.map V.int)))) (fun b u z => ?_) (.inl ⟨by simp, _, upd_same⟩) fun b u z => ?_
    · by_cases hb' : b = a
      · subst hb'
        rw [upd_same] at z; cases z
        exact ⟨rfl, hk, _, rfl⟩
      · rw [upd_ne hb'] at z; cases z
    · by_cases hb' : b = a
      · subst hb'
        rw [upd_same] at z; cases z
        exact ⟨ha, by rw [List.length_map]; exact hz, vs, _, rvs, ha⟩
      · rw [upd_ne hb'] at z; cases z
theorem law_walk {l : PySem.W.OpenLaw} {k : Nat} {q : Program} {loose : List Str} {XP : (Str → Option Value) → Heap → Prop} {YP : World → Heap → Prop} {d : DefRec} {K : Params → PySem.W.Frag}
    (hn : l.most = some 63) (hdf : d.params.defaults = []) (hr : Room k callerA) (hi : importsNone q = true)
    (hY : ∀ (w : World) (h : Heap), YP w h → (K w.params).In h)
    (hF : ∀ (w : World) (mg : Str → Option Value) (fa : Addr) (h : Heap), (K w.params).In h → h.Ns mainGlobals mg → mg d.name = some (.ref fa) →
      ∃ F : Fn, LawOk F ∧ ∀ base : Heap, (K w.params).In base → base.Ns mainGlobals mg → (∃ o, base.get? sysModules = some o) → FnD true l.prog w (K w.params) mg base k fa F) :
    PySem.W.WalkO q loose XP YP l.row.toRowW d [] (fun f vs => PySem.call f vs) := by
  refine Att.attach_callB hn hdf fun w s₀ s₁ mg mb fa o pm cd doc a vs ns G Y ho hd hcd hmg hobj hints hlen hbits hg => ?_
  obtain ⟨F, hl, hF'⟩ := hF w mg fa _ (hY w _ Y) G.T.g hmg
  exact law_run (hY w _ Y) G.T.g G.T.b G.T.builtins G.T.nolimit (G.T.seer hi) hg hobj hints hlen hbits hr hF' hl
end DL
namespace DL
open PySem PySem.Spec L2
open PyProof.Rows hiding St
section
variable {K : PySem.W.Frag}
theorem k_lt : OpK K (rI0 fun i j => .bl (decide (i < j))) dLt := k_cmp
theorem k_le : OpK K (rI0 fun i j => .bl (decide (i ≤ j))) dLe := k_cmp
theorem k_gt : OpK K (rI0 fun i j => .bl (decide (j < i))) dGt := k_cmp
theorem k_ge : OpK K (rI0 fun i j => .bl (decide (j ≤ i))) dGe := k_cmp
end
def sPar3 (i j l : Nat) (g : Ev → Sto → R (List D)) : Ev → Sto → SR := fun ρ S => (g ρ S).toS ρ fun ds S1 => match ds with
  | [a, b, c] => .nx (((ρ.set i (some a)).set j (some b)).set l (some c)) S1
  | _ => .stuck
section
variable {X : Cx} {W : WX}
theorem RepL.three_inv {K : PySem.W.Frag} {ι : List Addr} {H : Hp} {d e f : D} {vs : List V} (h : RepL K ι H [d, e, f] vs) : ∃ v u w, vs = [v, u, w] ∧ RepV K ι H d v ∧ RepV K ι H e u ∧ RepV K ι H f w := by
  rw [RepL] at h
  obtain ⟨v, r, rfl, rv, rs⟩ := h
  obtain ⟨u, w, rfl, ru, rw'⟩ := RepL.two_inv rs
  exact ⟨v, u, w, rfl, rv, ru, rw'⟩
theorem ds_par3 (i j l : Nat) {x y z : Str} {a b c : Expr} {g : Ev → Sto → R (List D)} {px py pz pt pos : Pos} {kt k2 pt2} (hc : X.calm = true) (hN : X.N.Nodup) (ha : DA X W [a, b, c] g) (hij : i ≠ j := by decide) (hil : i ≠ l := by decide) (hjl : j ≠ l := by decide)
    (hi : X.N[i]? = some x := by rfl) (hj : X.N[j]? = some y := by rfl) (hl : X.N[l]? = some z := by rfl)
    (hx : X.env.scope.names.lookup x = some .local := by rfl) (hy : X.env.scope.names.lookup y = some .local := by rfl) (hz : X.env.scope.names.lookup z = some .local := by rfl)
    (hw : swappedStores [.Tuple [.Name x px, .Name y py, .Name z pz] kt pt] (.Tuple [a, b, c] k2 pt2) X.env = pure (some [x, y, z]) := by rfl)
    (hs : swapsWithSole [.Tuple [.Name x px, .Name y py, .Name z pz] kt pt] (.Tuple [a, b, c] k2 pt2) pos.line X.env = pure false := by rfl) :
    DS X W (.Assign [.Tuple [.Name x px, .Name y py, .Name z pz] kt pt] (.Tuple [a, b, c] k2 pt2) pos) (sPar3 i j l g) := by
  refine PS.imp (ps_par3 hc hN hi hj hl hij hil hjl hx hy hz ha hw hs) fun E σ H ⟨ι, ρ, S, hE, hS, h⟩ => ⟨ι, ρ, S, hE, hS, (PostS.bind h hE).mono fun ds S1 ι1 H1 G1 s1 h1 vs rs => ?_⟩
  split at h1
  · obtain ⟨u, v, w, rfl, ru, rv, rw'⟩ := RepL.three_inv rs
    exact ⟨u, v, w, rfl, h1 ι1 H1 _ (Grow.refl _ _) s1 ((((hE.grow G1).set ru i).set rv j).set rw' l)⟩
  · exact h1.elim
end
end DL
namespace DL
open PySem PySem.Spec L2
open PyProof.Rows hiding St
theorem dAdd_int (i j : Int) (S : Sto) : dAdd (.int i) (.int j) S = .ok (.int (i + j)) S := rfl
theorem dLt_int (i j : Int) (S : Sto) : dLt (.int i) (.int j) S = .ok (.bl (decide (i < j))) S := rfl
theorem dLe_int (i j : Int) (S : Sto) : dLe (.int i) (.int j) S = .ok (.bl (decide (i ≤ j))) S := rfl
theorem dGt_int (i j : Int) (S : Sto) : dGt (.int i) (.int j) S = .ok (.bl (decide (j < i))) S := rfl
theorem dGe_int (i j : Int) (S : Sto) : dGe (.int i) (.int j) S = .ok (.bl (decide (j ≤ i))) S := rfl
theorem dAddI_int (i j : Int) (S : Sto) : dAddI (.int i) (.int j) S = .ok (.int (i + j)) S := rfl
theorem dSubI_int (i j : Int) (S : Sto) : dSubI (.int i) (.int j) S = .ok (.int (i - j)) S := rfl
theorem dSub_int (i j : Int) (S : Sto) : dSub (.int i) (.int j) S = .ok (.int (i - j)) S := rfl
theorem dMod_int (i j : Int) (S : Sto) : dMod (.int i) (.int j) S = if 0 < j then .ok (.int (i % j)) S else .stuck := rfl
theorem dFdiv_int (i j : Int) (S : Sto) : dFdiv (.int i) (.int j) S = ifp (0 < j ∧ j.natAbs.log2 < 9000) (.ok (.int (i / j)) S) .stuck := rfl
theorem dPow_ok {i j : Int} (h : 0 ≤ j ∧ j ≤ 1000000 ∧ i.natAbs < 2 ^ 64) (S : Sto) : dPow (.int i) (.int j) S = .ok (.int (i ^ j.toNat)) S := ifp_pos h
theorem dIsN_non (n : Bool) (a : D) (S : Sto) : dIsN n a .non S = .ok (.bl (if n then !isN a else isN a)) S := rfl
theorem ll0 : (0 ≤ sizeLine) = True := eq_true (by decide)
theorem ll1 : (1 ≤ sizeLine) = True := eq_true (by decide)
theorem ll2 : (2 ≤ sizeLine) = True := eq_true (by decide)
theorem ll3 : (3 ≤ sizeLine) = True := eq_true (by decide)
theorem ll4 : (4 ≤ sizeLine) = True := eq_true (by decide)
theorem ll5 : (5 ≤ sizeLine) = True := eq_true (by decide)
theorem ll6 : (6 ≤ sizeLine) = True := eq_true (by decide)
theorem ll7 : (7 ≤ sizeLine) = True := eq_true (by decide)
theorem ll8 : (8 ≤ sizeLine) = True := eq_true (by decide)
theorem ll9 : (9 ≤ sizeLine) = True := eq_true (by decide)
theorem ll10 : (10 ≤ sizeLine) = True := eq_true (by decide)
theorem ll11 : (11 ≤ sizeLine) = True := eq_true (by decide)
theorem ll12 : (12 ≤ sizeLine) = True := eq_true (by decide)
theorem ll13 : (13 ≤ sizeLine) = True := eq_true (by decide)
theorem ll14 : (14 ≤ sizeLine) = True := eq_true (by decide)
theorem ll15 : (15 ≤ sizeLine) = True := eq_true (by decide)
theorem ll16 : (16 ≤ sizeLine) = True := eq_true (by decide)
theorem ll17 : (17 ≤ sizeLine) = True := eq_true (by decide)
theorem ll18 : (18 ≤ sizeLine) = True := eq_true (by decide)
theorem ll19 : (19 ≤ sizeLine) = True := eq_true (by decide)
theorem ll20 : (20 ≤ sizeLine) = True := eq_true (by decide)
theorem ll21 : (21 ≤ sizeLine) = True := eq_true (by decide)
theorem ll22 : (22 ≤ sizeLine) = True := eq_true (by decide)
theorem ll23 : (23 ≤ sizeLine) = True := eq_true (by decide)
theorem ll24 : (24 ≤ sizeLine) = True := eq_true (by decide)
theorem ll25 : (25 ≤ sizeLine) = True := eq_true (by decide)
theorem ll26 : (26 ≤ sizeLine) = True := eq_true (by decide)
theorem ll27 : (27 ≤ sizeLine) = True := eq_true (by decide)
theorem ll28 : (28 ≤ sizeLine) = True := eq_true (by decide)
theorem ll29 : (29 ≤ sizeLine) = True := eq_true (by decide)
theorem ll30 : (30 ≤ sizeLine) = True := eq_true (by decide)
theorem ll31 : (31 ≤ sizeLine) = True := eq_true (by decide)
theorem ll32 : (32 ≤ sizeLine) = True := eq_true (by decide)
theorem ll33 : (33 ≤ sizeLine) = True := eq_true (by decide)
theorem ll34 : (34 ≤ sizeLine) = True := eq_true (by decide)
theorem ll35 : (35 ≤ sizeLine) = True := eq_true (by decide)
theorem ll36 : (36 ≤ sizeLine) = True := eq_true (by decide)
theorem ll37 : (37 ≤ sizeLine) = True := eq_true (by decide)
theorem ll38 : (38 ≤ sizeLine) = True := eq_true (by decide)
theorem ll39 : (39 ≤ sizeLine) = True := eq_true (by decide)
theorem ll40 : (40 ≤ sizeLine) = True := eq_true (by decide)
theorem pyL_ints (l : List Int) : pyL (l.map D.int) = some (l.map PyData.int) := by
  induction l with
  | nil => rfl
  | cons i l ih => simp [pyL, py, ih]
theorem canLayAll_ints (l : List Int) : PyData.canLayAll0 (l.map PyData.int) = true := by
  induction l with
  | nil => rfl
  | cons i l ih => simp [PyData.canLayAll0, PyData.canLay0, ih]
theorem depthAll_ints (l : List Int) : PyData.depthAll (l.map PyData.int) = 0 := by
  induction l with
  | nil => rfl
  | cons i l ih => simp [PyData.depthAll, PyData.depth, ih]
theorem shaped_ints (l : List Int) : SeqAt.shaped (.list (l.map PyData.int)) = true := by
  simp [SeqAt.shaped, PyData.canLay0, canLayAll_ints, PyData.depth, depthAll_ints]
theorem shaped_int (i : Int) : SeqAt.shaped (.int i) = true := by
  simp [SeqAt.shaped, PyData.canLay0, PyData.depth]
theorem shaped_nilL : SeqAt.shaped (.list []) = true := by decide
theorem dEq_int (n : Bool) (i j : Int) (S : Sto) : dEq n (.int i) (.int j) S = .ok (.bl (if n then !(i == j) else i == j)) S := by
  simp [dEq, dEqP, pyS, py, shaped_int, PyData.eqv]
theorem dEqP_py {n : Bool} {a b : D} {S : Sto} {p q : PyData} (h1 : pyS S a = some p) (h2 : pyS S b = some q) (s1 : SeqAt.shaped p = true) (s2 : SeqAt.shaped q = true) : dEqP n a b S = .ok (.bl (if n then !PyData.eqv p q else PyData.eqv p q)) S := by
  unfold dEqP
  rw [h1, h2]
  show (if SeqAt.shaped p = true ∧ SeqAt.shaped q = true then _ else _) = _
  rw [if_pos ⟨s1, s2⟩]
theorem dEq_str (n : Bool) (x y : Str) (S : Sto) : dEq n (.str x) (.str y) S = .ok (.bl (if n then !decide (x = y) else decide (x = y))) S := rfl
theorem pyS_loc {S : Sto} {n : Nat} {l : List Int} (h : getQ S n = some (l.map D.int)) : pyS S (.loc n) = some (.list (l.map PyData.int)) := by
  show (getQ S n).bind (fun ds => (pyL ds).map PyData.list) = _
  rw [h]
  show (pyL (l.map D.int)).map PyData.list = _
  rw [pyL_ints]; rfl
/-- a list of ints of the store against [] -/
theorem dNe_loc_nil {S : Sto} {n : Nat} {l : List Int} (h : getQ S n = some (l.map D.int)) : dEq true (.loc n) (.fl []) S = .ok (.bl (!l.isEmpty)) S := by
  show dEqP true (.loc n) (.fl []) S = _
  rw [dEqP_py (pyS_loc h) (q := .list []) rfl (shaped_ints l) shaped_nilL]
  cases l <;> simp [PyData.eqv, PyData.eqvAll]
theorem rangeD_nat (n : Nat) : rangeD 0 n = (List.range n).map fun k => D.int (k : Nat) := by
  unfold rangeD
  congr 1
  funext k
  simp
theorem forD_nil {g : Sto → Prop} {T : Tg} {B Z : Ev → Sto → SR} {ρ : Ev} {S : Sto} (h : g S) : forD g T B Z [] ρ S = Z ρ S := by
  unfold forD; rw [if_pos h]
theorem forD_cons {g : Sto → Prop} {T : Tg} {B Z : Ev → Sto → SR} {d : D} {ds : List D} {ρ ρ1 ρ2 : Ev} {S S1 S2 : Sto} (h : g S) (hT : T d ρ S = some (ρ1, S1)) (hB : B ρ1 S1 = .nx ρ2 S2) : forD g T B Z (d :: ds) ρ S = forD g T B Z ds ρ2 S2 := by
  rw [forD, if_pos h, hT]; simp only [hB]
/-- a loop that goes through: P before each turn -/
theorem forD_all {T : Tg} {B Z : Ev → Sto → SR} (P : Nat → Ev → Sto → Prop) : ∀ (ds : List D) (i : Nat) (ρ : Ev) (S : Sto), P i ρ S →
    (∀ (j : Nat) (d : D) (ρ : Ev) (S : Sto), ds[j]? = some d → P (i + j) ρ S → ∃ ρ1 S1 ρ2 S2, T d ρ S = some (ρ1, S1) ∧ (B ρ1 S1 = .nx ρ2 S2 ∨ B ρ1 S1 = .ct ρ2 S2) ∧ P (i + j + 1) ρ2 S2) →
    ∃ ρ' S', P (i + ds.length) ρ' S' ∧ forD yes T B Z ds ρ S = Z ρ' S'
  | [], i, ρ, S, h, _ => ⟨ρ, S, h, forD_nil trivial⟩
  | d :: ds, i, ρ, S, h, step => by
    obtain ⟨ρ1, S1, ρ2, S2, hT, hB, h2⟩ := step 0 d ρ S rfl h
    obtain ⟨ρ', S', h3, e⟩ := forD_all P ds (i + 1) ρ2 S2 h2 fun j d' ρ S hj hp => by
      have e1 : i + (j + 1) = i + 1 + j := by omega
      have := step (j + 1) d' ρ S (by simpa using hj) (by rw [e1]; exact hp)
      rw [e1] at this
      exact this
    refine ⟨ρ', S', ?_, ?_⟩
    · have : i + (d :: ds).length = i + 1 + ds.length := by simp; omega
      rw [this]; exact h3
    · rw [forD, if_pos (show yes S from trivial), hT]
      rcases hB with hB | hB <;> (simp only [hB]; exact e)
mutual
def rok : D → Bool
  | .non => true
  | .bl _ => true
  | .int i => decide (i.natAbs.log2 < 1920)
  | .str x => x.cps.toList.all fun c => decide (c < 16 ^ 8)
  | .tup ds => rokL ds
  | .fl ds => rokL ds
  | .fd kvs => rokK kvs
  | .kl _ => false
  | .ty _ => false
  | .fn _ => false
  | .exc _ _ => false
  | .loc _ => false
def rokL : List D → Bool
  | [] => true
  | d :: ds => rok d && rokL ds
def rokK : List (Key × D) → Bool
  | [] => true
  | (k, d) :: ds => (match k with
    | .inl i => decide (i.natAbs.log2 < 1920)
    | .inr x => x.cps.toList.all fun c => decide (c < 16 ^ 8)) && rok d && rokK ds
end
mutual
def bulkD : D → Nat
  | .str x => x.cps.size
  | .tup ds => bulkL ds
  | .fl ds => bulkL ds
  | .fd kvs => bulkK kvs
  | .non => 0
  | .bl _ => 0
  | .int _ => 0
  | .kl _ => 0
  | .ty _ => 0
  | .fn _ => 0
  | .exc _ _ => 0
  | .loc _ => 0
def bulkL : List D → Nat
  | [] => 0
  | d :: ds => bulkD d + 1 + bulkL ds
def bulkK : List (Key × D) → Nat
  | [] => 0
  | (k, d) :: ds => (match k with
    | .inl _ => 0
    | .inr x => x.cps.size) + bulkD d + 2 + bulkK ds
end
mutual
def depD : D → Nat
  | .tup ds => depL ds + 1
  | .fl ds => depL ds + 1
  | .fd kvs => depK kvs + 1
  | .str _ => 0
  | .non => 0
  | .bl _ => 0
  | .int _ => 0
  | .kl _ => 0
  | .ty _ => 0
  | .fn _ => 0
  | .exc _ _ => 0
  | .loc _ => 0
def depL : List D → Nat
  | [] => 0
  | d :: ds => max (depD d) (depL ds)
def depK : List (Key × D) → Nat
  | [] => 0
  | (_, d) :: ds => max (depD d) (depK ds)
end
theorem shown_int_small {i : Int} (h : i.natAbs.log2 < 1920) : (PyData.shown (.int i)).length ≤ 1921 := by
  have e := int_text_length_le (k := 1920) (by decide) h
  show (Str.ofString (toString i)).length ≤ 1921
  rw [PySem.ofString_length]; exact e
/-- data that repr can show -/
structure PyOk (d : D) (p : PyData) : Prop where
  eq : py d = some p
  sh : p.showable = true
  lv : p.leavesShort 1921 = true
  bk : p.bulk = bulkD d
  dp : p.depth = depD d
mutual
theorem rok_py : ∀ d : D, rok d = true → ∃ p, PyOk d p
  | .non, _ => ⟨.none, rfl, rfl, rfl, rfl, rfl⟩
  | .bl b, _ => ⟨.bool b, rfl, rfl, rfl, rfl, rfl⟩
  | .int i, h => by
    have h : i.natAbs.log2 < 1920 := by simpa [rok] using h
    exact ⟨.int i, rfl, by simpa [PyData.showable] using h, by simpa [PyData.leavesShort] using shown_int_small h, rfl, rfl⟩
  | .str x, h => ⟨.str x, rfl, rfl, by simpa [rok, PyData.leavesShort] using h, rfl, rfl⟩
  | .tup ds, h => by
    obtain ⟨ps, e, a, b, c, f⟩ := rokL_py ds (by simpa [rok] using h)
    exact ⟨.tuple ps, by rw [py, e]; rfl, by simpa [PyData.showable] using a, by simpa [PyData.leavesShort] using b, by simp [PyData.bulk, bulkD, c], by simp [PyData.depth, depD, f]⟩
  | .fl ds, h => by
    obtain ⟨ps, e, a, b, c, f⟩ := rokL_py ds (by simpa [rok] using h)
    exact ⟨.list ps, by rw [py, e]; rfl, by simpa [PyData.showable] using a, by simpa [PyData.leavesShort] using b, by simp [PyData.bulk, bulkD, c], by simp [PyData.depth, depD, f]⟩
  | .fd ds, h => by
    obtain ⟨ps, e, a, b, c, f⟩ := rokK_py ds (by simpa [rok] using h)
    exact ⟨.dict ps, by rw [py, e]; rfl, by simpa [PyData.showable] using a, by simpa [PyData.leavesShort] using b, by simp [PyData.bulk, bulkD, c], by simp [PyData.depth, depD, f]⟩
  | .kl _, h => by simp [rok] at h
  | .ty _, h => by simp [rok] at h
  | .fn _, h => by simp [rok] at h
  | .exc _ _, h => by simp [rok] at h
  | .loc _, h => by simp [rok] at h
theorem rokL_py : ∀ ds : List D, rokL ds = true → ∃ ps, pyL ds = some ps ∧ PyData.showableAll ps = true ∧ PyData.leavesShortAll 1921 ps = true ∧ PyData.bulkAll ps = bulkL ds ∧ PyData.depthAll ps = depL ds
  | [], _ => ⟨[], rfl, rfl, rfl, rfl, rfl⟩
  | d :: ds, h => by
    rw [rokL, Bool.and_eq_true] at h
    obtain ⟨p, e, a, b, c, f⟩ := rok_py d h.1
    obtain ⟨ps, e', a', b', c', f'⟩ := rokL_py ds h.2
    exact ⟨p :: ps, by rw [pyL, e, e']; rfl, by simp [PyData.showableAll, a, a'], by simp [PyData.leavesShortAll, b, b'], by simp [PyData.bulkAll, bulkL, c, c'], by simp [PyData.depthAll, depL, f, f']⟩
theorem rokK_py : ∀ ds : List (Key × D), rokK ds = true → ∃ ps, pyK ds = some ps ∧ PyData.showableKv ps = true ∧ PyData.leavesShortKv 1921 ps = true ∧ PyData.bulkKv ps = bulkK ds ∧ PyData.depthKv ps = depK ds
  | [], _ => ⟨[], rfl, rfl, rfl, rfl, rfl⟩
  | (.inl i, d) :: ds, h => by
    simp only [rokK, Bool.and_eq_true, decide_eq_true_eq] at h
    obtain ⟨p, e, a, b, c, f⟩ := rok_py d h.1.2
    obtain ⟨ps, e', a', b', c', f'⟩ := rokK_py ds h.2
    have hi := h.1.1
    have hs := shown_int_small hi
    exact ⟨(.int i, p) :: ps, by rw [pyK, e, e']; rfl, by simp [PyData.showableKv, PyData.showable, hi, a, a'], by simp [PyData.leavesShortKv, PyData.leavesShort, hs, b, b'], by simp [PyData.bulkKv, PyData.bulk, bulkK, c, c'], by simp [PyData.depthKv, PyData.depth, depK, f, f']⟩
  | (.inr x, d) :: ds, h => by
    simp only [rokK, Bool.and_eq_true] at h
    obtain ⟨p, e, a, b, c, f⟩ := rok_py d h.1.2
    obtain ⟨ps, e', a', b', c', f'⟩ := rokK_py ds h.2
    have hx := h.1.1
    exact ⟨(.str x, p) :: ps, by rw [pyK, e, e']; rfl, by simp [PyData.showableKv, PyData.showable, a, a'], by simp only [PyData.leavesShortKv, PyData.leavesShort, hx, b, b', Bool.and_self], by simp [PyData.bulkKv, PyData.bulk, bulkK, c, c'], by simp [PyData.depthKv, PyData.depth, depK, f, f']⟩
end
def shD (d : D) : Str := match py d with
  | some p => p.shown
  | none => Str.empty
/-- repr of plain data -/
theorem repr_d {d : D} (h : rok d = true) (hb : bulkD d ≤ 8000) (hd : depD d ≤ 60) (S : Sto) : bRepr [d] S = .ok (.str (shD d)) S := by
  obtain ⟨p, o⟩ := rok_py d h
  have e : pyS S d = some p := by
    cases d with
    | loc n => simp [rok] at h
    | _ => exact o.eq
  have hs : showOk p := by
    refine ⟨o.sh, ?_, by rw [o.dp]; exact hd⟩
    have h1 := PyData.shown_le_bulk 1921 (by decide) p o.lv
    rw [o.bk] at h1
    have h2 : (1921 + 2) * bulkD d ≤ 1923 * 8000 := Nat.mul_le_mul_left _ hb
    rw [sizeLine_eq]
    omega
  have e2 : shD d = p.shown := by unfold shD; rw [o.eq]
  unfold bRepr
  simp only [e]
  rw [if_pos hs, e2]
theorem rok_int {i : Int} (b : Nat) (h : i.natAbs < 2 ^ b) (h0 : 0 < b) (h9 : b ≤ 1920) : rok (.int i) = true := by
  simp only [rok, decide_eq_true_eq]
  exact Nat.lt_of_lt_of_le (PySem.Flt.log2_lt_of h0 h) h9
end DL
namespace DL
open PySem PySem.Spec L2
open PyProof.Rows hiding St
noncomputable def E1__law_stream (ρ : Ev) (S : Sto) : R D :=
  (eCall bAbs (aCons (eVar 2) aNil)) ρ S
noncomputable def E2__law_stream (ρ : Ev) (S : Sto) : R D :=
  (eVar 2) ρ S
noncomputable def Q1__law_stream (ρ : Ev) (S : Sto) : R Bool :=
  (eT (eOp dGe (eVar 2) (eOp dPow (eC (.int 10)) (eC (.int 18))))) ρ S
noncomputable def B__law_stream : Ev → Sto → SR :=
  (sSeq (sSet 1 (eLc finFl (iSeq (eVar 0)) (tN 2) [2] cYes E1__law_stream))
    (sRet (eLoc (aCons (eLc finLoc (iSeq (eVar 1)) (tN 2) [2] Q1__law_stream E2__law_stream) (aCons (eOp dAdd (eVar 1) (eFl (aCons (eOp dAdd (eCall bLen (aCons (eVar 1) aNil)) (eC (.int 17))) aNil))) (aCons (eC (.int 0)) aNil))))))
noncomputable def F__law_stream : Fn := fnC closeK 3 1 B__law_stream
noncomputable def C1__law_draw (ρ : Ev) (S : Sto) : R Bool :=
  (eT (eOp (dEq true) (eOp dIx (eVar 0) (eC (.int 0))) (eFl aNil))) ρ S
noncomputable def L1__law_draw (ρ : Ev) (S : Sto) : SR :=
  (sSeq (sSet 2 (eOp dIx (eOp dIx (eVar 0) (eC (.int 0))) (eC (.int 0))))
    (sSeq (sIf (eT (eOp dGt (eVar 2) (eC (.int 0)))) (sSeq (sAsg (eOp dFdiv (eVar 2) (eVar 1)) (tSub (eOp dIx (eVar 0) (eC (.int 0))) (eC (.int 0))))
    (sRet (eOp dMod (eVar 2) (eVar 1)))) sNil)
    (sExp (eMt isLst mPopAt (eOp dIx (eVar 0) (eC (.int 0))) (aCons (eC (.int 0)) aNil))))) ρ S
noncomputable def B__law_draw : Ev → Sto → SR :=
  (sSeq (whileD C1__law_draw L1__law_draw 4000)
    (sSeq (sSet 3 (eOp dAdd (eOp dIx (eVar 0) (eC (.int 2))) (eC (.int 1))))
    (sSeq (sAsg (eVar 3) (tSub (eVar 0) (eC (.int 2))))
    (sSeq (sSet 4 (eOp dMod (eOp dIx (eOp dIx (eVar 0) (eC (.int 1))) (eOp dMod (eVar 3) (eCall bLen (aCons (eOp dIx (eVar 0) (eC (.int 1))) aNil)))) (eC (.int 2147483587))))
    (sSeq (sSet 5 (eOp dMod (eOp dAdd (eOp dAdd (eOp dMul (eVar 4) (eOp dAdd (eC (.int 16807)) (eOp dMul (eC (.int 48271)) (eVar 3)))) (eOp dMul (eOp dMul (eC (.int 69621)) (eVar 3)) (eVar 3))) (eC (.int 5))) (eC (.int 2147483647))))
    (sRet (eOp dMod (eOp dFdiv (eOp dMod (eOp dMul (eVar 5) (eVar 5)) (eC (.int 2147483629))) (eC (.int 16))) (eVar 1))))))))
noncomputable def F__law_draw : Fn := fnC close 6 2 B__law_draw
noncomputable def B__law_pick : Ev → Sto → SR :=
  (sRet (eOp dIx (eVar 1) (eCall F__law_draw (aCons (eVar 0) (aCons (eCall bLen (aCons (eVar 1) aNil)) aNil)))))
noncomputable def F__law_pick : Fn := fnC close 2 2 B__law_pick
def strO (big cells : List Int) (t : Int) (rest : Sto) : Sto := .lst (big.map .int) :: .lst [.loc 0, .fl (cells.map .int), .int t] :: rest
structure StrOk (big cells : List Int) (t : Int) (n : Nat) : Prop where
  bigs : ∀ c ∈ big, 0 ≤ c
  cls : ∀ c ∈ cells, 0 ≤ c
  ne : cells ≠ []
  few : big.length ≤ 63
  t0 : 0 ≤ t
  tn : t ≤ n
/-- the stream stands in S, at most n mixed draws were made -/
def Strm (S : Sto) (n : Nat) (rest : Sto) : Prop := ∃ big cells t, S = strO big cells t rest ∧ StrOk big cells t n
theorem Strm.mono {S : Sto} {n m : Nat} {rest : Sto} (h : Strm S n rest) (hm : n ≤ m) : Strm S m rest := by
  obtain ⟨b, c, t, e, o⟩ := h
  exact ⟨b, c, t, e, o.bigs, o.cls, o.ne, o.few, o.t0, by have := o.tn; omega⟩
theorem getQ_lst0 (ds : List D) (S : Sto) : getQ (.lst ds :: S) 0 = some ds := rfl
theorem getQ_lst1 (o : Ob) (ds : List D) (S : Sto) : getQ (o :: .lst ds :: S) 1 = some ds := rfl
theorem getL_lst0 (ds : List D) (S : Sto) : getL (.lst ds :: S) 0 = some ds := rfl
theorem getL_lst1 (o : Ob) (ds : List D) (S : Sto) : getL (o :: .lst ds :: S) 1 = some ds := rfl
theorem dIx_loc {S : Sto} {n : Nat} {xs : List D} {i : Int} {d : D} (h : getQ S n = some xs) (e : atI xs i = some d) : dIx (.loc n) (.int i) S = .ok d S := by
  show (match seqOf S (.loc n) with
    | some xs => (match atI xs i with
      | some d => R.ok d S
      | none => .stuck)
    | none => .stuck) = _
  rw [show seqOf S (.loc n) = some xs from h]
  show (match atI xs i with
      | some d => R.ok d S
      | none => .stuck) = _
  rw [e]
theorem dIx_fl {S : Sto} {xs : List D} {i : Int} {d : D} (e : atI xs i = some d) : dIx (.fl xs) (.int i) S = .ok d S := by
  show (match atI xs i with
      | some d => R.ok d S
      | none => .stuck) = _
  rw [e]
theorem dIx_tup {S : Sto} {xs : List D} {i : Int} {d : D} (e : atI xs i = some d) : dIx (.tup xs) (.int i) S = .ok d S := by
  show (match atI xs i with
      | some d => R.ok d S
      | none => .stuck) = _
  rw [e]
theorem atI_nn {α : Type} {xs : List α} {i : Int} (h0 : 0 ≤ i) (h1 : i < xs.length) : atI xs i = xs[i.toNat]? := by
  unfold atI ixN
  rw [if_pos h0, if_pos h1]; rfl
theorem atI_map {xs : List Int} {i : Int} (h0 : 0 ≤ i) (h1 : i < xs.length) : ∃ z, z ∈ xs ∧ atI (xs.map D.int) i = some (.int z) := by
  have hi : i.toNat < xs.length := by omega
  refine ⟨xs[i.toNat], List.getElem_mem hi, ?_⟩
  rw [atI_nn h0 (by simpa using h1), List.getElem?_map, List.getElem?_eq_getElem hi]; rfl
theorem str_ix0 (big cells : List Int) (t : Int) (rest : Sto) : dIx (.loc 1) (.int 0) (strO big cells t rest) = .ok (.loc 0) (strO big cells t rest) := dIx_loc (getQ_lst1 _ _ _) rfl
theorem str_ix1 (big cells : List Int) (t : Int) (rest : Sto) : dIx (.loc 1) (.int 1) (strO big cells t rest) = .ok (.fl (cells.map .int)) (strO big cells t rest) := dIx_loc (getQ_lst1 _ _ _) rfl
theorem str_ix2 (big cells : List Int) (t : Int) (rest : Sto) : dIx (.loc 1) (.int 2) (strO big cells t rest) = .ok (.int t) (strO big cells t rest) := dIx_loc (getQ_lst1 _ _ _) rfl
theorem str_ne (big cells : List Int) (t : Int) (rest : Sto) : dEq true (.loc 0) (.fl []) (strO big cells t rest) = .ok (.bl (!big.isEmpty)) (strO big cells t rest) := dNe_loc_nil (getQ_lst0 _ _)
theorem str_get (b : Int) (big cells : List Int) (t : Int) (rest : Sto) : dIx (.loc 0) (.int 0) (strO (b :: big) cells t rest) = .ok (.int b) (strO (b :: big) cells t rest) := dIx_loc (getQ_lst0 _ _) (by simp [atI, ixN])
theorem str_set (b c : Int) (big cells : List Int) (t : Int) (rest : Sto) : dSet (.loc 0) (.int 0) (.int c) (strO (b :: big) cells t rest) = some (strO (c :: big) cells t rest) := by
  simp [dSet, strO, getL_lst0, ixN]
theorem str_pop (b : Int) (big cells : List Int) (t : Int) (rest : Sto) : mPopAt (.loc 0) [.int 0] (strO (b :: big) cells t rest) = .ok (.int b) (strO big cells t rest) := by
  have : seqIndex? 0 (big.length + 1) = some 0 := by simp [seqIndex?]
  have h2 : (-(2 ^ 63) : Int) ≤ 0 ∧ (0 : Int) < 2 ^ 63 := by decide
  simp [mPopAt, strO, getL_lst0, this, ifp_t]
theorem str_lst (big cells : List Int) (t : Int) (rest : Sto) : isLst (strO big cells t rest) (.loc 0) = true := rfl
theorem str_turn (big cells : List Int) (t u : Int) (rest : Sto) : dSet (.loc 1) (.int 2) (.int u) (strO big cells t rest) = some (strO big cells u rest) := by
  simp [dSet, strO, getL_lst1, ixN]
theorem close_same {S S' : Sto} {d : D} (h : S'.length = S.length) : close S d S' = .ok d S' := by
  unfold close; rw [if_pos h]
theorem draw_loop {m : Int} (hm : 0 < m) (hm2 : m.natAbs.log2 < 9000) (cells : List Int) (t : Int) (rest : Sto) (x3 x4 x5 : Option D) : ∀ (big : List Int) (k : Nat) (x2 : Option D), (∀ c ∈ big, 0 ≤ c) → big.length < k →
    (∃ r big', whileD C1__law_draw L1__law_draw k [some (.loc 1), some (.int m), x2, x3, x4, x5] (strO big cells t rest) = .rt (.int r) (strO big' cells t rest) ∧ 0 ≤ r ∧ r < m ∧ (∀ c ∈ big', 0 ≤ c) ∧ big'.length ≤ big.length) ∨
    (∃ x2', whileD C1__law_draw L1__law_draw k [some (.loc 1), some (.int m), x2, x3, x4, x5] (strO big cells t rest) = .nx [some (.loc 1), some (.int m), x2', x3, x4, x5] (strO [] cells t rest)) := by
  intro big
  induction big with
  | nil =>
    intro k x2 _ hk
    obtain ⟨k, rfl⟩ : ∃ j, k = j + 1 := ⟨k - 1, by omega⟩
    refine .inr ⟨x2, ?_⟩
    rw [whileD]
    simp only [eVar, eC, eOp, eT, eAnd, eOr, eNot, eIf, eAndV, eOrV, eNotV, eCall, aNil, aCons, aStar, sOf, eTup, eFl, eLoc, eSl, oNone, oSome, iOf, eNeg, eChain, eMt, bOf, List.lookup, R.bind_ok, R.bind_er, R.bind_stuck, R.toS_ok, R.toS_er, R.toS_stuck, SR.next_nx, SR.next_rt, SR.next_er, SR.next_bk, SR.next_ct, SR.next_stuck, sNil, sSeq, sBrk, sCnt, sExp, sRet, sRetN, sIf, sSet, sAsg, sAug, sPar2, sPar3, tN, DL.tTup, DL.tNil, DL.tCons, DL.tSub, iSeq, srcOf, iRange1, iRange2, sFor, startD, List.map_cons, List.map_nil, List.length_cons, List.length_nil, List.replicate, List.cons_append, List.nil_append, List.getElem?_cons_zero, List.getElem?_cons_succ, List.set_cons_zero, List.set_cons_succ, dSub_int, dFdiv_int, dMod_int, dLt_int, dLe_int, dGt_int, dGe_int, dAddI_int, dSubI_int, dIsN_non, isN, dAdd_int, ll0, ll1, ll2, ll3, ll4, ll5, ll6, ll7, ll8, ll9, ll10, ll11, ll12, ll13, ll14, ll15, ll16, ll17, ll18, ll19, ll20, ll21, ll22, ll23, ll24, ll25, ll26, ll27, ll28, ll29, ll30, ll31, ll32, ll33, ll34, ll35, ll36, ll37, ll38, ll39, ll40, Nat.reduceSub, Nat.reduceAdd, Nat.reduceEqDiff, if_true, if_false, ifp_t, ifp_f, reduceIte, Bool.true_eq_false, Bool.false_eq_true, Option.map_some, Option.map_none, Option.bind_some, Option.bind_none, C1__law_draw, L1__law_draw, str_ix0, str_ne, List.isEmpty_nil, Bool.not_true, Nat.zero_le]
  | cons b big ih =>
    intro k x2 hb hk
    obtain ⟨k, rfl⟩ : ∃ j, k = j + 1 := ⟨k - 1, by omega⟩
    have hb0 : 0 ≤ b := hb b List.mem_cons_self
    have hk' : big.length < k := by simp at hk; omega
    by_cases hpos : 0 < b
    · refine .inl ⟨b % m, (b / m) :: big, ?_, Int.emod_nonneg _ (by omega), Int.emod_lt_of_pos _ hm, fun c hc => ?_, by simp⟩
      · rw [whileD]
        simp only [eVar, eC, eOp, eT, eAnd, eOr, eNot, eIf, eAndV, eOrV, eNotV, eCall, aNil, aCons, aStar, sOf, eTup, eFl, eLoc, eSl, oNone, oSome, iOf, eNeg, eChain, eMt, bOf, List.lookup, R.bind_ok, R.bind_er, R.bind_stuck, R.toS_ok, R.toS_er, R.toS_stuck, SR.next_nx, SR.next_rt, SR.next_er, SR.next_bk, SR.next_ct, SR.next_stuck, sNil, sSeq, sBrk, sCnt, sExp, sRet, sRetN, sIf, sSet, sAsg, sAug, sPar2, sPar3, tN, DL.tTup, DL.tNil, DL.tCons, DL.tSub, iSeq, srcOf, iRange1, iRange2, sFor, startD, List.map_cons, List.map_nil, List.length_cons, List.length_nil, List.replicate, List.cons_append, List.nil_append, List.getElem?_cons_zero, List.getElem?_cons_succ, List.set_cons_zero, List.set_cons_succ, dSub_int, dFdiv_int, dMod_int, dLt_int, dLe_int, dGt_int, dGe_int, dAddI_int, dSubI_int, dIsN_non, isN, dAdd_int, ll0, ll1, ll2, ll3, ll4, ll5, ll6, ll7, ll8, ll9, ll10, ll11, ll12, ll13, ll14, ll15, ll16, ll17, ll18, ll19, ll20, ll21, ll22, ll23, ll24, ll25, ll26, ll27, ll28, ll29, ll30, ll31, ll32, ll33, ll34, ll35, ll36, ll37, ll38, ll39, ll40, Nat.reduceSub, Nat.reduceAdd, Nat.reduceEqDiff, if_true, if_false, ifp_t, ifp_f, reduceIte, Bool.true_eq_false, Bool.false_eq_true, Option.map_some, Option.map_none, Option.bind_some, Option.bind_none, C1__law_draw, L1__law_draw, str_ix0, str_ne, str_get, str_set, List.isEmpty_cons, Bool.not_false, hpos, decide_true, hm, hm2, and_self, Nat.zero_le]
      · rcases List.mem_cons.mp hc with rfl | hc
        · exact Int.ediv_nonneg hb0 (by omega)
        · exact hb c (List.mem_cons_of_mem _ hc)
    · have e : b = 0 := by omega
      subst e
      rw [whileD]
      simp only [eVar, eC, eOp, eT, eAnd, eOr, eNot, eIf, eAndV, eOrV, eNotV, eCall, aNil, aCons, aStar, sOf, eTup, eFl, eLoc, eSl, oNone, oSome, iOf, eNeg, eChain, eMt, bOf, List.lookup, R.bind_ok, R.bind_er, R.bind_stuck, R.toS_ok, R.toS_er, R.toS_stuck, SR.next_nx, SR.next_rt, SR.next_er, SR.next_bk, SR.next_ct, SR.next_stuck, sNil, sSeq, sBrk, sCnt, sExp, sRet, sRetN, sIf, sSet, sAsg, sAug, sPar2, sPar3, tN, DL.tTup, DL.tNil, DL.tCons, DL.tSub, iSeq, srcOf, iRange1, iRange2, sFor, startD, List.map_cons, List.map_nil, List.length_cons, List.length_nil, List.replicate, List.cons_append, List.nil_append, List.getElem?_cons_zero, List.getElem?_cons_succ, List.set_cons_zero, List.set_cons_succ, dSub_int, dFdiv_int, dMod_int, dLt_int, dLe_int, dGt_int, dGe_int, dAddI_int, dSubI_int, dIsN_non, isN, dAdd_int, ll0, ll1, ll2, ll3, ll4, ll5, ll6, ll7, ll8, ll9, ll10, ll11, ll12, ll13, ll14, ll15, ll16, ll17, ll18, ll19, ll20, ll21, ll22, ll23, ll24, ll25, ll26, ll27, ll28, ll29, ll30, ll31, ll32, ll33, ll34, ll35, ll36, ll37, ll38, ll39, ll40, Nat.reduceSub, Nat.reduceAdd, Nat.reduceEqDiff, if_true, if_false, ifp_t, ifp_f, reduceIte, Bool.true_eq_false, Bool.false_eq_true, Option.map_some, Option.map_none, Option.bind_some, Option.bind_none, C1__law_draw, L1__law_draw, str_ix0, str_ne, str_get, str_pop, str_lst, List.isEmpty_cons, Bool.not_false, Int.lt_irrefl, decide_false, Nat.zero_le]
      have := ih k (some (.int 0)) (fun c hc => hb c (List.mem_cons_of_mem _ hc)) hk'
      rcases this with ⟨r, big', h1, h2, h3, h4, h5⟩ | h
      · exact .inl ⟨r, big', h1, h2, h3, h4, Nat.le_succ_of_le h5⟩
      · exact .inr h
theorem mul_small {i j : Int} (h : -(2 ^ 64) < i ∧ i < 2 ^ 64) (S : Sto) : dMul (.int i) (.int j) S = .ok (.int (i * j)) S := by
  exact ifp_pos (.inl (.inl h))
theorem mul_smallR {i j : Int} (h : -(2 ^ 64) < j ∧ j < 2 ^ 64) (S : Sto) : dMul (.int i) (.int j) S = .ok (.int (i * j)) S := by
  exact ifp_pos (.inl (.inr h))
theorem log2_small {x : Nat} (b : Nat) (h : x < 2 ^ b) (h0 : 0 < b) (h9 : b ≤ 9000) : x.log2 < 9000 := Nat.lt_of_lt_of_le (PySem.Flt.log2_lt_of h0 h) h9
theorem bLen_fl (xs : List D) (S : Sto) : bLen [.fl xs] S = .ok (.int xs.length) S := rfl
theorem bLen_tup (xs : List D) (S : Sto) : bLen [.tup xs] S = .ok (.int xs.length) S := rfl
theorem fnC_rt {n m : Nat} {B : Ev → Sto → SR} {ds : List D} {S S' : Sto} {d : D} (hm : ds.length = m) (h : B (startD n ds) S = .rt d S') (hc : S'.length = S.length) : fnC close n m B ds S = .ok d S' := by
  unfold fnC
  rw [if_pos hm, h]
  exact close_same hc
/-- a draw: some number below m, and the stream goes on -/
theorem draw_ok {S : Sto} {n : Nat} {rest : Sto} (h : Strm S n rest) {m : Int} (hm : 0 < m) (hm2 : m.natAbs.log2 < 9000) (hn : n < 2 ^ 60) :
    ∃ r S', F__law_draw [.loc 1, .int m] S = .ok (.int r) S' ∧ 0 ≤ r ∧ r < m ∧ Strm S' (n + 1) rest := by
  obtain ⟨big, cells, t, rfl, o⟩ := h
  have hst : startD 6 [D.loc 1, D.int m] = [some (.loc 1), some (.int m), none, none, none, none] := rfl
  rcases draw_loop hm hm2 cells t rest none none none big 4000 none o.bigs (by have := o.few; omega) with ⟨r, big', h1, h2, h3, h4, h5⟩ | ⟨x2, h1⟩
  · refine ⟨r, strO big' cells t rest, ?_, h2, h3, big', cells, t, rfl, h4, o.cls, o.ne, Nat.le_trans h5 o.few, o.t0, by have := o.tn; omega⟩
    refine fnC_rt rfl ?_ rfl
    rw [hst]
    unfold B__law_draw
    rw [sSeq, h1]; rfl
  · have t0 := o.t0
    have tn := o.tn
    have hcl : 0 < (cells.length : Int) := by
      have := List.length_pos_iff.mpr o.ne
      omega
    have hix0 : 0 ≤ (t + 1) % (cells.length : Int) := Int.emod_nonneg _ (by omega)
    have hix1 : (t + 1) % (cells.length : Int) < cells.length := Int.emod_lt_of_pos _ hcl
    obtain ⟨z, hz, hat⟩ := atI_map hix0 hix1
    have hz0 := o.cls z hz
    have c0 : 0 ≤ z % 2147483587 := Int.emod_nonneg _ (by decide)
    have c1 : z % 2147483587 < 2147483587 := Int.emod_lt_of_pos _ (by decide)
    have hx : ∀ S, dIx (.fl (cells.map D.int)) (.int ((t + 1) % (cells.length : Int))) S = .ok (.int z) S := fun S => dIx_fl hat
    have m1 : ∀ S, dMul (.int 48271) (.int (t + 1)) S = .ok (.int (48271 * (t + 1))) S := fun S => mul_small (by decide) S
    have m2 : ∀ S, dMul (.int (z % 2147483587)) (.int (16807 + 48271 * (t + 1))) S = .ok (.int (z % 2147483587 * (16807 + 48271 * (t + 1)))) S := fun S => mul_small (by omega) S
    have m3 : ∀ S, dMul (.int 69621) (.int (t + 1)) S = .ok (.int (69621 * (t + 1))) S := fun S => mul_small (by decide) S
    have m4 : ∀ S, dMul (.int (69621 * (t + 1))) (.int (t + 1)) S = .ok (.int (69621 * (t + 1) * (t + 1))) S := fun S => mul_smallR (by omega) S
    have l16 : (16 : Int).natAbs.log2 < 9000 := by decide
    have m5 : ∀ (x : Int) S, dMul (.int (x % 2147483647)) (.int (x % 2147483647)) S = .ok (.int (x % 2147483647 * (x % 2147483647))) S := fun x S => by
      have a0 : 0 ≤ x % 2147483647 := Int.emod_nonneg _ (by decide)
      have a1 : x % 2147483647 < 2147483647 := Int.emod_lt_of_pos _ (by decide)
      exact mul_small (by omega) S
    have key : ∃ y : Int, B__law_draw [some (.loc 1), some (.int m), none, none, none, none] (strO big cells t rest) = .rt (.int (y % m)) (strO [] cells (t + 1) rest) := by
      unfold B__law_draw
      rw [sSeq, h1]
      simp only [eVar, eC, eOp, eT, eAnd, eOr, eNot, eIf, eAndV, eOrV, eNotV, eCall, aNil, aCons, aStar, sOf, eTup, eFl, eLoc, eSl, oNone, oSome, iOf, eNeg, eChain, eMt, bOf, List.lookup, R.bind_ok, R.bind_er, R.bind_stuck, R.toS_ok, R.toS_er, R.toS_stuck, SR.next_nx, SR.next_rt, SR.next_er, SR.next_bk, SR.next_ct, SR.next_stuck, sNil, sSeq, sBrk, sCnt, sExp, sRet, sRetN, sIf, sSet, sAsg, sAug, sPar2, sPar3, tN, DL.tTup, DL.tNil, DL.tCons, DL.tSub, iSeq, srcOf, iRange1, iRange2, sFor, startD, List.map_cons, List.map_nil, List.length_cons, List.length_nil, List.replicate, List.cons_append, List.nil_append, List.getElem?_cons_zero, List.getElem?_cons_succ, List.set_cons_zero, List.set_cons_succ, dSub_int, dFdiv_int, dMod_int, dLt_int, dLe_int, dGt_int, dGe_int, dAddI_int, dSubI_int, dIsN_non, isN, dAdd_int, ll0, ll1, ll2, ll3, ll4, ll5, ll6, ll7, ll8, ll9, ll10, ll11, ll12, ll13, ll14, ll15, ll16, ll17, ll18, ll19, ll20, ll21, ll22, ll23, ll24, ll25, ll26, ll27, ll28, ll29, ll30, ll31, ll32, ll33, ll34, ll35, ll36, ll37, ll38, ll39, ll40, Nat.reduceSub, Nat.reduceAdd, Nat.reduceEqDiff, if_true, if_false, ifp_t, ifp_f, reduceIte, Bool.true_eq_false, Bool.false_eq_true, Option.map_some, Option.map_none, Option.bind_some, Option.bind_none, str_ix0, str_ix1, str_ix2, str_turn, dAdd_int, bLen_fl, List.length_map, hcl, hx, m1, m2, m3, m4, m5, l16, hm, Int.reduceLT, and_self]
      exact ⟨_, rfl⟩
    obtain ⟨y, hy⟩ := key
    exact ⟨y % m, _, fnC_rt rfl hy rfl, Int.emod_nonneg _ (by omega), Int.emod_lt_of_pos _ hm, [], cells, t + 1, rfl, by simp, o.cls, o.ne, by simp, by omega, by omega⟩
end DL
namespace DL
open PySem PySem.Spec L2
open PyProof.Rows hiding St
theorem Strm.len {S : Sto} {n : Nat} {rest : Sto} (h : Strm S n rest) : S.length = rest.length + 2 := by
  obtain ⟨b, c, t, rfl, o⟩ := h; rfl
theorem lowL_ints (n : Nat) (l : List Int) : lowL n (l.map D.int) = true := by
  induction l with
  | nil => rfl
  | cons i l ih => simp [lowL, low, ih]
theorem lowL_of {n : Nat} : ∀ {l : List D}, (∀ d ∈ l, low n d = true) → lowL n l = true
  | [], _ => rfl
  | d :: l, h => by
    rw [lowL, h d List.mem_cons_self, lowL_of fun x hx => h x (List.mem_cons_of_mem _ hx)]; rfl
theorem getL_end (S : Sto) (ds : List D) : getL (S ++ [.lst ds]) S.length = some ds := getL_of (by simp)
theorem getQ_end (S : Sto) (ds : List D) : getQ (S ++ [.lst ds]) S.length = some ds := getQ_of (by simp)
theorem set_end (S : Sto) (a b : Ob) : (S ++ [a]).set S.length b = S ++ [b] := by
  rw [List.set_append_right _ _ (Nat.le_refl _)]; simp
theorem finFl_eq {S S' : Sto} {l : List D} (h : getL S' S.length = some l) (hc : Trunc S S' ∧ S'.length = S.length + 1 ∧ lowL S.length l = true) : finFl S S' = .ok (.fl l) (S'.take S.length) := by
  unfold finFl
  simp only [h]
  rw [if_pos hc]
theorem finFl_end {S : Sto} {l : List D} (h : lowL S.length l = true) : finFl S (S ++ [.lst l]) = .ok (.fl l) S := by
  rw [finFl_eq (getL_end S l) ⟨Trunc.same _ _, by simp, h⟩]
  simp
/-- a comprehension whose parts change nothing -/
theorem compD_pure {T : Tg} {c : Ev → Sto → R Bool} {f : Ev → Sto → R D} {ρ : Ev} (ρd : D → Ev) (p : D → Bool) (e : D → D) (S : Sto) : ∀ (ds acc : List D),
    (∀ d ∈ ds, ∀ S', T d ρ S' = some (ρd d, S') ∧ c (ρd d) S' = .ok (p d) S' ∧ (p d = true → f (ρd d) S' = .ok (e d) S')) → acc.length + ds.length ≤ sizeLine →
    compD yes T c f S.length ρ ds (S ++ [.lst acc]) = some (S ++ [.lst (acc ++ (ds.filter p).map e)])
  | [], acc, _, _ => by rw [compD, if_pos (show yes _ from trivial)]; simp
  | d :: ds, acc, h, hl => by
    obtain ⟨h1, h2, h3⟩ := h d List.mem_cons_self (S ++ [.lst acc])
    have hl' : acc.length + (ds.length + 1) ≤ sizeLine := hl
    rw [compD, if_pos (show yes _ from trivial), h1]
    simp only [h2]
    cases hp : p d with
    | false =>
      rw [if_neg (by decide)]
      rw [compD_pure ρd p e S ds acc (fun x hx => h x (List.mem_cons_of_mem _ hx)) (by omega)]
      simp [List.filter, hp]
    | true =>
      rw [if_pos rfl]
      simp only [h3 hp, getL_end, set_end]
      rw [ifp_pos (by omega)]
      rw [compD_pure ρd p e S ds (acc ++ [e d]) (fun x hx => h x (List.mem_cons_of_mem _ hx)) (by simp; omega)]
      simp [List.filter, hp]
theorem eLc_pure {src : Ev → Sto → R Src} {T : Tg} {vs : List Nat} {c : Ev → Sto → R Bool} {f : Ev → Sto → R D} {ρ : Ev} {S : Sto} (ds : List D) (ρd : D → Ev) (p : D → Bool) (e : D → D) (hs : src ρ S = .ok (ds, yes) S)
    (h : ∀ d ∈ ds, ∀ S', T d (wipeD ρ vs) S' = some (ρd d, S') ∧ c (ρd d) S' = .ok (p d) S' ∧ (p d = true → f (ρd d) S' = .ok (e d) S')) (hl : ds.length ≤ sizeLine) (hlow : ∀ d ∈ ds, p d = true → low S.length (e d) = true) :
    eLc finFl src T vs c f ρ S = .ok (.fl ((ds.filter p).map e)) S := by
  unfold eLc
  rw [hs]
  show (match compD yes T c f S.length (wipeD ρ vs) ds (S ++ [Ob.lst []]) with
    | some S2 => finFl S S2
    | none => .stuck) = _
  rw [compD_pure ρd p e S ds [] h (by simpa using hl)]
  simp only [List.nil_append]
  refine finFl_end (lowL_of fun d hd => ?_)
  obtain ⟨x, hx, rfl⟩ := List.mem_map.mp hd
  obtain ⟨h1, h2⟩ := List.mem_filter.mp hx
  exact hlow x h1 h2
theorem eLc_pureLoc {src : Ev → Sto → R Src} {T : Tg} {vs : List Nat} {c : Ev → Sto → R Bool} {f : Ev → Sto → R D} {ρ : Ev} {S : Sto} (ds : List D) (ρd : D → Ev) (p : D → Bool) (e : D → D) (hs : src ρ S = .ok (ds, yes) S)
    (h : ∀ d ∈ ds, ∀ S', T d (wipeD ρ vs) S' = some (ρd d, S') ∧ c (ρd d) S' = .ok (p d) S' ∧ (p d = true → f (ρd d) S' = .ok (e d) S')) (hl : ds.length ≤ sizeLine) :
    eLc finLoc src T vs c f ρ S = .ok (.loc S.length) (S ++ [.lst ((ds.filter p).map e)]) := by
  unfold eLc
  rw [hs]
  show (match compD yes T c f S.length (wipeD ρ vs) ds (S ++ [Ob.lst []]) with
    | some S2 => finLoc S S2
    | none => .stuck) = _
  rw [compD_pure ρd p e S ds [] h (by simpa using hl)]
  simp only [List.nil_append]; rfl
theorem Strm.app {S : Sto} {n : Nat} {rest : Sto} (h : Strm S n rest) (l : Sto) : Strm (S ++ l) n (rest ++ l) := by
  obtain ⟨b, c, t, rfl, o⟩ := h
  exact ⟨b, c, t, rfl, o⟩
theorem Strm.getL_end {S : Sto} {n : Nat} {rest : Sto} {ds : List D} (h : Strm S n (rest ++ [.lst ds])) : getL S (rest.length + 2) = some ds := by
  obtain ⟨b, c, t, rfl, o⟩ := h
  refine getL_of ?_
  show (rest ++ [Ob.lst ds])[rest.length]? = _
  simp
theorem Strm.getQ_end {S : Sto} {n : Nat} {rest : Sto} {ds : List D} (h : Strm S n (rest ++ [.lst ds])) : getQ S (rest.length + 2) = some ds := by
  obtain ⟨b, c, t, rfl, o⟩ := h
  refine getQ_of ?_
  show (rest ++ [Ob.lst ds])[rest.length]? = _
  simp
theorem Strm.set_end {S : Sto} {n : Nat} {rest : Sto} {a : Ob} (h : Strm S n (rest ++ [a])) (b : Ob) : Strm (S.set (rest.length + 2) b) n (rest ++ [b]) := by
  obtain ⟨bg, c, t, rfl, o⟩ := h
  refine ⟨bg, c, t, ?_, o⟩
  show Ob.lst _ :: Ob.lst _ :: (rest ++ [a]).set rest.length b = _
  rw [DL.set_end]; rfl
/-- young places go: the stream stays -/
theorem Strm.trunc {S S' : Sto} {n m : Nat} {rest l : Sto} (h : Strm S n rest) (h' : Strm S' m (rest ++ l)) : Trunc S S' ∧ Strm (S'.take S.length) m rest := by
  obtain ⟨b, c, t, rfl, o⟩ := h
  obtain ⟨b', c', t', rfl, o'⟩ := h'
  refine ⟨⟨by simp [strO], fun k ob hk e => ?_⟩, b', c', t', ?_, o'⟩
  · match k, hk, e with
    | 0, hk, e =>
      cases e
      exact .inr (by simp [lowO, lowL_ints])
    | 1, hk, e =>
      cases e
      refine .inr ?_
      simp [lowO, lowL, low, lowL_ints, strO]
    | k + 2, hk, e =>
      left
      have hk' : k < rest.length := by simp [strO] at hk; exact hk
      show rest[k]? = some ob
      have e : (rest ++ l)[k]? = some ob := e
      rw [List.getElem?_append_left hk'] at e; exact e
  · show (Ob.lst _ :: Ob.lst _ :: (rest ++ l)).take (rest.length + 2) = _
    simp [strO]
theorem compD_strm {T : Tg} {f : Ev → Sto → R D} {ρ : Ev} {rest : Sto} (ρd : D → Ev) (cost : Nat) (P : D → Prop) : ∀ (ds acc : List D) (S : Sto) (n : Nat), Strm S n (rest ++ [.lst acc]) →
    (∀ d ∈ ds, ∀ S', T d ρ S' = some (ρd d, S')) →
    (∀ d ∈ ds, ∀ S' m l, m + cost ≤ n + ds.length * cost → Strm S' m l → ∃ y S'', f (ρd d) S' = .ok y S'' ∧ P y ∧ Strm S'' (m + cost) l) → acc.length + ds.length ≤ sizeLine →
    ∃ ys S', compD yes T cYes f (rest.length + 2) ρ ds S = some S' ∧ ys.length = ds.length ∧ (∀ y ∈ ys, P y) ∧ Strm S' (n + ds.length * cost) (rest ++ [.lst (acc ++ ys)])
  | [], acc, S, n, hS, _, _, _ => ⟨[], S, by rw [compD, if_pos (show yes _ from trivial)], rfl, by simp, by simpa using hS⟩
  | d :: ds, acc, S, n, hS, hT, hf, hl => by
    have hl' : acc.length + (ds.length + 1) ≤ sizeLine := hl
    have hcost : (d :: ds).length * cost = cost + ds.length * cost := by rw [List.length_cons, Nat.add_mul]; omega
    obtain ⟨y, S1, h1, h2, h3⟩ := hf d List.mem_cons_self S n _ (by rw [hcost]; omega) hS
    have h4 := h3.set_end (.lst (acc ++ [y]))
    obtain ⟨ys, S', h5, h6, h7, h8⟩ := compD_strm ρd cost P ds (acc ++ [y]) _ (n + cost) h4 (fun x hx => hT x (List.mem_cons_of_mem _ hx))
      (fun x hx S' m l hm => hf x (List.mem_cons_of_mem _ hx) S' m l (by rw [hcost]; omega)) (by simp; omega)
    refine ⟨y :: ys, S', ?_, by simp [h6], fun z hz => ?_, ?_⟩
    · rw [compD, if_pos (show yes _ from trivial), hT d List.mem_cons_self S]
      simp only [cYes, if_true, h1, h3.getL_end]
      rw [ifp_pos (by omega)]
      exact h5
    · rcases List.mem_cons.mp hz with rfl | hz
      · exact h2
      · exact h7 z hz
    · have e : n + (d :: ds).length * cost = n + cost + ds.length * cost := by rw [hcost]; omega
      rw [e]
      simpa using h8
theorem eLc_strm {src : Ev → Sto → R Src} {T : Tg} {vs : List Nat} {f : Ev → Sto → R D} {ρ : Ev} {S S0 : Sto} {n : Nat} {rest : Sto} (ds : List D) (ρd : D → Ev) (cost : Nat) (P : D → Prop) (hs : src ρ S0 = .ok (ds, yes) S) (hS : Strm S n rest)
    (hT : ∀ d ∈ ds, ∀ S', T d (wipeD ρ vs) S' = some (ρd d, S')) (hf : ∀ d ∈ ds, ∀ S' m l, m + cost ≤ n + ds.length * cost → Strm S' m l → ∃ y S'', f (ρd d) S' = .ok y S'' ∧ P y ∧ Strm S'' (m + cost) l) (hl : ds.length ≤ sizeLine) (hlow : ∀ y, P y → low S.length y = true) :
    ∃ ys S', eLc finFl src T vs cYes f ρ S0 = .ok (.fl ys) S' ∧ ys.length = ds.length ∧ (∀ y ∈ ys, P y) ∧ Strm S' (n + ds.length * cost) rest := by
  obtain ⟨ys, S', h1, h2, h3, h4⟩ := compD_strm (T := T) (f := f) (ρ := wipeD ρ vs) (rest := rest) ρd cost P ds [] (S ++ [.lst []]) n (hS.app _) hT hf (by simpa using hl)
  obtain ⟨t1, t2⟩ := hS.trunc h4
  refine ⟨ys, S'.take S.length, ?_, h2, h3, t2⟩
  unfold eLc
  rw [hs]
  show (match compD yes T cYes f S.length (wipeD ρ vs) ds (S ++ [Ob.lst []]) with
    | some S2 => finFl S S2
    | none => .stuck) = _
  rw [← hS.len] at h1
  rw [h1]
  show finFl S S' = _
  have e := h4.getL_end
  rw [List.nil_append, ← hS.len] at e
  exact finFl_eq e ⟨t1, by rw [h4.len, hS.len]; simp, lowL_of fun y hy => hlow y (h3 y hy)⟩
theorem stream_ok {ns : List Int} (h : ns.length ≤ 63) : ∃ S, F__law_stream [.kl (ns.map D.int)] [] = .ok (.loc 1) S ∧ Strm S 0 [] := by
  have e1 : ∀ S, eLc finFl (iSeq (eVar 0)) (tN 2) [2] cYes E1__law_stream [some (.kl (ns.map D.int)), none, none] S = .ok (.fl ((ns.map D.int).map fun d => match d with | .int i => .int (if i < 0 then -i else i) | d => d)) S := fun S => by
    have := eLc_pure (src := iSeq (eVar 0)) (T := tN 2) (vs := [2]) (c := cYes) (f := E1__law_stream) (ρ := [some (.kl (ns.map D.int)), none, none]) (S := S) (ns.map D.int) (fun d => [some (.kl (ns.map D.int)), none, some d]) (fun _ => true)
      (fun d => match d with | .int i => .int (if i < 0 then -i else i) | d => d) rfl (fun d hd S' => ?_) (by simp; exact Nat.le_trans h (by decide)) (fun d hd _ => ?_)
    · rw [this, List.filter_eq_self.mpr (by simp)]
    · obtain ⟨i, _, rfl⟩ := List.mem_map.mp hd
      exact ⟨rfl, rfl, fun _ => rfl⟩
    · obtain ⟨i, _, rfl⟩ := List.mem_map.mp hd
      rfl
  have e2 : ((ns.map D.int).map fun d => match d with | .int i => D.int (if i < 0 then -i else i) | d => d) = (ns.map fun i => if i < 0 then -i else i).map D.int := by simp
  generalize hcs : (ns.map fun i => if i < 0 then -i else i) = cs at e2
  have hc0 : ∀ c ∈ cs, 0 ≤ c := fun c hc => by
    rw [← hcs] at hc
    obtain ⟨i, _, rfl⟩ := List.mem_map.mp hc
    split <;> omega
  have hlen : cs.length ≤ 63 := by rw [← hcs]; simpa using h
  have hpow : ∀ S, dPow (.int 10) (.int 18) S = .ok (.int (10 ^ 18)) S := fun S => dPow_ok (by decide) S
  have e3 : ∀ S, eLc finLoc (iSeq (eVar 1)) (tN 2) [2] Q1__law_stream E2__law_stream [some (.kl (ns.map D.int)), some (.fl (cs.map D.int)), none] S = .ok (.loc S.length) (S ++ [.lst ((cs.filter fun i => decide ((10 : Int) ^ 18 ≤ i)).map D.int)]) := fun S => by
    have := eLc_pureLoc (src := iSeq (eVar 1)) (T := tN 2) (vs := [2]) (c := Q1__law_stream) (f := E2__law_stream) (ρ := [some (.kl (ns.map D.int)), some (.fl (cs.map D.int)), none]) (S := S) (cs.map D.int)
      (fun d => [some (.kl (ns.map D.int)), some (.fl (cs.map D.int)), some d]) (fun d => match d with | .int i => decide ((10 : Int) ^ 18 ≤ i) | _ => false) (fun d => d) rfl (fun d hd S' => ?_) (by simp; exact Nat.le_trans hlen (by decide))
    · rw [this, List.filter_map]
      simp [Function.comp_def]
    · obtain ⟨i, _, rfl⟩ := List.mem_map.mp hd
      refine ⟨rfl, ?_, fun _ => rfl⟩
      have hw : wipeD [some (D.kl (ns.map D.int)), some (D.fl (cs.map D.int)), none] [2] = [some (D.kl (ns.map D.int)), some (D.fl (cs.map D.int)), none] := rfl
      simp only [eVar, eC, eOp, eT, eAnd, eOr, eNot, eIf, eAndV, eOrV, eNotV, eCall, aNil, aCons, aStar, sOf, eTup, eFl, eLoc, eSl, oNone, oSome, iOf, eNeg, eChain, eMt, bOf, List.lookup, R.bind_ok, R.bind_er, R.bind_stuck, R.toS_ok, R.toS_er, R.toS_stuck, SR.next_nx, SR.next_rt, SR.next_er, SR.next_bk, SR.next_ct, SR.next_stuck, sNil, sSeq, sBrk, sCnt, sExp, sRet, sRetN, sIf, sSet, sAsg, sAug, sPar2, sPar3, tN, DL.tTup, DL.tNil, DL.tCons, DL.tSub, iSeq, srcOf, iRange1, iRange2, sFor, startD, List.map_cons, List.map_nil, List.length_cons, List.length_nil, List.replicate, List.cons_append, List.nil_append, List.getElem?_cons_zero, List.getElem?_cons_succ, List.set_cons_zero, List.set_cons_succ, dSub_int, dFdiv_int, dMod_int, dLt_int, dLe_int, dGt_int, dGe_int, dAddI_int, dSubI_int, dIsN_non, isN, dAdd_int, ll0, ll1, ll2, ll3, ll4, ll5, ll6, ll7, ll8, ll9, ll10, ll11, ll12, ll13, ll14, ll15, ll16, ll17, ll18, ll19, ll20, ll21, ll22, ll23, ll24, ll25, ll26, ll27, ll28, ll29, ll30, ll31, ll32, ll33, ll34, ll35, ll36, ll37, ll38, ll39, ll40, Nat.reduceSub, Nat.reduceAdd, Nat.reduceEqDiff, if_true, if_false, ifp_t, ifp_f, reduceIte, Bool.true_eq_false, Bool.false_eq_true, Option.map_some, Option.map_none, Option.bind_some, Option.bind_none, Q1__law_stream, hpow]
  refine ⟨strO (cs.filter fun i => decide ((10 : Int) ^ 18 ≤ i)) (cs ++ [(cs.length : Int) + 17]) 0 [], ?_, ⟨_, _, _, rfl, ?_, ?_, by simp, ?_, by omega, by omega⟩⟩
  · unfold F__law_stream fnC
    rw [if_pos (show [D.kl (ns.map D.int)].length = 1 from rfl)]
    have hst : startD 3 [D.kl (ns.map D.int)] = [some (.kl (ns.map D.int)), none, none] := rfl
    rw [hst]
    unfold B__law_stream
    have hadd : ∀ S, dAdd (.fl (cs.map D.int)) (.fl [.int ((cs.length : Int) + 17)]) S = .ok (.fl ((cs ++ [(cs.length : Int) + 17]).map D.int)) S := fun S => by
      show ifp ((cs.map D.int).length + 1 ≤ sizeLine) (R.ok (D.fl (cs.map D.int ++ [D.int ((cs.length : Int) + 17)])) S) .stuck = _
      rw [ifp_pos (by rw [List.length_map]; exact Nat.le_trans (Nat.succ_le_succ hlen) (by decide))]
      simp
    simp only [eVar, eC, eOp, eT, eAnd, eOr, eNot, eIf, eAndV, eOrV, eNotV, eCall, aNil, aCons, aStar, sOf, eTup, eFl, eLoc, eSl, oNone, oSome, iOf, eNeg, eChain, eMt, bOf, List.lookup, R.bind_ok, R.bind_er, R.bind_stuck, R.toS_ok, R.toS_er, R.toS_stuck, SR.next_nx, SR.next_rt, SR.next_er, SR.next_bk, SR.next_ct, SR.next_stuck, sNil, sSeq, sBrk, sCnt, sExp, sRet, sRetN, sIf, sSet, sAsg, sAug, sPar2, sPar3, tN, DL.tTup, DL.tNil, DL.tCons, DL.tSub, iSeq, srcOf, iRange1, iRange2, sFor, startD, List.map_cons, List.map_nil, List.length_cons, List.length_nil, List.replicate, List.cons_append, List.nil_append, List.getElem?_cons_zero, List.getElem?_cons_succ, List.set_cons_zero, List.set_cons_succ, dSub_int, dFdiv_int, dMod_int, dLt_int, dLe_int, dGt_int, dGe_int, dAddI_int, dSubI_int, dIsN_non, isN, dAdd_int, ll0, ll1, ll2, ll3, ll4, ll5, ll6, ll7, ll8, ll9, ll10, ll11, ll12, ll13, ll14, ll15, ll16, ll17, ll18, ll19, ll20, ll21, ll22, ll23, ll24, ll25, ll26, ll27, ll28, ll29, ll30, ll31, ll32, ll33, ll34, ll35, ll36, ll37, ll38, ll39, ll40, Nat.reduceSub, Nat.reduceAdd, Nat.reduceEqDiff, if_true, if_false, ifp_t, ifp_f, reduceIte, Bool.true_eq_false, Bool.false_eq_true, Option.map_some, Option.map_none, Option.bind_some, Option.bind_none, e1, e2, e3, dAdd_int, bLen_fl, List.length_map, hadd]
    rfl
  · intro c hc
    exact hc0 c (List.mem_filter.mp hc).1
  · intro c hc
    rcases List.mem_append.mp hc with hc | hc
    · exact hc0 c hc
    · simp at hc; omega
  · exact Nat.le_trans (List.length_filter_le _ _) hlen
theorem pick_fl {S : Sto} {n : Nat} {rest : Sto} (h : Strm S n rest) {xs : List D} (hx : xs ≠ []) (hs : xs.length < 2 ^ 60) (hn : n < 2 ^ 60) :
    ∃ d S', F__law_pick [.loc 1, .fl xs] S = .ok d S' ∧ d ∈ xs ∧ Strm S' (n + 1) rest := by
  have hl := List.length_pos_iff.mpr hx
  obtain ⟨r, S', h1, h2, h3, h4⟩ := draw_ok h (m := (xs.length : Int)) (by omega) (log2_small 60 (by omega) (by decide) (by decide)) hn
  have hr : r.toNat < xs.length := by omega
  refine ⟨xs[r.toNat], S', ?_, List.getElem_mem hr, h4⟩
  refine fnC_rt rfl ?_ (by rw [h.len, h4.len])
  unfold B__law_pick
  have hix : ∀ S, dIx (.fl xs) (.int r) S = .ok xs[r.toNat] S := fun S => dIx_fl (by rw [atI_nn h2 h3, List.getElem?_eq_getElem hr])
  simp only [eVar, eC, eOp, eT, eAnd, eOr, eNot, eIf, eAndV, eOrV, eNotV, eCall, aNil, aCons, aStar, sOf, eTup, eFl, eLoc, eSl, oNone, oSome, iOf, eNeg, eChain, eMt, bOf, List.lookup, R.bind_ok, R.bind_er, R.bind_stuck, R.toS_ok, R.toS_er, R.toS_stuck, SR.next_nx, SR.next_rt, SR.next_er, SR.next_bk, SR.next_ct, SR.next_stuck, sNil, sSeq, sBrk, sCnt, sExp, sRet, sRetN, sIf, sSet, sAsg, sAug, sPar2, sPar3, tN, DL.tTup, DL.tNil, DL.tCons, DL.tSub, iSeq, srcOf, iRange1, iRange2, sFor, startD, List.map_cons, List.map_nil, List.length_cons, List.length_nil, List.replicate, List.cons_append, List.nil_append, List.getElem?_cons_zero, List.getElem?_cons_succ, List.set_cons_zero, List.set_cons_succ, dSub_int, dFdiv_int, dMod_int, dLt_int, dLe_int, dGt_int, dGe_int, dAddI_int, dSubI_int, dIsN_non, isN, dAdd_int, ll0, ll1, ll2, ll3, ll4, ll5, ll6, ll7, ll8, ll9, ll10, ll11, ll12, ll13, ll14, ll15, ll16, ll17, ll18, ll19, ll20, ll21, ll22, ll23, ll24, ll25, ll26, ll27, ll28, ll29, ll30, ll31, ll32, ll33, ll34, ll35, ll36, ll37, ll38, ll39, ll40, Nat.reduceSub, Nat.reduceAdd, Nat.reduceEqDiff, if_true, if_false, ifp_t, ifp_f, reduceIte, Bool.true_eq_false, Bool.false_eq_true, Option.map_some, Option.map_none, Option.bind_some, Option.bind_none, bLen_fl, h1, hix]
theorem pick_tup {S : Sto} {n : Nat} {rest : Sto} (h : Strm S n rest) {xs : List D} (hx : xs ≠ []) (hs : xs.length < 2 ^ 60) (hn : n < 2 ^ 60) :
    ∃ d S', F__law_pick [.loc 1, .tup xs] S = .ok d S' ∧ d ∈ xs ∧ Strm S' (n + 1) rest := by
  have hl := List.length_pos_iff.mpr hx
  obtain ⟨r, S', h1, h2, h3, h4⟩ := draw_ok h (m := (xs.length : Int)) (by omega) (log2_small 60 (by omega) (by decide) (by decide)) hn
  have hr : r.toNat < xs.length := by omega
  refine ⟨xs[r.toNat], S', ?_, List.getElem_mem hr, h4⟩
  refine fnC_rt rfl ?_ (by rw [h.len, h4.len])
  unfold B__law_pick
  have hix : ∀ S, dIx (.tup xs) (.int r) S = .ok xs[r.toNat] S := fun S => dIx_tup (by rw [atI_nn h2 h3, List.getElem?_eq_getElem hr])
  simp only [eVar, eC, eOp, eT, eAnd, eOr, eNot, eIf, eAndV, eOrV, eNotV, eCall, aNil, aCons, aStar, sOf, eTup, eFl, eLoc, eSl, oNone, oSome, iOf, eNeg, eChain, eMt, bOf, List.lookup, R.bind_ok, R.bind_er, R.bind_stuck, R.toS_ok, R.toS_er, R.toS_stuck, SR.next_nx, SR.next_rt, SR.next_er, SR.next_bk, SR.next_ct, SR.next_stuck, sNil, sSeq, sBrk, sCnt, sExp, sRet, sRetN, sIf, sSet, sAsg, sAug, sPar2, sPar3, tN, DL.tTup, DL.tNil, DL.tCons, DL.tSub, iSeq, srcOf, iRange1, iRange2, sFor, startD, List.map_cons, List.map_nil, List.length_cons, List.length_nil, List.replicate, List.cons_append, List.nil_append, List.getElem?_cons_zero, List.getElem?_cons_succ, List.set_cons_zero, List.set_cons_succ, dSub_int, dFdiv_int, dMod_int, dLt_int, dLe_int, dGt_int, dGe_int, dAddI_int, dSubI_int, dIsN_non, isN, dAdd_int, ll0, ll1, ll2, ll3, ll4, ll5, ll6, ll7, ll8, ll9, ll10, ll11, ll12, ll13, ll14, ll15, ll16, ll17, ll18, ll19, ll20, ll21, ll22, ll23, ll24, ll25, ll26, ll27, ll28, ll29, ll30, ll31, ll32, ll33, ll34, ll35, ll36, ll37, ll38, ll39, ll40, Nat.reduceSub, Nat.reduceAdd, Nat.reduceEqDiff, if_true, if_false, ifp_t, ifp_f, reduceIte, Bool.true_eq_false, Bool.false_eq_true, Option.map_some, Option.map_none, Option.bind_some, Option.bind_none, bLen_tup, h1, hix]
theorem close_law {d : D} (h : low 0 d = true) (S' : Sto) : ∃ S'', close [] d S' = .ok d S'' := by
  unfold close
  split
  · exact ⟨_, rfl⟩
  · rw [if_pos ⟨⟨Nat.zero_le _, fun k o hk _ => absurd hk (Nat.not_lt_zero _)⟩, h⟩]
    exact ⟨_, rfl⟩
/-- a law's function by its body -/
theorem law_by {n : Nat} {B : Ev → Sto → SR} (h : ∀ ns : List Int, ns.length ≤ 63 → (∀ z ∈ ns, Builtin.Int.intBits z ≤ 1048576) → ∃ S', B (startD n [.kl (ns.map D.int)]) [] = .rt (.bl true) S') : LawOk (fnC close n 1 B) := by
  intro ns hl hb
  obtain ⟨S', e⟩ := h ns hl hb
  unfold fnC
  rw [if_pos (show [D.kl (ns.map D.int)].length = 1 from rfl), e]
  exact close_law rfl S'
end DL
namespace DL
open PySem PySem.Spec L2
open PyProof.Rows hiding St
def rSum2 (K : PySem.W.Frag) : List V → Hp → VK → Prop := fun vs H Q => ∃ (a : Addr) (ns : List Int), vs = [V.ref a] ∧ (SqL K H a (ns.map V.int) ∨ SqT K H a (ns.map V.int)) ∧ Q (.int ns.sum) H
theorem cr_sum2 {X : Cx} (hc : X.calm = true) : CallR X (.builtin "sum") (rSum2 X.K) := by
  intro pins s σ H vs us Q I r h
  obtain ⟨a, ns, rfl, hs | hs, q⟩ := h
  · exact cr_sum hc pins s σ H _ us Q I r ⟨a, ns, rfl, hs, q⟩
  · obtain ⟨its, rv, hl, _⟩ := I.tuple hs
    rw [Vals.ref1 r]
    obtain ⟨xs, e⟩ := rv.ints.allInts.items
    have hn : numsOf (intItems xs).toList = ns := by rw [← e]; exact rv.ints.numsOf
    rw [nums_intItems] at hn
    rw [e] at hl
    refine PySem.W.ktm_sumG (I.ok.hd hc) hl fun h' tk t' hk => ?_
    rw [preSum_eq, List.take_of_length_le (by simp), hn]
    exact ⟨.int _, H, I.kept hk, ⟨_, rfl⟩, q⟩
def bSum2 : Fn := fun ds S => match ds with
  | [d] => (match (seqOf S d).bind intsOf with
    | some is => .ok (.int is.sum) S
    | none => .stuck)
  | _ => .stuck
theorem seq_ints {K : PySem.W.Frag} {ι : List Addr} {H : Hp} {S : Sto} {d : D} {v : V} {is : List Int} (s : Sim K ι H S) (r : RepV K ι H d v) (e : (seqOf S d).bind intsOf = some is) : ∃ p, v = .ref p ∧ (SqL K H p (is.map V.int) ∨ SqT K H p (is.map V.int)) := by
  cases h : seqOf S d with
  | none => rw [h] at e; cases e
  | some ds =>
    rw [h] at e
    obtain ⟨p, vs, rfl, q, rl⟩ := seq_at s r h
    rw [intsOf_rep _ _ _ rl e] at q
    exact ⟨p, rfl, q⟩
theorem k_sum2 {K : PySem.W.Frag} : CallK K (rSum2 K) bSum2 := by
  intro W σ ι H S vs ds Q s rl h
  unfold bSum2 at h
  (try unfold ifp at h); split at h
  · obtain ⟨v, rfl, rv⟩ := RepL.one_inv rl
    (try unfold ifp at h); split at h
    · rename_i is hi
      obtain ⟨p, rfl, q⟩ := seq_ints s rv hi
      exact ⟨p, is, rfl, q, h.here s _ int_rep⟩
    · exact h.elim
  · exact h.elim
end DL
namespace DL
open PySem PySem.Spec L2
open PyProof.Rows hiding St
noncomputable def E1__law_ring (ρ : Ev) (S : Sto) : R D :=
  (eCall F__law_pick (aCons (eVar 0) (aCons (eVar 3) aNil))) ρ S
noncomputable def L1__law_ring (ρ : Ev) (S : Sto) : SR :=
  (sSeq (sPar2 8 9 (aCons (eCall F__law_draw (aCons (eVar 0) (aCons (eVar 4) aNil))) (aCons (eOp dSub (eOp dSub (eVar 4) (eCall bSum2 (aCons (eVar 5) aNil))) (eVar 6)) aNil)))
    (sIf (eAnd (eT (eOp dLt (eVar 6) (eC (.int 99)))) (eAnd (eT (eOp dLt (eVar 9) (eC (.int 0)))) (eT (eOp dGt (eOp dIx (eVar 5) (eVar 8)) (eC (.int 0)))))) (sAsg (eOp dSub (eOp dIx (eVar 5) (eVar 8)) (eC (.int 1))) (tSub (eVar 5) (eVar 8))) (sIf (eAnd (eT (eOp dLt (eVar 6) (eC (.int 99)))) (eAnd (eT (eOp dGt (eVar 9) (eC (.int 0)))) (eT (eOp dLt (eOp dIx (eVar 5) (eVar 8)) (eC (.int 5)))))) (sAsg (eOp dAdd (eOp dIx (eVar 5) (eVar 8)) (eC (.int 1))) (tSub (eVar 5) (eVar 8))) sNil))) ρ S
noncomputable def B__law_ring : Ev → Sto → SR :=
  (sSeq (sSet 2 (eFl (aCons (eFl (aCons (eC (.int 0)) (aCons (eC (.int 0)) (aCons (eC (.int 1)) (aCons (eC (.int 2)) aNil))))) (aCons (eFl (aCons (eC (.int 0)) (aCons (eC (.int 0)) (aCons (eC (.int 0)) (aCons (eC (.int 0)) (aCons (eC (.int 0)) (aCons (eC (.int 5)) (aCons (eC (.int 4)) aNil)))))))) (aCons (eFl (aCons (eC (.int 0)) (aCons (eC (.int 1)) (aCons (eC (.int 2)) (aCons (eC (.int 3)) (aCons (eC (.int 4)) (aCons (eC (.int 5)) aNil))))))) (aCons (eFl (aCons (eC (.int 0)) (aCons (eC (.int 0)) (aCons (eC (.int 2)) aNil)))) (aCons (eFl (aCons (eC (.int 0)) (aCons (eC (.int 0)) (aCons (eC (.int 0)) (aCons (eC (.int 1)) aNil))))) aNil)))))))
    (sSeq (sAsg (eTup (aCons (eCall F__law_pick (aCons (eVar 0) (aCons (eOp dAdd (eVar 2) (eFl (aCons (eFl (aCons (eC (.int 1)) (aCons (eC (.int 1)) (aCons (eC (.int 1)) (aCons (eC (.int 0)) (aCons (eC (.int 2)) aNil)))))) (aCons (eFl (aCons (eC (.int 2)) aNil)) aNil)))) aNil))) (aCons (eOp dAdd (eC (.int 1)) (eCall F__law_draw (aCons (eVar 0) (aCons (eVar 1) aNil)))) aNil))) (tTup 2 (tCons (tN 3) (tCons (tN 4) tNil))))
    (sSeq (sSet 5 (eLc finLoc (iRange1 (aCons (eVar 4) aNil)) (tN 10) [10] cYes E1__law_ring))
    (sSeq (sSet 6 (eOp dIx (eFl (aCons (eC (.int 99)) (aCons (eOp dAdd (eC (.int 1)) (eCall F__law_draw (aCons (eVar 0) (aCons (eC (.int 3)) aNil)))) (aCons (eOp dSub (eC (.int 0)) (eCall F__law_draw (aCons (eVar 0) (aCons (eC (.int 3)) aNil)))) aNil)))) (eCall F__law_draw (aCons (eVar 0) (aCons (eC (.int 3)) aNil)))))
    (sSeq (sFor (iRange1 (aCons (eOp dMul (eC (.int 5)) (eVar 4)) aNil)) (tN 7) L1__law_ring sNil)
    (sRet (eCall bTuple (aCons (eVar 5) aNil))))))))
noncomputable def F__law_ring : Fn := fnC close 11 2 B__law_ring
noncomputable def L1__law_missing (ρ : Ev) (S : Sto) : SR :=
  (sSeq (sIf (eT (eOp dLt (eVar 1) (eVar 3))) (sSeq (sSet 2 (eOp dSub (eOp dAdd (eVar 2) (eVar 3)) (eVar 1)))
    (sSet 1 (eVar 3))) sNil)
    (sSet 1 (eOp dAdd (eOp dSub (eVar 1) (eVar 3)) (eC (.int 1))))) ρ S
noncomputable def B__law_missing : Ev → Sto → SR :=
  (sSeq (sAsg (eTup (aCons (eC (.int 0)) (aCons (eC (.int 0)) aNil))) (tTup 2 (tCons (tN 1) (tCons (tN 2) tNil))))
    (sSeq (sFor (iSeq (eVar 0)) (tN 3) L1__law_missing sNil)
    (sRet (eFl (aCons (eVar 2) (aCons (eVar 1) aNil))))))
noncomputable def F__law_missing : Fn := fnC close 4 1 B__law_missing
noncomputable def B__law_from : Ev → Sto → SR :=
  (sRet (eOp dAdd (eSl mkFl (eVar 0) (oSome (eVar 1)) oNone) (eSl mkFl (eVar 0) oNone (oSome (eVar 1)))))
noncomputable def F__law_from : Fn := fnC close 2 2 B__law_from
noncomputable def E1__law_begins (ρ : Ev) (S : Sto) : R D :=
  (eVar 1) ρ S
noncomputable def Q1__law_begins (ρ : Ev) (S : Sto) : R Bool :=
  (eT (eOp (dEq false) (eOp dIx (eCall F__law_missing (aCons (eCall F__law_from (aCons (eVar 0) (aCons (eVar 1) aNil))) aNil)) (eC (.int 0))) (eC (.int 0)))) ρ S
noncomputable def B__law_begins : Ev → Sto → SR :=
  (sRet (eLc finFl (iRange1 (aCons (eCall bLen (aCons (eVar 0) aNil)) aNil)) (tN 1) [1] Q1__law_begins E1__law_begins))
noncomputable def F__law_begins : Fn := fnC close 2 1 B__law_begins
noncomputable def L1_heights_of (ρ : Ev) (S : Sto) : SR :=
  (sSeq (sAug 2 dAddI (eOp dSub (eC (.int 1)) (eVar 3)))
    (sExp (eMt isLst mAppend (eVar 1) (aCons (eVar 2) aNil)))) ρ S
noncomputable def B_heights_of : Ev → Sto → SR :=
  (sSeq (sSet 1 (eLoc aNil))
    (sSeq (sSet 2 (eC (.int 0)))
    (sSeq (sFor (iSeq (eVar 0)) (tN 3) L1_heights_of sNil)
    (sRet (eCall bTuple (aCons (eVar 1) aNil))))))
noncomputable def F_heights_of : Fn := fnC close 4 1 B_heights_of
noncomputable def B_need_of : Ev → Sto → SR :=
  (sRet (eOp dSub (eC (.int 1)) (eCall bMin (aCons (eOp dAdd (eFl (aCons (eC (.int 1)) aNil)) (eCall (bList mkFl) (aCons (eCall F_heights_of (aCons (eVar 0) aNil)) aNil))) aNil))))
noncomputable def F_need_of : Fn := fnC close 1 1 B_need_of
noncomputable def B_is_integer : Ev → Sto → SR :=
  (sRet (eAndV (eCall bIsi (aCons (eVar 0) (aCons (eC (.ty "int")) aNil))) (eAndV (eNotV (eCall bIsi (aCons (eVar 0) (aCons (eC (.ty "bool")) aNil)))) (eChain dLe dLe (eVar 1) (eVar 0) (eVar 2)))))
noncomputable def F_is_integer : Fn := fnC close 3 3 B_is_integer
theorem eLc_strmLoc {src : Ev → Sto → R Src} {T : Tg} {vs : List Nat} {f : Ev → Sto → R D} {ρ : Ev} {S S0 : Sto} {n : Nat} {rest : Sto} (ds : List D) (ρd : D → Ev) (cost : Nat) (P : D → Prop) (hs : src ρ S0 = .ok (ds, yes) S) (hS : Strm S n rest)
    (hT : ∀ d ∈ ds, ∀ S', T d (wipeD ρ vs) S' = some (ρd d, S')) (hf : ∀ d ∈ ds, ∀ S' m l, m + cost ≤ n + ds.length * cost → Strm S' m l → ∃ y S'', f (ρd d) S' = .ok y S'' ∧ P y ∧ Strm S'' (m + cost) l) (hl : ds.length ≤ sizeLine) :
    ∃ ys S', eLc finLoc src T vs cYes f ρ S0 = .ok (.loc (rest.length + 2)) S' ∧ ys.length = ds.length ∧ (∀ y ∈ ys, P y) ∧ Strm S' (n + ds.length * cost) (rest ++ [.lst ys]) := by
  obtain ⟨ys, S', h1, h2, h3, h4⟩ := compD_strm (T := T) (f := f) (ρ := wipeD ρ vs) (rest := rest) ρd cost P ds [] (S ++ [.lst []]) n (hS.app _) hT hf (by simpa using hl)
  refine ⟨ys, S', ?_, h2, h3, by simpa using h4⟩
  unfold eLc
  rw [hs]
  show (match compD yes T cYes f S.length (wipeD ρ vs) ds (S ++ [Ob.lst []]) with
    | some S2 => finLoc S S2
    | none => .stuck) = _
  rw [← hS.len] at h1
  rw [h1, ← hS.len]
  rfl
theorem ints_of : ∀ {ys : List D} {Q : Int → Prop}, (∀ y ∈ ys, ∃ i, y = .int i ∧ Q i) → ∃ is : List Int, ys = is.map D.int ∧ ∀ i ∈ is, Q i
  | [], _, _ => ⟨[], rfl, by simp⟩
  | y :: ys, Q, h => by
    obtain ⟨e, rfl, he⟩ := h y List.mem_cons_self
    obtain ⟨es, rfl, hes⟩ := ints_of fun z hz => h z (List.mem_cons_of_mem _ hz)
    exact ⟨e :: es, rfl, fun x hx => by
      rcases List.mem_cons.mp hx with rfl | hx
      · exact he
      · exact hes x hx⟩
theorem bSum2_loc {S : Sto} {n : Nat} {l : List Int} (h : getQ S n = some (l.map D.int)) : bSum2 [.loc n] S = .ok (.int l.sum) S := by
  unfold bSum2
  simp only [show seqOf S (.loc n) = some (l.map D.int) from h, Option.bind_some, intsOf_map]
theorem bTuple_loc {S : Sto} {n : Nat} {l : List D} (h : getQ S n = some l) : bTuple [.loc n] S = .ok (.tup l) S := by
  unfold bTuple
  simp only [show seqOf S (.loc n) = some l from h]
theorem dIx_locI {S : Sto} {n : Nat} {l : List Int} {i : Int} (h : getQ S n = some (l.map D.int)) (h0 : 0 ≤ i) (h1 : i < l.length) : dIx (.loc n) (.int i) S = .ok (.int (l[i.toNat]'(by omega))) S := by
  refine dIx_loc h ?_
  rw [atI_nn h0 (by simpa using h1), List.getElem?_map, List.getElem?_eq_getElem (by omega)]; rfl
theorem dSet_locI {S : Sto} {n : Nat} {l : List Int} {i v : Int} (h : getL S n = some (l.map D.int)) (h0 : 0 ≤ i) (h1 : i < l.length) : dSet (.loc n) (.int i) (.int v) S = some (S.set n (.lst ((l.set i.toNat v).map D.int))) := by
  unfold dSet
  simp only [h, Option.bind_some, ixN, List.length_map]
  rw [if_pos h0, if_pos h1]
  simp [List.map_set]
def Arity (t : Int) : Prop := 0 ≤ t ∧ t ≤ 5
theorem ring_step {S : Sto} {n : Nat} {rest : Sto} {toks : List Int} {size goal : Int} (h : Strm S n (rest ++ [.lst (toks.map D.int)])) (hl : (toks.length : Int) = size) (ht : ∀ t ∈ toks, Arity t) (hs : 0 < size) (hs2 : size < 2 ^ 50) (hn : n < 2 ^ 60) (x1 x2 x3 x7 x8 x9 x10 : Option D) :
    ∃ (toks' : List Int) (y8 y9 : Option D) (S' : Sto), L1__law_ring [some (.loc 1), x1, x2, x3, some (.int size), some (.loc (rest.length + 2)), some (.int goal), x7, x8, x9, x10] S = .nx [some (.loc 1), x1, x2, x3, some (.int size), some (.loc (rest.length + 2)), some (.int goal), x7, y8, y9, x10] S' ∧
      Strm S' (n + 1) (rest ++ [.lst (toks'.map D.int)]) ∧ (toks'.length : Int) = size ∧ ∀ t ∈ toks', Arity t := by
  obtain ⟨r, S1, r1, r2, r3, s1⟩ := draw_ok h hs (log2_small 50 (by omega) (by decide) (by decide)) hn
  have rl : r < toks.length := by omega
  have q1 := s1.getQ_end
  have sm : bSum2 [.loc (rest.length + 2)] S1 = .ok (.int toks.sum) S1 := bSum2_loc q1
  have ix : dIx (.loc (rest.length + 2)) (.int r) S1 = .ok (.int (toks[r.toNat]'(by omega))) S1 := dIx_locI q1 r2 rl
  have tm : Arity (toks[r.toNat]'(by omega)) := ht _ (List.getElem_mem _)
  generalize toks[r.toNat]'(by omega) = t at ix tm
  have st : ∀ v, dSet (.loc (rest.length + 2)) (.int r) (.int v) S1 = some (S1.set (rest.length + 2) (.lst ((toks.set r.toNat v).map D.int))) := fun v => dSet_locI s1.getL_end r2 rl
  have put : ∀ v, Arity v → Strm (S1.set (rest.length + 2) (.lst ((toks.set r.toNat v).map D.int))) (n + 1) (rest ++ [.lst ((toks.set r.toNat v).map D.int)]) ∧ ((toks.set r.toNat v).length : Int) = size ∧ ∀ t ∈ toks.set r.toNat v, Arity t := fun v hv => ⟨s1.set_end _, by simpa using hl, fun t h => by
    rcases List.mem_or_eq_of_mem_set h with h | rfl
    · exact ht t h
    · exact hv⟩
  have keep : Strm S1 (n + 1) (rest ++ [.lst (toks.map D.int)]) ∧ (toks.length : Int) = size ∧ ∀ t ∈ toks, Arity t := ⟨s1, hl, ht⟩
  generalize ho : size - toks.sum - goal = over
  by_cases hg : goal < 99
  · by_cases h1 : over < 0
    · have h2 : ¬ 0 < over := by omega
      by_cases h3 : 0 < t
      · refine ⟨toks.set r.toNat (t - 1), some (.int r), some (.int over), _, ?_, put (t - 1) ⟨by omega, by have := tm.2; omega⟩⟩
        simp only [eVar, eC, eOp, eT, eAnd, eOr, eNot, eIf, eAndV, eOrV, eNotV, eCall, aNil, aCons, aStar, sOf, eTup, eFl, eLoc, eSl, oNone, oSome, iOf, eNeg, eChain, eMt, bOf, List.lookup, R.bind_ok, R.bind_er, R.bind_stuck, R.toS_ok, R.toS_er, R.toS_stuck, SR.next_nx, SR.next_rt, SR.next_er, SR.next_bk, SR.next_ct, SR.next_stuck, sNil, sSeq, sBrk, sCnt, sExp, sRet, sRetN, sIf, sSet, sAsg, sAug, sPar2, sPar3, tN, DL.tTup, DL.tNil, DL.tCons, DL.tSub, iSeq, srcOf, iRange1, iRange2, sFor, startD, List.map_cons, List.map_nil, List.length_cons, List.length_nil, List.replicate, List.cons_append, List.nil_append, List.getElem?_cons_zero, List.getElem?_cons_succ, List.set_cons_zero, List.set_cons_succ, dSub_int, dFdiv_int, dMod_int, dLt_int, dLe_int, dGt_int, dGe_int, dAddI_int, dSubI_int, dIsN_non, isN, dAdd_int, ll0, ll1, ll2, ll3, ll4, ll5, ll6, ll7, ll8, ll9, ll10, ll11, ll12, ll13, ll14, ll15, ll16, ll17, ll18, ll19, ll20, ll21, ll22, ll23, ll24, ll25, ll26, ll27, ll28, ll29, ll30, ll31, ll32, ll33, ll34, ll35, ll36, ll37, ll38, ll39, ll40, Nat.reduceSub, Nat.reduceAdd, Nat.reduceEqDiff, if_true, if_false, ifp_t, ifp_f, reduceIte, Bool.true_eq_false, Bool.false_eq_true, Option.map_some, Option.map_none, Option.bind_some, Option.bind_none, L1__law_ring, r1, sm, ix, st, hg, h1, h3, decide_true, ho]
      · refine ⟨toks, some (.int r), some (.int over), _, ?_, keep⟩
        simp only [eVar, eC, eOp, eT, eAnd, eOr, eNot, eIf, eAndV, eOrV, eNotV, eCall, aNil, aCons, aStar, sOf, eTup, eFl, eLoc, eSl, oNone, oSome, iOf, eNeg, eChain, eMt, bOf, List.lookup, R.bind_ok, R.bind_er, R.bind_stuck, R.toS_ok, R.toS_er, R.toS_stuck, SR.next_nx, SR.next_rt, SR.next_er, SR.next_bk, SR.next_ct, SR.next_stuck, sNil, sSeq, sBrk, sCnt, sExp, sRet, sRetN, sIf, sSet, sAsg, sAug, sPar2, sPar3, tN, DL.tTup, DL.tNil, DL.tCons, DL.tSub, iSeq, srcOf, iRange1, iRange2, sFor, startD, List.map_cons, List.map_nil, List.length_cons, List.length_nil, List.replicate, List.cons_append, List.nil_append, List.getElem?_cons_zero, List.getElem?_cons_succ, List.set_cons_zero, List.set_cons_succ, dSub_int, dFdiv_int, dMod_int, dLt_int, dLe_int, dGt_int, dGe_int, dAddI_int, dSubI_int, dIsN_non, isN, dAdd_int, ll0, ll1, ll2, ll3, ll4, ll5, ll6, ll7, ll8, ll9, ll10, ll11, ll12, ll13, ll14, ll15, ll16, ll17, ll18, ll19, ll20, ll21, ll22, ll23, ll24, ll25, ll26, ll27, ll28, ll29, ll30, ll31, ll32, ll33, ll34, ll35, ll36, ll37, ll38, ll39, ll40, Nat.reduceSub, Nat.reduceAdd, Nat.reduceEqDiff, if_true, if_false, ifp_t, ifp_f, reduceIte, Bool.true_eq_false, Bool.false_eq_true, Option.map_some, Option.map_none, Option.bind_some, Option.bind_none, L1__law_ring, r1, sm, ix, st, hg, h1, h2, h3, decide_true, decide_false, ho]
    · by_cases h2 : 0 < over
      · by_cases h3 : t < 5
        · refine ⟨toks.set r.toNat (t + 1), some (.int r), some (.int over), _, ?_, put (t + 1) ⟨by have := tm.1; omega, by omega⟩⟩
          simp only [eVar, eC, eOp, eT, eAnd, eOr, eNot, eIf, eAndV, eOrV, eNotV, eCall, aNil, aCons, aStar, sOf, eTup, eFl, eLoc, eSl, oNone, oSome, iOf, eNeg, eChain, eMt, bOf, List.lookup, R.bind_ok, R.bind_er, R.bind_stuck, R.toS_ok, R.toS_er, R.toS_stuck, SR.next_nx, SR.next_rt, SR.next_er, SR.next_bk, SR.next_ct, SR.next_stuck, sNil, sSeq, sBrk, sCnt, sExp, sRet, sRetN, sIf, sSet, sAsg, sAug, sPar2, sPar3, tN, DL.tTup, DL.tNil, DL.tCons, DL.tSub, iSeq, srcOf, iRange1, iRange2, sFor, startD, List.map_cons, List.map_nil, List.length_cons, List.length_nil, List.replicate, List.cons_append, List.nil_append, List.getElem?_cons_zero, List.getElem?_cons_succ, List.set_cons_zero, List.set_cons_succ, dSub_int, dFdiv_int, dMod_int, dLt_int, dLe_int, dGt_int, dGe_int, dAddI_int, dSubI_int, dIsN_non, isN, dAdd_int, ll0, ll1, ll2, ll3, ll4, ll5, ll6, ll7, ll8, ll9, ll10, ll11, ll12, ll13, ll14, ll15, ll16, ll17, ll18, ll19, ll20, ll21, ll22, ll23, ll24, ll25, ll26, ll27, ll28, ll29, ll30, ll31, ll32, ll33, ll34, ll35, ll36, ll37, ll38, ll39, ll40, Nat.reduceSub, Nat.reduceAdd, Nat.reduceEqDiff, if_true, if_false, ifp_t, ifp_f, reduceIte, Bool.true_eq_false, Bool.false_eq_true, Option.map_some, Option.map_none, Option.bind_some, Option.bind_none, L1__law_ring, r1, sm, ix, st, hg, h1, h2, h3, decide_true, decide_false, ho]
        · refine ⟨toks, some (.int r), some (.int over), _, ?_, keep⟩
          simp only [eVar, eC, eOp, eT, eAnd, eOr, eNot, eIf, eAndV, eOrV, eNotV, eCall, aNil, aCons, aStar, sOf, eTup, eFl, eLoc, eSl, oNone, oSome, iOf, eNeg, eChain, eMt, bOf, List.lookup, R.bind_ok, R.bind_er, R.bind_stuck, R.toS_ok, R.toS_er, R.toS_stuck, SR.next_nx, SR.next_rt, SR.next_er, SR.next_bk, SR.next_ct, SR.next_stuck, sNil, sSeq, sBrk, sCnt, sExp, sRet, sRetN, sIf, sSet, sAsg, sAug, sPar2, sPar3, tN, DL.tTup, DL.tNil, DL.tCons, DL.tSub, iSeq, srcOf, iRange1, iRange2, sFor, startD, List.map_cons, List.map_nil, List.length_cons, List.length_nil, List.replicate, List.cons_append, List.nil_append, List.getElem?_cons_zero, List.getElem?_cons_succ, List.set_cons_zero, List.set_cons_succ, dSub_int, dFdiv_int, dMod_int, dLt_int, dLe_int, dGt_int, dGe_int, dAddI_int, dSubI_int, dIsN_non, isN, dAdd_int, ll0, ll1, ll2, ll3, ll4, ll5, ll6, ll7, ll8, ll9, ll10, ll11, ll12, ll13, ll14, ll15, ll16, ll17, ll18, ll19, ll20, ll21, ll22, ll23, ll24, ll25, ll26, ll27, ll28, ll29, ll30, ll31, ll32, ll33, ll34, ll35, ll36, ll37, ll38, ll39, ll40, Nat.reduceSub, Nat.reduceAdd, Nat.reduceEqDiff, if_true, if_false, ifp_t, ifp_f, reduceIte, Bool.true_eq_false, Bool.false_eq_true, Option.map_some, Option.map_none, Option.bind_some, Option.bind_none, L1__law_ring, r1, sm, ix, st, hg, h1, h2, h3, decide_true, decide_false, ho]
      · refine ⟨toks, some (.int r), some (.int over), _, ?_, keep⟩
        simp only [eVar, eC, eOp, eT, eAnd, eOr, eNot, eIf, eAndV, eOrV, eNotV, eCall, aNil, aCons, aStar, sOf, eTup, eFl, eLoc, eSl, oNone, oSome, iOf, eNeg, eChain, eMt, bOf, List.lookup, R.bind_ok, R.bind_er, R.bind_stuck, R.toS_ok, R.toS_er, R.toS_stuck, SR.next_nx, SR.next_rt, SR.next_er, SR.next_bk, SR.next_ct, SR.next_stuck, sNil, sSeq, sBrk, sCnt, sExp, sRet, sRetN, sIf, sSet, sAsg, sAug, sPar2, sPar3, tN, DL.tTup, DL.tNil, DL.tCons, DL.tSub, iSeq, srcOf, iRange1, iRange2, sFor, startD, List.map_cons, List.map_nil, List.length_cons, List.length_nil, List.replicate, List.cons_append, List.nil_append, List.getElem?_cons_zero, List.getElem?_cons_succ, List.set_cons_zero, List.set_cons_succ, dSub_int, dFdiv_int, dMod_int, dLt_int, dLe_int, dGt_int, dGe_int, dAddI_int, dSubI_int, dIsN_non, isN, dAdd_int, ll0, ll1, ll2, ll3, ll4, ll5, ll6, ll7, ll8, ll9, ll10, ll11, ll12, ll13, ll14, ll15, ll16, ll17, ll18, ll19, ll20, ll21, ll22, ll23, ll24, ll25, ll26, ll27, ll28, ll29, ll30, ll31, ll32, ll33, ll34, ll35, ll36, ll37, ll38, ll39, ll40, Nat.reduceSub, Nat.reduceAdd, Nat.reduceEqDiff, if_true, if_false, ifp_t, ifp_f, reduceIte, Bool.true_eq_false, Bool.false_eq_true, Option.map_some, Option.map_none, Option.bind_some, Option.bind_none, L1__law_ring, r1, sm, ix, st, hg, h1, h2, decide_true, decide_false, ho]
  · refine ⟨toks, some (.int r), some (.int over), _, ?_, keep⟩
    simp only [eVar, eC, eOp, eT, eAnd, eOr, eNot, eIf, eAndV, eOrV, eNotV, eCall, aNil, aCons, aStar, sOf, eTup, eFl, eLoc, eSl, oNone, oSome, iOf, eNeg, eChain, eMt, bOf, List.lookup, R.bind_ok, R.bind_er, R.bind_stuck, R.toS_ok, R.toS_er, R.toS_stuck, SR.next_nx, SR.next_rt, SR.next_er, SR.next_bk, SR.next_ct, SR.next_stuck, sNil, sSeq, sBrk, sCnt, sExp, sRet, sRetN, sIf, sSet, sAsg, sAug, sPar2, sPar3, tN, DL.tTup, DL.tNil, DL.tCons, DL.tSub, iSeq, srcOf, iRange1, iRange2, sFor, startD, List.map_cons, List.map_nil, List.length_cons, List.length_nil, List.replicate, List.cons_append, List.nil_append, List.getElem?_cons_zero, List.getElem?_cons_succ, List.set_cons_zero, List.set_cons_succ, dSub_int, dFdiv_int, dMod_int, dLt_int, dLe_int, dGt_int, dGe_int, dAddI_int, dSubI_int, dIsN_non, isN, dAdd_int, ll0, ll1, ll2, ll3, ll4, ll5, ll6, ll7, ll8, ll9, ll10, ll11, ll12, ll13, ll14, ll15, ll16, ll17, ll18, ll19, ll20, ll21, ll22, ll23, ll24, ll25, ll26, ll27, ll28, ll29, ll30, ll31, ll32, ll33, ll34, ll35, ll36, ll37, ll38, ll39, ll40, Nat.reduceSub, Nat.reduceAdd, Nat.reduceEqDiff, if_true, if_false, ifp_t, ifp_f, reduceIte, Bool.true_eq_false, Bool.false_eq_true, Option.map_some, Option.map_none, Option.bind_some, Option.bind_none, L1__law_ring, r1, sm, ix, st, hg, decide_false, ho]
theorem ring_ok {S : Sto} {n : Nat} {rest : Sto} (h : Strm S n rest) {most : Int} (h0 : 0 < most) (h1 : most ≤ 1000) (hn : n + 7000 < 2 ^ 60) :
    ∃ (toks : List Int) (S' : Sto), F__law_ring [.loc 1, .int most] S = .ok (.tup (toks.map D.int)) S' ∧ toks ≠ [] ∧ (toks.length : Int) ≤ most ∧ (∀ t ∈ toks, Arity t) ∧ Strm S' (n + 7000) rest := by
  obtain ⟨m, S1, m1, m2, s1⟩ := pick_fl h (xs := [.fl ([0, 0, 1, 2].map D.int), .fl ([0, 0, 0, 0, 0, 5, 4].map D.int), .fl ([0, 1, 2, 3, 4, 5].map D.int), .fl ([0, 0, 2].map D.int), .fl ([0, 0, 0, 1].map D.int), .fl ([1, 1, 1, 0, 2].map D.int), .fl ([2].map D.int)]) (by simp) (by simp) (by omega)
  obtain ⟨menu, rfl, me, ml, ma⟩ : ∃ menu : List Int, m = .fl (menu.map D.int) ∧ menu ≠ [] ∧ menu.length ≤ 7 ∧ ∀ t ∈ menu, Arity t := by
    have am : ∀ l : List Int, (l.all fun t => decide (0 ≤ t ∧ t ≤ 5)) = true → ∀ t ∈ l, Arity t := fun l hl t ht => by
      have := List.all_eq_true.mp hl t ht
      simpa [Arity] using this
    simp only [List.mem_cons, List.not_mem_nil, or_false] at m2
    rcases m2 with rfl | rfl | rfl | rfl | rfl | rfl | rfl <;> exact ⟨_, rfl, by simp, by simp, am _ (by decide)⟩
  obtain ⟨z, S2, z1, z2, z3, s2⟩ := draw_ok s1 h0 (log2_small 10 (by omega) (by decide) (by decide)) (by omega)
  obtain ⟨size, hsz⟩ : ∃ size : Nat, 1 + z = (size : Int) := ⟨(1 + z).toNat, by omega⟩
  have hr : ((-(2 ^ 62) : Int) ≤ (size : Int) ∧ (size : Int) < 2 ^ 62) = True := by simp; omega
  have hlen : (rangeD 0 size).length = size := by simp [rangeD]
  have key := eLc_strmLoc (src := iRange1 (aCons (eVar 4) aNil)) (T := tN 10) (vs := [10]) (f := E1__law_ring)
    (ρ := [some (.loc 1), some (.int most), some (.fl [.fl ([0, 0, 1, 2].map D.int), .fl ([0, 0, 0, 0, 0, 5, 4].map D.int), .fl ([0, 1, 2, 3, 4, 5].map D.int), .fl ([0, 0, 2].map D.int), .fl ([0, 0, 0, 1].map D.int)]), some (.fl (menu.map D.int)), some (.int size), none, none, none, none, none, none]) (S := S2) (S0 := S2) (n := n + 1 + 1) (rest := rest)
    (rangeD 0 size) (fun d => [some (.loc 1), some (.int most), some (.fl [.fl ([0, 0, 1, 2].map D.int), .fl ([0, 0, 0, 0, 0, 5, 4].map D.int), .fl ([0, 1, 2, 3, 4, 5].map D.int), .fl ([0, 0, 2].map D.int), .fl ([0, 0, 0, 1].map D.int)]), some (.fl (menu.map D.int)), some (.int size), none, none, none, none, none, some d]) 1 (fun y => ∃ i, y = .int i ∧ Arity i) ?_ s2 ?_ ?_ (by rw [hlen]; exact Nat.le_trans (show size ≤ 1000 by omega) (by decide))
  · obtain ⟨ys, S3, e1, e2, e3, s3⟩ := key
    obtain ⟨toks, rfl, ht⟩ := ints_of e3
    rw [hlen] at e2 s3
    rw [List.length_map] at e2
    obtain ⟨a, S4, a1, a2, a3, s4⟩ := draw_ok s3 (m := 3) (by decide) (by decide) (by omega)
    obtain ⟨b, S5, b1, b2, b3, s5⟩ := draw_ok s4 (m := 3) (by decide) (by decide) (by omega)
    obtain ⟨c, S6, c1, c2, c3, s6⟩ := draw_ok s5 (m := 3) (by decide) (by decide) (by omega)
    obtain ⟨goal, hgoal⟩ : ∃ goal : Int, ∀ S, dIx (.fl [.int 99, .int (1 + a), .int (0 - b)]) (.int c) S = .ok (.int goal) S := by
      have : c = 0 ∨ c = 1 ∨ c = 2 := by omega
      rcases this with rfl | rfl | rfl
      · exact ⟨99, fun S => rfl⟩
      · exact ⟨1 + a, fun S => rfl⟩
      · exact ⟨0 - b, fun S => rfl⟩
    have key2 := forD_all (T := tN 7) (B := L1__law_ring) (Z := sNil) (fun i ρ S => (∃ x7 x8 x9, ρ = [some (.loc 1), some (.int most), some (.fl [.fl ([0, 0, 1, 2].map D.int), .fl ([0, 0, 0, 0, 0, 5, 4].map D.int), .fl ([0, 1, 2, 3, 4, 5].map D.int), .fl ([0, 0, 2].map D.int), .fl ([0, 0, 0, 1].map D.int)]), some (.fl (menu.map D.int)), some (.int size), some (.loc (rest.length + 2)), some (.int goal), x7, x8, x9, none]) ∧
        ∃ toks : List Int, Strm S (n + 1 + 1 + size * 1 + 1 + 1 + 1 + i) (rest ++ [.lst (toks.map D.int)]) ∧ (toks.length : Int) = size ∧ ∀ t ∈ toks, Arity t) (rangeD 0 (5 * size)) 0
      [some (.loc 1), some (.int most), some (.fl [.fl ([0, 0, 1, 2].map D.int), .fl ([0, 0, 0, 0, 0, 5, 4].map D.int), .fl ([0, 1, 2, 3, 4, 5].map D.int), .fl ([0, 0, 2].map D.int), .fl ([0, 0, 0, 1].map D.int)]), some (.fl (menu.map D.int)), some (.int size), some (.loc (rest.length + 2)), some (.int goal), none, none, none, none] S6
      ⟨⟨none, none, none, rfl⟩, toks, s6, by omega, ht⟩ ?_
    · obtain ⟨ρ', S7, ⟨⟨x7, x8, x9, rfl⟩, toks', s7, l7, t7⟩, hf⟩ := key2
      have hl5 : (rangeD 0 (5 * size)).length = 5 * size := by simp [rangeD]
      rw [hl5] at s7
      obtain ⟨q1, q2⟩ := h.trunc s7
      refine ⟨toks', S7.take S.length, ?_, ?_, by omega, t7, q2.mono (by omega)⟩
      · unfold F__law_ring fnC
        rw [if_pos (show [D.loc 1, D.int most].length = 2 from rfl)]
        have hst : startD 11 [D.loc 1, D.int most] = [some (.loc 1), some (.int most), none, none, none, none, none, none, none, none, none] := rfl
        rw [hst]
        have tp : bTuple [.loc (rest.length + 2)] S7 = .ok (.tup (toks'.map D.int)) S7 := bTuple_loc s7.getQ_end
        have hadd : ∀ S, dAdd (.fl [.fl [.int 0, .int 0, .int 1, .int 2], .fl [.int 0, .int 0, .int 0, .int 0, .int 0, .int 5, .int 4], .fl [.int 0, .int 1, .int 2, .int 3, .int 4, .int 5], .fl [.int 0, .int 0, .int 2], .fl [.int 0, .int 0, .int 0, .int 1]]) (.fl [.fl [.int 1, .int 1, .int 1, .int 0, .int 2], .fl [.int 2]]) S
            = .ok (.fl [.fl ([0, 0, 1, 2].map D.int), .fl ([0, 0, 0, 0, 0, 5, 4].map D.int), .fl ([0, 1, 2, 3, 4, 5].map D.int), .fl ([0, 0, 2].map D.int), .fl ([0, 0, 0, 1].map D.int), .fl ([1, 1, 1, 0, 2].map D.int), .fl ([2].map D.int)]) S := fun S => ifp_pos (show 5 + 2 ≤ sizeLine by decide)
        have hmul : ∀ S, dMul (.int 5) (.int (size : Int)) S = .ok (.int (5 * (size : Int))) S := fun S => mul_small (by omega) S
        have hr5 : ((-(2 ^ 62) : Int) ≤ 5 * (size : Int) ∧ 5 * (size : Int) < 2 ^ 62) = True := by simp; omega
        have ht5 : (5 * (size : Int)).toNat = 5 * size := by omega
        have e1' := e1
        simp only [List.map_cons, List.map_nil] at e1' hf m1 hadd
        have hB : B__law_ring [some (.loc 1), some (.int most), none, none, none, none, none, none, none, none, none] S = .rt (.tup (toks'.map D.int)) S7 := by
          unfold B__law_ring
          simp only [eVar, eC, eOp, eT, eAnd, eOr, eNot, eIf, eAndV, eOrV, eNotV, eCall, aNil, aCons, aStar, sOf, eTup, eFl, eLoc, eSl, oNone, oSome, iOf, eNeg, eChain, eMt, bOf, List.lookup, R.bind_ok, R.bind_er, R.bind_stuck, R.toS_ok, R.toS_er, R.toS_stuck, SR.next_nx, SR.next_rt, SR.next_er, SR.next_bk, SR.next_ct, SR.next_stuck, sNil, sSeq, sBrk, sCnt, sExp, sRet, sRetN, sIf, sSet, sAsg, sAug, sPar2, sPar3, tN, DL.tTup, DL.tNil, DL.tCons, DL.tSub, iSeq, srcOf, iRange1, iRange2, sFor, startD, List.map_cons, List.map_nil, List.length_cons, List.length_nil, List.replicate, List.cons_append, List.nil_append, List.getElem?_cons_zero, List.getElem?_cons_succ, List.set_cons_zero, List.set_cons_succ, dSub_int, dFdiv_int, dMod_int, dLt_int, dLe_int, dGt_int, dGe_int, dAddI_int, dSubI_int, dIsN_non, isN, dAdd_int, ll0, ll1, ll2, ll3, ll4, ll5, ll6, ll7, ll8, ll9, ll10, ll11, ll12, ll13, ll14, ll15, ll16, ll17, ll18, ll19, ll20, ll21, ll22, ll23, ll24, ll25, ll26, ll27, ll28, ll29, ll30, ll31, ll32, ll33, ll34, ll35, ll36, ll37, ll38, ll39, ll40, Nat.reduceSub, Nat.reduceAdd, Nat.reduceEqDiff, if_true, if_false, ifp_t, ifp_f, reduceIte, Bool.true_eq_false, Bool.false_eq_true, Option.map_some, Option.map_none, Option.bind_some, Option.bind_none, hadd, m1, z1, hsz, e1', a1, b1, c1, hgoal, hmul, hr5, ht5, hf, tp]
        rw [hB]
        show close S (.tup (toks'.map D.int)) S7 = _
        unfold close
        rw [if_neg (by rw [s7.len, h.len]; simp), if_pos ⟨q1, by simp [low, lowL_ints]⟩]
      · intro hc; rw [hc] at l7; simp at l7; omega
    · rintro j d ρ S hj ⟨⟨x7, x8, x9, rfl⟩, tk, sj, lj, tj⟩
      obtain ⟨hj, rfl⟩ := rangeD_get hj
      obtain ⟨toks', y8, y9, S', g1, g2, g3, g4⟩ := ring_step sj lj tj (by omega) (by omega) (by omega) (some (.int most)) _ (some (.fl (menu.map D.int))) (some (.int (0 + (j : Int)))) x8 x9 none
      exact ⟨_, _, _, S', rfl, .inl g1, ⟨_, _, _, rfl⟩, toks', g2.mono (by omega), g3, g4⟩
  · simp only [eVar, eC, eOp, eT, eAnd, eOr, eNot, eIf, eAndV, eOrV, eNotV, eCall, aNil, aCons, aStar, sOf, eTup, eFl, eLoc, eSl, oNone, oSome, iOf, eNeg, eChain, eMt, bOf, List.lookup, R.bind_ok, R.bind_er, R.bind_stuck, R.toS_ok, R.toS_er, R.toS_stuck, SR.next_nx, SR.next_rt, SR.next_er, SR.next_bk, SR.next_ct, SR.next_stuck, sNil, sSeq, sBrk, sCnt, sExp, sRet, sRetN, sIf, sSet, sAsg, sAug, sPar2, sPar3, tN, DL.tTup, DL.tNil, DL.tCons, DL.tSub, iSeq, srcOf, iRange1, iRange2, sFor, startD, List.map_cons, List.map_nil, List.length_cons, List.length_nil, List.replicate, List.cons_append, List.nil_append, List.getElem?_cons_zero, List.getElem?_cons_succ, List.set_cons_zero, List.set_cons_succ, dSub_int, dFdiv_int, dMod_int, dLt_int, dLe_int, dGt_int, dGe_int, dAddI_int, dSubI_int, dIsN_non, isN, dAdd_int, ll0, ll1, ll2, ll3, ll4, ll5, ll6, ll7, ll8, ll9, ll10, ll11, ll12, ll13, ll14, ll15, ll16, ll17, ll18, ll19, ll20, ll21, ll22, ll23, ll24, ll25, ll26, ll27, ll28, ll29, ll30, ll31, ll32, ll33, ll34, ll35, ll36, ll37, ll38, ll39, ll40, Nat.reduceSub, Nat.reduceAdd, Nat.reduceEqDiff, if_true, if_false, ifp_t, ifp_f, reduceIte, Bool.true_eq_false, Bool.false_eq_true, Option.map_some, Option.map_none, Option.bind_some, Option.bind_none, hr]
    rfl
  · intro d hd S'; rfl
  · intro d hd S' m l hm hS'
    rw [hlen] at hm
    obtain ⟨y, S'', p1, p2, p3⟩ := pick_fl hS' (xs := menu.map D.int) (by simpa using me) (by simp; omega) (by omega)
    refine ⟨y, S'', ?_, ?_, p3⟩
    · simp only [eVar, eC, eOp, eT, eAnd, eOr, eNot, eIf, eAndV, eOrV, eNotV, eCall, aNil, aCons, aStar, sOf, eTup, eFl, eLoc, eSl, oNone, oSome, iOf, eNeg, eChain, eMt, bOf, List.lookup, R.bind_ok, R.bind_er, R.bind_stuck, R.toS_ok, R.toS_er, R.toS_stuck, SR.next_nx, SR.next_rt, SR.next_er, SR.next_bk, SR.next_ct, SR.next_stuck, sNil, sSeq, sBrk, sCnt, sExp, sRet, sRetN, sIf, sSet, sAsg, sAug, sPar2, sPar3, tN, DL.tTup, DL.tNil, DL.tCons, DL.tSub, iSeq, srcOf, iRange1, iRange2, sFor, startD, List.map_cons, List.map_nil, List.length_cons, List.length_nil, List.replicate, List.cons_append, List.nil_append, List.getElem?_cons_zero, List.getElem?_cons_succ, List.set_cons_zero, List.set_cons_succ, dSub_int, dFdiv_int, dMod_int, dLt_int, dLe_int, dGt_int, dGe_int, dAddI_int, dSubI_int, dIsN_non, isN, dAdd_int, ll0, ll1, ll2, ll3, ll4, ll5, ll6, ll7, ll8, ll9, ll10, ll11, ll12, ll13, ll14, ll15, ll16, ll17, ll18, ll19, ll20, ll21, ll22, ll23, ll24, ll25, ll26, ll27, ll28, ll29, ll30, ll31, ll32, ll33, ll34, ll35, ll36, ll37, ll38, ll39, ll40, Nat.reduceSub, Nat.reduceAdd, Nat.reduceEqDiff, if_true, if_false, ifp_t, ifp_f, reduceIte, Bool.true_eq_false, Bool.false_eq_true, Option.map_some, Option.map_none, Option.bind_some, Option.bind_none, E1__law_ring, p1]
    · obtain ⟨i, hi, rfl⟩ := List.mem_map.mp p2
      exact ⟨i, rfl, ma i hi⟩
end DL
namespace DL
/-- one token read: the height, and what was missing so far -/
def stp (s : Int × Int) (t : Int) : Int × Int := (s.1 + (1 - t), max s.2 (1 - (s.1 + (1 - t))))
def hts : Int → List Int → List Int
  | _, [] => []
  | h, t :: l => (h + (1 - t)) :: hts (h + (1 - t)) l
/-- the need of a row -/
def ne (l : List Int) : Int := (l.foldl stp (0, 0)).2
/-- the height behind a row -/
def ht (l : List Int) : Int := (l.foldl stp (0, 0)).1
theorem stp_fst : ∀ (l : List Int) (s : Int × Int), (l.foldl stp s).1 = s.1 + l.length - l.sum
  | [], s => by simp
  | t :: l, s => by
    rw [List.foldl_cons, stp_fst l]
    simp [stp]; omega
theorem ht_eq (l : List Int) : ht l = l.length - l.sum := by unfold ht; rw [stp_fst]; simp
theorem hts_length : ∀ (l : List Int) (h : Int), (hts h l).length = l.length
  | [], _ => rfl
  | t :: l, h => by simp [hts, hts_length l]
theorem hts_min : ∀ (l : List Int) (h m : Int), (hts h l).foldl min (1 - m) = 1 - (l.foldl stp (h, m)).2
  | [], h, m => rfl
  | t :: l, h, m => by
    have e : min (1 - m) (h + (1 - t)) = 1 - max m (1 - (h + (1 - t))) := by omega
    rw [hts, List.foldl_cons, List.foldl_cons, e, hts_min l]
    rfl
theorem stp_mono : ∀ (l : List Int) (s : Int × Int), s.2 ≤ (l.foldl stp s).2
  | [], s => Int.le_refl _
  | t :: l, s => by
    have := stp_mono l (stp s t)
    rw [List.foldl_cons]
    simp only [stp] at this ⊢
    omega
theorem ne_nn (l : List Int) : 0 ≤ ne l := stp_mono l (0, 0)
def rot {α : Type} (l : List α) (p : Nat) : List α := l.drop p ++ l.take p
theorem rot_length {α : Type} (l : List α) (p : Nat) (h : p ≤ l.length) : (rot l p).length = l.length := by
  unfold rot; simp; omega
theorem rot_get {α : Type} (l : List α) (p k : Nat) (hp : p ≤ l.length) (hk : k < l.length) : (rot l p)[k]? = l[(p + k) % l.length]? := by
  unfold rot
  by_cases h : p + k < l.length
  · rw [List.getElem?_append_left (by simp; omega), List.getElem?_drop, Nat.mod_eq_of_lt h]
  · have e : (p + k) % l.length = p + k - l.length := by
      rw [Nat.mod_eq_sub_mod (by omega), Nat.mod_eq_of_lt (by omega)]
    rw [List.getElem?_append_right (by simp; omega), e, List.getElem?_take, if_pos (by simp; omega)]
    congr 1
    simp; omega
/-- the tokens round and round -/
def tk (l : List Int) (j : Nat) : Int := (l[j % l.length]?).getD 0
/-- the height behind i tokens, round and round -/
def hh (l : List Int) : Nat → Int
  | 0 => 0
  | i + 1 => hh l i + (1 - tk l i)
/-- the places from which nothing is missing -/
def begs (l : List Int) : List Nat := (List.range l.length).filter fun p => decide (ne (rot l p) = 0)
end DL
namespace DL
open PySem PySem.Spec L2
open PyProof.Rows hiding St
def ti (l : List Int) : D := .tup (l.map D.int)
theorem fnC_cut {n m : Nat} {B : Ev → Sto → SR} {ds : List D} {S S' : Sto} {d : D} {l : Sto} (hm : ds.length = m) (h : B (startD n ds) S = .rt d S') (hS : S' = S ++ l) (hl : low S.length d = true) : fnC close n m B ds S = .ok d S := by
  unfold fnC
  rw [if_pos hm, h]
  show close S d S' = _
  subst hS
  unfold close
  split
  · rename_i h; have : l = [] := by simpa using h
    subst this; simp
  · rw [if_pos ⟨Trunc.same _ _, hl⟩]; simp
theorem append_end (S : Sto) (acc : List D) (d : D) (h : acc.length < sizeLine) : mAppend (.loc S.length) [d] (S ++ [.lst acc]) = .ok .non (S ++ [.lst (acc ++ [d])]) := by
  unfold mAppend
  simp only [getL_end]
  rw [ifp_pos h, set_end]
theorem isLst_end (S : Sto) (acc : List D) : isLst (S ++ [.lst acc]) (.loc S.length) = true := by
  unfold isLst
  rw [show lstOf (S ++ [.lst acc]) (.loc S.length) = some acc from getL_end S acc]; rfl
theorem heights_loop (x0 : Option D) (S : Sto) : ∀ (l : List Int) (acc : List Int) (h : Int) (x3 : Option D), acc.length + l.length ≤ sizeLine →
    ∃ y2 y3, forD yes (tN 3) L1_heights_of sNil (l.map D.int) [x0, some (.loc S.length), some (.int h), x3] (S ++ [.lst (acc.map D.int)]) = .nx [x0, some (.loc S.length), y2, y3] (S ++ [.lst ((acc ++ hts h l).map D.int)])
  | [], acc, h, x3, _ => ⟨some (.int h), x3, by rw [List.map_nil, forD_nil trivial, hts, List.append_nil]; rfl⟩
  | t :: l, acc, h, x3, hl => by
    have hl' : acc.length + (l.length + 1) ≤ sizeLine := hl
    obtain ⟨y2, y3, e⟩ := heights_loop x0 S l (acc ++ [h + (1 - t)]) (h + (1 - t)) (some (.int t)) (by simp; omega)
    refine ⟨y2, y3, ?_⟩
    rw [List.map_cons, forD_cons (ρ1 := [x0, some (.loc S.length), some (.int h), some (.int t)]) (S1 := S ++ [.lst (acc.map D.int)]) (ρ2 := [x0, some (.loc S.length), some (.int (h + (1 - t))), some (.int t)]) (S2 := S ++ [.lst ((acc ++ [h + (1 - t)]).map D.int)]) trivial rfl ?_]
    · rw [e, hts]; simp
    · have ap := append_end S (acc.map D.int) (.int (h + (1 - t))) (by rw [List.length_map]; omega)
      simp only [eVar, eC, eOp, eT, eAnd, eOr, eNot, eIf, eAndV, eOrV, eNotV, eCall, aNil, aCons, aStar, sOf, eTup, eFl, eLoc, eSl, oNone, oSome, iOf, eNeg, eChain, eMt, bOf, List.lookup, R.bind_ok, R.bind_er, R.bind_stuck, R.toS_ok, R.toS_er, R.toS_stuck, SR.next_nx, SR.next_rt, SR.next_er, SR.next_bk, SR.next_ct, SR.next_stuck, sNil, sSeq, sBrk, sCnt, sExp, sRet, sRetN, sIf, sSet, sAsg, sAug, sPar2, sPar3, tN, DL.tTup, DL.tNil, DL.tCons, DL.tSub, iSeq, srcOf, iRange1, iRange2, sFor, startD, List.map_cons, List.map_nil, List.length_cons, List.length_nil, List.replicate, List.cons_append, List.nil_append, List.getElem?_cons_zero, List.getElem?_cons_succ, List.set_cons_zero, List.set_cons_succ, dSub_int, dFdiv_int, dMod_int, dLt_int, dLe_int, dGt_int, dGe_int, dAddI_int, dSubI_int, dIsN_non, isN, dAdd_int, ll0, ll1, ll2, ll3, ll4, ll5, ll6, ll7, ll8, ll9, ll10, ll11, ll12, ll13, ll14, ll15, ll16, ll17, ll18, ll19, ll20, ll21, ll22, ll23, ll24, ll25, ll26, ll27, ll28, ll29, ll30, ll31, ll32, ll33, ll34, ll35, ll36, ll37, ll38, ll39, ll40, Nat.reduceSub, Nat.reduceAdd, Nat.reduceEqDiff, if_true, if_false, ifp_t, ifp_f, reduceIte, Bool.true_eq_false, Bool.false_eq_true, Option.map_some, Option.map_none, Option.bind_some, Option.bind_none, L1_heights_of, isLst_end, ap]
      simp
theorem heights_ok (l : List Int) (hl : l.length ≤ sizeLine) (S : Sto) : F_heights_of [ti l] S = .ok (ti (hts 0 l)) S := by
  obtain ⟨y2, y3, h⟩ := heights_loop (some (ti l)) S l [] 0 none (by simpa using hl)
  refine fnC_cut (l := [.lst ((hts 0 l).map D.int)]) (S' := S ++ [.lst ((hts 0 l).map D.int)]) rfl ?_ rfl (by simp [ti, low, lowL_ints])
  unfold B_heights_of
  have tp : bTuple [.loc S.length] (S ++ [.lst ((hts 0 l).map D.int)]) = .ok (ti (hts 0 l)) (S ++ [.lst ((hts 0 l).map D.int)]) := bTuple_loc (getQ_end _ _)
  simp only [List.nil_append, List.map_nil] at h
  have e0 : ti l = .tup (l.map D.int) := rfl
  rw [e0] at h ⊢
  simp only [eVar, eC, eOp, eT, eAnd, eOr, eNot, eIf, eAndV, eOrV, eNotV, eCall, aNil, aCons, aStar, sOf, eTup, eFl, eLoc, eSl, oNone, oSome, iOf, eNeg, eChain, eMt, bOf, List.lookup, R.bind_ok, R.bind_er, R.bind_stuck, R.toS_ok, R.toS_er, R.toS_stuck, SR.next_nx, SR.next_rt, SR.next_er, SR.next_bk, SR.next_ct, SR.next_stuck, sNil, sSeq, sBrk, sCnt, sExp, sRet, sRetN, sIf, sSet, sAsg, sAug, sPar2, sPar3, tN, DL.tTup, DL.tNil, DL.tCons, DL.tSub, iSeq, srcOf, iRange1, iRange2, sFor, startD, List.map_cons, List.map_nil, List.length_cons, List.length_nil, List.replicate, List.cons_append, List.nil_append, List.getElem?_cons_zero, List.getElem?_cons_succ, List.set_cons_zero, List.set_cons_succ, dSub_int, dFdiv_int, dMod_int, dLt_int, dLe_int, dGt_int, dGe_int, dAddI_int, dSubI_int, dIsN_non, isN, dAdd_int, ll0, ll1, ll2, ll3, ll4, ll5, ll6, ll7, ll8, ll9, ll10, ll11, ll12, ll13, ll14, ll15, ll16, ll17, ll18, ll19, ll20, ll21, ll22, ll23, ll24, ll25, ll26, ll27, ll28, ll29, ll30, ll31, ll32, ll33, ll34, ll35, ll36, ll37, ll38, ll39, ll40, Nat.reduceSub, Nat.reduceAdd, Nat.reduceEqDiff, if_true, if_false, ifp_t, ifp_f, reduceIte, Bool.true_eq_false, Bool.false_eq_true, Option.map_some, Option.map_none, Option.bind_some, Option.bind_none, mkLoc, h, tp]
theorem ti_len (l : List Int) (S : Sto) : bLen [ti l] S = .ok (.int l.length) S := by
  show R.ok (D.int ((l.map D.int).length : Nat)) S = _
  rw [List.length_map]
theorem need_of_ok (l : List Int) (hl : l.length < 10 ^ 6) (S : Sto) : F_need_of [ti l] S = .ok (.int (ne l)) S := by
  refine fnC_rt rfl ?_ rfl
  unfold B_need_of
  have hb : ∀ S, bList mkFl [ti (hts 0 l)] S = .ok (.fl ((hts 0 l).map D.int)) S := fun S => rfl
  have ha : ∀ S, dAdd (.fl [.int 1]) (.fl ((hts 0 l).map D.int)) S = .ok (.fl (.int 1 :: (hts 0 l).map D.int)) S := fun S => by
    show ifp ([D.int 1].length + ((hts 0 l).map D.int).length ≤ sizeLine) (R.ok (D.fl ([D.int 1] ++ (hts 0 l).map D.int)) S) .stuck = _
    rw [ifp_pos]; rfl
    rw [List.length_map, hts_length]
    exact Nat.le_trans (show 1 + l.length ≤ 10 ^ 6 by omega) (by decide)
  have hm : ∀ S, bMin [.fl (.int 1 :: (hts 0 l).map D.int)] S = .ok (.int (1 - ne l)) S := fun S => by
    rw [← List.map_cons]
    unfold bMin
    simp only [lstOf, Option.bind_some, intsOf_map]
    rw [if_neg (by simp)]
    show R.ok (D.int ((hts 0 l).foldl min 1)) S = _
    have := hts_min l 0 0
    simp only [Int.sub_zero] at this
    rw [this]; rfl
  simp only [eVar, eC, eOp, eT, eAnd, eOr, eNot, eIf, eAndV, eOrV, eNotV, eCall, aNil, aCons, aStar, sOf, eTup, eFl, eLoc, eSl, oNone, oSome, iOf, eNeg, eChain, eMt, bOf, List.lookup, R.bind_ok, R.bind_er, R.bind_stuck, R.toS_ok, R.toS_er, R.toS_stuck, SR.next_nx, SR.next_rt, SR.next_er, SR.next_bk, SR.next_ct, SR.next_stuck, sNil, sSeq, sBrk, sCnt, sExp, sRet, sRetN, sIf, sSet, sAsg, sAug, sPar2, sPar3, tN, DL.tTup, DL.tNil, DL.tCons, DL.tSub, iSeq, srcOf, iRange1, iRange2, sFor, startD, List.map_cons, List.map_nil, List.length_cons, List.length_nil, List.replicate, List.cons_append, List.nil_append, List.getElem?_cons_zero, List.getElem?_cons_succ, List.set_cons_zero, List.set_cons_succ, dSub_int, dFdiv_int, dMod_int, dLt_int, dLe_int, dGt_int, dGe_int, dAddI_int, dSubI_int, dIsN_non, isN, dAdd_int, ll0, ll1, ll2, ll3, ll4, ll5, ll6, ll7, ll8, ll9, ll10, ll11, ll12, ll13, ll14, ll15, ll16, ll17, ll18, ll19, ll20, ll21, ll22, ll23, ll24, ll25, ll26, ll27, ll28, ll29, ll30, ll31, ll32, ll33, ll34, ll35, ll36, ll37, ll38, ll39, ll40, Nat.reduceSub, Nat.reduceAdd, Nat.reduceEqDiff, if_true, if_false, ifp_t, ifp_f, reduceIte, Bool.true_eq_false, Bool.false_eq_true, Option.map_some, Option.map_none, Option.bind_some, Option.bind_none, heights_ok l (Nat.le_trans (Nat.le_of_lt hl) (by decide)), hb, ha, hm]
  have : 1 - (1 - ne l) = ne l := by omega
  rw [this]
theorem missing_loop (x0 : Option D) : ∀ (l : List Int) (h m : Int) (x3 : Option D) (S : Sto), ∃ y3, forD yes (tN 3) L1__law_missing sNil (l.map D.int) [x0, some (.int (h + m)), some (.int m), x3] S = .nx [x0, some (.int ((l.foldl stp (h, m)).1 + (l.foldl stp (h, m)).2)), some (.int (l.foldl stp (h, m)).2), y3] S
  | [], h, m, x3, S => ⟨x3, forD_nil trivial⟩
  | t :: l, h, m, x3, S => by
    obtain ⟨y3, e⟩ := missing_loop x0 l (h + (1 - t)) (max m (1 - (h + (1 - t)))) (some (.int t)) S
    refine ⟨y3, ?_⟩
    rw [List.map_cons, forD_cons (ρ1 := [x0, some (.int (h + m)), some (.int m), some (.int t)]) (S1 := S) (ρ2 := [x0, some (.int (h + (1 - t) + max m (1 - (h + (1 - t))))), some (.int (max m (1 - (h + (1 - t))))), some (.int t)]) (S2 := S) trivial rfl ?_]
    · exact e
    · by_cases hl : h + m < t
      · simp only [eVar, eC, eOp, eT, eAnd, eOr, eNot, eIf, eAndV, eOrV, eNotV, eCall, aNil, aCons, aStar, sOf, eTup, eFl, eLoc, eSl, oNone, oSome, iOf, eNeg, eChain, eMt, bOf, List.lookup, R.bind_ok, R.bind_er, R.bind_stuck, R.toS_ok, R.toS_er, R.toS_stuck, SR.next_nx, SR.next_rt, SR.next_er, SR.next_bk, SR.next_ct, SR.next_stuck, sNil, sSeq, sBrk, sCnt, sExp, sRet, sRetN, sIf, sSet, sAsg, sAug, sPar2, sPar3, tN, DL.tTup, DL.tNil, DL.tCons, DL.tSub, iSeq, srcOf, iRange1, iRange2, sFor, startD, List.map_cons, List.map_nil, List.length_cons, List.length_nil, List.replicate, List.cons_append, List.nil_append, List.getElem?_cons_zero, List.getElem?_cons_succ, List.set_cons_zero, List.set_cons_succ, dSub_int, dFdiv_int, dMod_int, dLt_int, dLe_int, dGt_int, dGe_int, dAddI_int, dSubI_int, dIsN_non, isN, dAdd_int, ll0, ll1, ll2, ll3, ll4, ll5, ll6, ll7, ll8, ll9, ll10, ll11, ll12, ll13, ll14, ll15, ll16, ll17, ll18, ll19, ll20, ll21, ll22, ll23, ll24, ll25, ll26, ll27, ll28, ll29, ll30, ll31, ll32, ll33, ll34, ll35, ll36, ll37, ll38, ll39, ll40, Nat.reduceSub, Nat.reduceAdd, Nat.reduceEqDiff, if_true, if_false, ifp_t, ifp_f, reduceIte, Bool.true_eq_false, Bool.false_eq_true, Option.map_some, Option.map_none, Option.bind_some, Option.bind_none, L1__law_missing, hl, decide_true]
        simp only [SR.nx.injEq, and_true, List.cons.injEq, Option.some.injEq, D.int.injEq, true_and]
        constructor <;> omega
      · simp only [eVar, eC, eOp, eT, eAnd, eOr, eNot, eIf, eAndV, eOrV, eNotV, eCall, aNil, aCons, aStar, sOf, eTup, eFl, eLoc, eSl, oNone, oSome, iOf, eNeg, eChain, eMt, bOf, List.lookup, R.bind_ok, R.bind_er, R.bind_stuck, R.toS_ok, R.toS_er, R.toS_stuck, SR.next_nx, SR.next_rt, SR.next_er, SR.next_bk, SR.next_ct, SR.next_stuck, sNil, sSeq, sBrk, sCnt, sExp, sRet, sRetN, sIf, sSet, sAsg, sAug, sPar2, sPar3, tN, DL.tTup, DL.tNil, DL.tCons, DL.tSub, iSeq, srcOf, iRange1, iRange2, sFor, startD, List.map_cons, List.map_nil, List.length_cons, List.length_nil, List.replicate, List.cons_append, List.nil_append, List.getElem?_cons_zero, List.getElem?_cons_succ, List.set_cons_zero, List.set_cons_succ, dSub_int, dFdiv_int, dMod_int, dLt_int, dLe_int, dGt_int, dGe_int, dAddI_int, dSubI_int, dIsN_non, isN, dAdd_int, ll0, ll1, ll2, ll3, ll4, ll5, ll6, ll7, ll8, ll9, ll10, ll11, ll12, ll13, ll14, ll15, ll16, ll17, ll18, ll19, ll20, ll21, ll22, ll23, ll24, ll25, ll26, ll27, ll28, ll29, ll30, ll31, ll32, ll33, ll34, ll35, ll36, ll37, ll38, ll39, ll40, Nat.reduceSub, Nat.reduceAdd, Nat.reduceEqDiff, if_true, if_false, ifp_t, ifp_f, reduceIte, Bool.true_eq_false, Bool.false_eq_true, Option.map_some, Option.map_none, Option.bind_some, Option.bind_none, L1__law_missing, hl, decide_false]
        simp only [SR.nx.injEq, and_true, List.cons.injEq, Option.some.injEq, D.int.injEq, true_and]
        constructor <;> omega
theorem missing_ok (l : List Int) (S : Sto) : F__law_missing [ti l] S = .ok (.fl [.int (ne l), .int (ht l + ne l)]) S := by
  obtain ⟨y3, h⟩ := missing_loop (some (ti l)) l 0 0 none S
  refine fnC_rt rfl ?_ rfl
  unfold B__law_missing
  have e0 : ti l = .tup (l.map D.int) := rfl
  rw [e0] at h ⊢
  simp only [Int.add_zero] at h
  simp only [eVar, eC, eOp, eT, eAnd, eOr, eNot, eIf, eAndV, eOrV, eNotV, eCall, aNil, aCons, aStar, sOf, eTup, eFl, eLoc, eSl, oNone, oSome, iOf, eNeg, eChain, eMt, bOf, List.lookup, R.bind_ok, R.bind_er, R.bind_stuck, R.toS_ok, R.toS_er, R.toS_stuck, SR.next_nx, SR.next_rt, SR.next_er, SR.next_bk, SR.next_ct, SR.next_stuck, sNil, sSeq, sBrk, sCnt, sExp, sRet, sRetN, sIf, sSet, sAsg, sAug, sPar2, sPar3, tN, DL.tTup, DL.tNil, DL.tCons, DL.tSub, iSeq, srcOf, iRange1, iRange2, sFor, startD, List.map_cons, List.map_nil, List.length_cons, List.length_nil, List.replicate, List.cons_append, List.nil_append, List.getElem?_cons_zero, List.getElem?_cons_succ, List.set_cons_zero, List.set_cons_succ, dSub_int, dFdiv_int, dMod_int, dLt_int, dLe_int, dGt_int, dGe_int, dAddI_int, dSubI_int, dIsN_non, isN, dAdd_int, ll0, ll1, ll2, ll3, ll4, ll5, ll6, ll7, ll8, ll9, ll10, ll11, ll12, ll13, ll14, ll15, ll16, ll17, ll18, ll19, ll20, ll21, ll22, ll23, ll24, ll25, ll26, ll27, ll28, ll29, ll30, ll31, ll32, ll33, ll34, ll35, ll36, ll37, ll38, ll39, ll40, Nat.reduceSub, Nat.reduceAdd, Nat.reduceEqDiff, if_true, if_false, ifp_t, ifp_f, reduceIte, Bool.true_eq_false, Bool.false_eq_true, Option.map_some, Option.map_none, Option.bind_some, Option.bind_none, h]
  rfl
theorem cut_from {α : Type} (xs : List α) (p : Nat) : cut xs (some (p : Int)) none = xs.drop p := by
  unfold cut
  rw [HT.sIx_nat, HT.sIx_none]
  by_cases h : p ≤ xs.length
  · rw [Nat.min_eq_left h, List.take_of_length_le (by simp)]
  · rw [Nat.min_eq_right (by omega), List.drop_of_length_le (Nat.le_refl _), List.drop_of_length_le (by omega)]; simp
theorem cut_to {α : Type} (xs : List α) (p : Nat) : cut xs none (some (p : Int)) = xs.take p := by
  unfold cut
  rw [HT.sIx_nat, HT.sIx_none]
  simp only [List.drop_zero, Nat.sub_zero]
  by_cases h : p ≤ xs.length
  · rw [Nat.min_eq_left h]
  · rw [Nat.min_eq_right (by omega), List.take_of_length_le (Nat.le_refl _), List.take_of_length_le (by omega)]
theorem sl_from (l : List Int) (p : Nat) (mk : List D → Sto → R D) (S : Sto) : dSl mk (ti l) (some (p : Int)) none S = .ok (ti (l.drop p)) S := by
  show R.ok (D.tup (cut (l.map D.int) (some (p : Int)) none)) S = _
  rw [cut_from, ← List.map_drop]; rfl
theorem sl_to (l : List Int) (p : Nat) (mk : List D → Sto → R D) (S : Sto) : dSl mk (ti l) none (some (p : Int)) S = .ok (ti (l.take p)) S := by
  show R.ok (D.tup (cut (l.map D.int) none (some (p : Int)))) S = _
  rw [cut_to, ← List.map_take]; rfl
theorem add_ti (l m : List Int) (h : l.length + m.length ≤ sizeLine) (S : Sto) : dAdd (ti l) (ti m) S = .ok (ti (l ++ m)) S := by
  show ifp ((l.map D.int).length + (m.map D.int).length ≤ sizeLine) (R.ok (D.tup (l.map D.int ++ m.map D.int)) S) .stuck = _
  rw [ifp_pos (by rw [List.length_map, List.length_map]; exact h), ← List.map_append]; rfl
theorem from_ok (l : List Int) (p : Nat) (hl : l.length < 10 ^ 6) (hp : p ≤ l.length) (S : Sto) : F__law_from [ti l, .int p] S = .ok (ti (rot l p)) S := by
  refine fnC_rt rfl ?_ rfl
  unfold B__law_from
  have ha := add_ti (l.drop p) (l.take p) (by rw [List.length_drop, List.length_take]; exact Nat.le_trans (show l.length - p + min p l.length ≤ 10 ^ 6 by omega) (by decide))
  simp only [eVar, eC, eOp, eT, eAnd, eOr, eNot, eIf, eAndV, eOrV, eNotV, eCall, aNil, aCons, aStar, sOf, eTup, eFl, eLoc, eSl, oNone, oSome, iOf, eNeg, eChain, eMt, bOf, List.lookup, R.bind_ok, R.bind_er, R.bind_stuck, R.toS_ok, R.toS_er, R.toS_stuck, SR.next_nx, SR.next_rt, SR.next_er, SR.next_bk, SR.next_ct, SR.next_stuck, sNil, sSeq, sBrk, sCnt, sExp, sRet, sRetN, sIf, sSet, sAsg, sAug, sPar2, sPar3, tN, DL.tTup, DL.tNil, DL.tCons, DL.tSub, iSeq, srcOf, iRange1, iRange2, sFor, startD, List.map_cons, List.map_nil, List.length_cons, List.length_nil, List.replicate, List.cons_append, List.nil_append, List.getElem?_cons_zero, List.getElem?_cons_succ, List.set_cons_zero, List.set_cons_succ, dSub_int, dFdiv_int, dMod_int, dLt_int, dLe_int, dGt_int, dGe_int, dAddI_int, dSubI_int, dIsN_non, isN, dAdd_int, ll0, ll1, ll2, ll3, ll4, ll5, ll6, ll7, ll8, ll9, ll10, ll11, ll12, ll13, ll14, ll15, ll16, ll17, ll18, ll19, ll20, ll21, ll22, ll23, ll24, ll25, ll26, ll27, ll28, ll29, ll30, ll31, ll32, ll33, ll34, ll35, ll36, ll37, ll38, ll39, ll40, Nat.reduceSub, Nat.reduceAdd, Nat.reduceEqDiff, if_true, if_false, ifp_t, ifp_f, reduceIte, Bool.true_eq_false, Bool.false_eq_true, Option.map_some, Option.map_none, Option.bind_some, Option.bind_none, sl_from, sl_to, ha]
  rfl
/-- a comprehension over range(n) that keeps the numbers of a kind -/
theorem eLc_keep {src : Ev → Sto → R Src} {T : Tg} {vs : List Nat} {c : Ev → Sto → R Bool} {f : Ev → Sto → R D} {ρ : Ev} {S : Sto} (n : Nat) (ρd : D → Ev) (p : Nat → Bool) (hs : src ρ S = .ok (rangeD 0 n, yes) S)
    (h : ∀ k, k < n → ∀ S', T (.int k) (wipeD ρ vs) S' = some (ρd (.int k), S') ∧ c (ρd (.int k)) S' = .ok (p k) S' ∧ f (ρd (.int k)) S' = .ok (.int k) S') (hn : n < 10 ^ 6) :
    eLc finFl src T vs c f ρ S = .ok (.fl (((List.range n).filter p).map fun k : Nat => D.int k)) S := by
  have e0 : rangeD 0 n = (List.range n).map fun k => D.int (k : Nat) := rangeD_nat n
  have := eLc_pure (src := src) (T := T) (vs := vs) (c := c) (f := f) (ρ := ρ) (S := S) (rangeD 0 n) ρd (fun d => match d with | .int i => p i.toNat | _ => false) (fun d => d) hs (fun d hd S' => ?_) (by simp [rangeD]; exact Nat.le_trans (Nat.le_of_lt hn) (by decide)) (fun d hd _ => ?_)
  · rw [this, e0, List.filter_map]
    simp [Function.comp_def]
  · rw [e0] at hd
    obtain ⟨k, hk, rfl⟩ := List.mem_map.mp hd
    obtain ⟨a, b, c⟩ := h k (List.mem_range.mp hk) S'
    exact ⟨a, by simpa using b, fun _ => c⟩
  · rw [e0] at hd
    obtain ⟨k, hk, rfl⟩ := List.mem_map.mp hd
    rfl
def ni (l : List Nat) : List D := l.map fun k : Nat => D.int (k : Int)
theorem begins_ok (l : List Int) (hl : l.length < 10 ^ 6) (S : Sto) : F__law_begins [ti l] S = .ok (.fl (ni (begs l))) S := by
  refine fnC_rt rfl ?_ rfl
  unfold B__law_begins
  have key := eLc_keep (src := iRange1 (aCons (eCall bLen (aCons (eVar 0) aNil)) aNil)) (T := tN 1) (vs := [1]) (c := Q1__law_begins) (f := E1__law_begins) (ρ := [some (ti l), none]) (S := S) l.length (fun d => [some (ti l), some d]) (fun p => decide (ne (rot l p) = 0)) ?_ ?_ hl
  · have hst : startD 2 [ti l] = [some (ti l), none] := rfl
    rw [hst]
    simp only [eVar, eC, eOp, eT, eAnd, eOr, eNot, eIf, eAndV, eOrV, eNotV, eCall, aNil, aCons, aStar, sOf, eTup, eFl, eLoc, eSl, oNone, oSome, iOf, eNeg, eChain, eMt, bOf, List.lookup, R.bind_ok, R.bind_er, R.bind_stuck, R.toS_ok, R.toS_er, R.toS_stuck, SR.next_nx, SR.next_rt, SR.next_er, SR.next_bk, SR.next_ct, SR.next_stuck, sNil, sSeq, sBrk, sCnt, sExp, sRet, sRetN, sIf, sSet, sAsg, sAug, sPar2, sPar3, tN, DL.tTup, DL.tNil, DL.tCons, DL.tSub, iSeq, srcOf, iRange1, iRange2, sFor, startD, List.map_cons, List.map_nil, List.length_cons, List.length_nil, List.replicate, List.cons_append, List.nil_append, List.getElem?_cons_zero, List.getElem?_cons_succ, List.set_cons_zero, List.set_cons_succ, dSub_int, dFdiv_int, dMod_int, dLt_int, dLe_int, dGt_int, dGe_int, dAddI_int, dSubI_int, dIsN_non, isN, dAdd_int, ll0, ll1, ll2, ll3, ll4, ll5, ll6, ll7, ll8, ll9, ll10, ll11, ll12, ll13, ll14, ll15, ll16, ll17, ll18, ll19, ll20, ll21, ll22, ll23, ll24, ll25, ll26, ll27, ll28, ll29, ll30, ll31, ll32, ll33, ll34, ll35, ll36, ll37, ll38, ll39, ll40, Nat.reduceSub, Nat.reduceAdd, Nat.reduceEqDiff, if_true, if_false, ifp_t, ifp_f, reduceIte, Bool.true_eq_false, Bool.false_eq_true, Option.map_some, Option.map_none, Option.bind_some, Option.bind_none, key]
    rfl
  · have hr : ((-(2 ^ 62) : Int) ≤ (l.length : Int) ∧ (l.length : Int) < 2 ^ 62) = True := by simp; omega
    simp only [eVar, eC, eOp, eT, eAnd, eOr, eNot, eIf, eAndV, eOrV, eNotV, eCall, aNil, aCons, aStar, sOf, eTup, eFl, eLoc, eSl, oNone, oSome, iOf, eNeg, eChain, eMt, bOf, List.lookup, R.bind_ok, R.bind_er, R.bind_stuck, R.toS_ok, R.toS_er, R.toS_stuck, SR.next_nx, SR.next_rt, SR.next_er, SR.next_bk, SR.next_ct, SR.next_stuck, sNil, sSeq, sBrk, sCnt, sExp, sRet, sRetN, sIf, sSet, sAsg, sAug, sPar2, sPar3, tN, DL.tTup, DL.tNil, DL.tCons, DL.tSub, iSeq, srcOf, iRange1, iRange2, sFor, startD, List.map_cons, List.map_nil, List.length_cons, List.length_nil, List.replicate, List.cons_append, List.nil_append, List.getElem?_cons_zero, List.getElem?_cons_succ, List.set_cons_zero, List.set_cons_succ, dSub_int, dFdiv_int, dMod_int, dLt_int, dLe_int, dGt_int, dGe_int, dAddI_int, dSubI_int, dIsN_non, isN, dAdd_int, ll0, ll1, ll2, ll3, ll4, ll5, ll6, ll7, ll8, ll9, ll10, ll11, ll12, ll13, ll14, ll15, ll16, ll17, ll18, ll19, ll20, ll21, ll22, ll23, ll24, ll25, ll26, ll27, ll28, ll29, ll30, ll31, ll32, ll33, ll34, ll35, ll36, ll37, ll38, ll39, ll40, Nat.reduceSub, Nat.reduceAdd, Nat.reduceEqDiff, if_true, if_false, ifp_t, ifp_f, reduceIte, Bool.true_eq_false, Bool.false_eq_true, Option.map_some, Option.map_none, Option.bind_some, Option.bind_none, ti_len, hr, Int.toNat_natCast]
  · intro k hk S'
    refine ⟨rfl, ?_, rfl⟩
    have ix : ∀ (a b : D) S, dIx (.fl [a, b]) (.int 0) S = .ok a S := fun a b S => rfl
    simp only [eVar, eC, eOp, eT, eAnd, eOr, eNot, eIf, eAndV, eOrV, eNotV, eCall, aNil, aCons, aStar, sOf, eTup, eFl, eLoc, eSl, oNone, oSome, iOf, eNeg, eChain, eMt, bOf, List.lookup, R.bind_ok, R.bind_er, R.bind_stuck, R.toS_ok, R.toS_er, R.toS_stuck, SR.next_nx, SR.next_rt, SR.next_er, SR.next_bk, SR.next_ct, SR.next_stuck, sNil, sSeq, sBrk, sCnt, sExp, sRet, sRetN, sIf, sSet, sAsg, sAug, sPar2, sPar3, tN, DL.tTup, DL.tNil, DL.tCons, DL.tSub, iSeq, srcOf, iRange1, iRange2, sFor, startD, List.map_cons, List.map_nil, List.length_cons, List.length_nil, List.replicate, List.cons_append, List.nil_append, List.getElem?_cons_zero, List.getElem?_cons_succ, List.set_cons_zero, List.set_cons_succ, dSub_int, dFdiv_int, dMod_int, dLt_int, dLe_int, dGt_int, dGe_int, dAddI_int, dSubI_int, dIsN_non, isN, dAdd_int, ll0, ll1, ll2, ll3, ll4, ll5, ll6, ll7, ll8, ll9, ll10, ll11, ll12, ll13, ll14, ll15, ll16, ll17, ll18, ll19, ll20, ll21, ll22, ll23, ll24, ll25, ll26, ll27, ll28, ll29, ll30, ll31, ll32, ll33, ll34, ll35, ll36, ll37, ll38, ll39, ll40, Nat.reduceSub, Nat.reduceAdd, Nat.reduceEqDiff, if_true, if_false, ifp_t, ifp_f, reduceIte, Bool.true_eq_false, Bool.false_eq_true, Option.map_some, Option.map_none, Option.bind_some, Option.bind_none, Q1__law_begins, from_ok l k hl (by omega), missing_ok, ix, dEq_int]
    rfl
end DL
namespace DL
open PySem PySem.Spec L2
open PyProof.Rows hiding St
/-- min of two numbers, of a list or of a tuple -/
def bMinT : Fn := fun ds S => match ds with
  | [.tup xs] => (match intsOf xs with
    | some is => if is = [] then .stuck else .ok (.int (minL is)) S
    | none => .stuck)
  | ds => bMin ds S
end DL
namespace DL
theorem ne_ge (l : List Int) (s : Int × Int) : l ≠ [] → 1 - (l.foldl stp s).1 ≤ (l.foldl stp s).2 := by
  intro hn
  obtain ⟨i, t, rfl⟩ := List.eq_nil_or_concat l |>.resolve_left hn
  simp only [List.concat_eq_append, List.foldl_append, List.foldl_cons, List.foldl_nil, stp]
  omega
end DL
namespace DL
end DL
namespace DL
open PySem PySem.Spec L2
open PyProof.Rows hiding St
def fV : D → Option V
  | .non => some .non
  | .bl b => some (.bl b)
  | .int i => some (.int i)
  | .str x => some (.str x)
  | _ => none
def fVs : List D → Option (List V)
  | [] => some []
  | d :: ds => (fV d).bind fun v => (fVs ds).map fun vs => v :: vs
theorem fV_rep {K : PySem.W.Frag} {ι : List Addr} {H : Hp} {d : D} {v x : V} (r : RepV K ι H d v) (e : fV d = some x) : v = x ∧ flatV x = true := by
  cases d with
  | non => rw [RepV] at r; cases e; exact ⟨r, rfl⟩
  | bl b => rw [RepV] at r; cases e; exact ⟨r, rfl⟩
  | int b => rw [RepV] at r; cases e; exact ⟨r, rfl⟩
  | str b => rw [RepV] at r; cases e; exact ⟨r, rfl⟩
  | _ => cases e
theorem fVs_rep {K : PySem.W.Frag} {ι : List Addr} {H : Hp} : ∀ (ds : List D) (vs xs : List V), RepL K ι H ds vs → fVs ds = some xs → vs = xs ∧ xs.all flatV = true
  | [], vs, xs, r, e => by rw [RepL] at r; cases e; subst r; exact ⟨rfl, rfl⟩
  | d :: ds, vs, xs, r, e => by
    rw [RepL] at r
    obtain ⟨v, us, rfl, a, b⟩ := r
    rw [fVs] at e
    cases h : fV d with
    | none => rw [h] at e; cases e
    | some y =>
      rw [h] at e
      cases h2 : fVs ds with
      | none => rw [h2] at e; cases e
      | some ys =>
        rw [h2] at e; cases e
        obtain ⟨rfl, f1⟩ := fV_rep a h
        obtain ⟨rfl, f2⟩ := fVs_rep ds us ys b h2
        exact ⟨rfl, by rw [List.all_cons, f1, f2]; rfl⟩
theorem fVs_ints (l : List Int) : fVs (l.map D.int) = some (l.map V.int) := by
  induction l with
  | nil => rfl
  | cons i l ih => rw [List.map_cons, fVs, ih]; rfl
theorem inV_ints (i : Int) (l : List Int) : inV (.int i) (l.map V.int) = decide (i ∈ l) := by
  unfold inV
  induction l with
  | nil => rfl
  | cons j l ih =>
    rw [List.map_cons, List.any_cons, ih]
    by_cases h : j = i
    · subst h; simp [eqV]
    · have : ¬ i = j := fun z => h z.symm
      simp [eqV, h, this]
def dIn (neg : Bool) (a b : D) (S : Sto) : R D := match a, b with
  | .str x, .str z => (match x.cps.toList with
    | [c] => .ok (.bl (if neg then !decide (c ∈ z.cps.toList) else decide (c ∈ z.cps.toList))) S
    | _ => .stuck)
  | a, b => match fV a, (seqOf S b).bind fVs with
    | some x, some ys => .ok (.bl (if neg then !inV x ys else inV x ys)) S
    | _, _ => .stuck
def rInS (neg : Bool) : R2 := fun x y H Q => ∃ (c : Nat) (z : Str), x = .str ⟨#[c]⟩ ∧ y = .str z ∧ Q (.bl (if neg then !decide (c ∈ z.cps.toList) else decide (c ∈ z.cps.toList))) H
def rInA (K : PySem.W.Frag) (neg : Bool) : R2 := fun x y H Q => rIn K neg x y H Q ∨ rInS neg x y H Q
theorem or_in {X : Cx} : OpR X (compareOp .In) (rInA X.K false) := OpR.or op_in_seq op_in_sign
theorem or_notIn {X : Cx} : OpR X (compareOp .NotIn) (rInA X.K true) := OpR.or op_notIn_seq op_notIn_sign
theorem k_in {K : PySem.W.Frag} (neg : Bool) : OpK K (rInA K neg) (dIn neg) := by
  intro W σ ι H S x y a b Q s rx ry h
  unfold dIn at h
  split at h
  · rename_i u z
    split at h
    · rename_i c hc
      refine .inr ⟨c, z, ?_, str_at ry, h.here s _ bl_rep⟩
      rw [str_at rx]
      congr 1
      obtain ⟨⟨l⟩⟩ := u
      simp at hc
      subst hc
      rfl
    · exact h.elim
  · split at h
    · rename_i x' ys e1 e2
      cases hs : seqOf S b with
      | none => rw [hs] at e2; cases e2
      | some ds =>
        rw [hs] at e2
        obtain ⟨p, vs, rfl, q, rl⟩ := seq_at s ry hs
        obtain ⟨rfl, f1⟩ := fV_rep rx e1
        obtain ⟨rfl, f2⟩ := fVs_rep _ _ _ rl e2
        exact .inl ⟨p, vs, rfl, q, f1, f2, h.here s _ bl_rep⟩
    · exact h.elim
theorem PE.or {X : Cx} {e : Expr} {t u : TE} (h : PE X e t) (h' : PE X e u) : PE X e (fun σ H Q => t σ H Q ∨ u σ H Q) := ⟨fun pins s σ H Q I q => by
  rcases q with q | q
  · exact h.run pins s σ H Q I q
  · exact h'.run pins s σ H Q I q⟩
def dRev (mk : List D → Sto → R D) (a : D) (S : Sto) : R D := match a with
  | .tup xs => .ok (.tup xs.reverse) S
  | a => match lstOf S a with
    | some xs => mk xs.reverse S
    | none => .stuck
def eRev (mk : List D → Sto → R D) (f : Ev → Sto → R D) : Ev → Sto → R D := fun ρ S => (f ρ S).bind fun d S1 => dRev mk d S1
theorem RepL.reverse {K : PySem.W.Frag} {ι : List Addr} {H : Hp} : ∀ (ds : List D) (vs : List V), RepL K ι H ds vs → RepL K ι H ds.reverse vs.reverse
  | [], _, h => by rw [RepL] at h; subst h; exact RepL.nil
  | d :: ds, _, h => by
    rw [RepL] at h
    obtain ⟨v, r, rfl, a, b⟩ := h
    rw [List.reverse_cons, List.reverse_cons]
    exact RepL.app _ _ (RepL.reverse ds r b) _ _ (RepL.one a)
def zipD (xs ys : List D) : List D := (xs.zip ys).map fun q => .tup [q.1, q.2]
def srcZip (a b : D) (S : Sto) : R Src := match a, b with
  | .tup xs, .tup ys => .ok (zipD xs ys, yes) S
  | .fl xs, .fl ys => .ok (zipD xs ys, yes) S
  | _, _ => .stuck
def iZipD (g : Ev → Sto → R (List D)) : Ev → Sto → R Src := fun ρ S => (g ρ S).bind fun ds S1 => match ds with
  | [a, b] => srcZip a b S1
  | _ => .stuck
end DL
namespace DL
open PySem PySem.Spec L2
open PyProof.Rows hiding St
open PySem.AutoSeq1 (wpAny_loadPart')
theorem tuple_mulSame (l : Addr) (items : Array Value) (n : Nat) (dd : Option Addr) (sl : Array (Option Value)) (x : Int) (u : Tok) (c0 : (decide (x < -(2 ^ 63)) || decide (x ≥ 2 ^ 63)) = false) (c1 : (items.isEmpty || x == 1) = true) :
    Meets (Builtin.«tuple.__mul__» ⟨[.ref l, .int x u], []⟩) (fun _ R s => s.heap.get? l = some { cls := .type "tuple", dict := dd, data := .seq items n, slots := sl } ∧ R (.ok (.ret (Value.ref l))) s) :=
  .of_wp fun prog w A R s h => by
    obtain ⟨hp, g, d, tk, os⟩ := s
    obtain ⟨hl, h⟩ := h
    have f1 := AutoSeq1.idx_int
    wp_walk using wpAny_loadPart' hl
    repeat (first
      | (refine wpAny_ite_false (decide_eq_false (by rw [c0]; exact Bool.false_ne_true)) ?_; wp_walk using wpAny_loadPart' hl)
      | (refine wpAny_ite_true (decide_eq_true (by rw [c1])) ?_; wp_walk using wpAny_loadPart' hl)
      | (with_reducible rw [if_pos (show (items.isEmpty || x == 1) = true from c1)]; wp_walk using wpAny_loadPart' hl))
    exact ⟨_, rfl, h⟩
theorem tuple_mulNil (l : Addr) (items : Array Value) (n : Nat) (dd : Option Addr) (sl : Array (Option Value)) (x : Int) (u : Tok) (c0 : (decide (x < -(2 ^ 63)) || decide (x ≥ 2 ^ 63)) = false) (c1 : (items.isEmpty || x == 1) = false) (c2 : (decide (x ≤ 0) || items.isEmpty) = true) :
    Meets (Builtin.«tuple.__mul__» ⟨[.ref l, .int x u], []⟩) (fun _ R s => s.heap.get? l = some { cls := .type "tuple", dict := dd, data := .seq items n, slots := sl } ∧
      R (.ok (.ret (Value.ref s.heap.objs.size))) { s with heap := s.heap.push { cls := Value.type "tuple", data := Data.seq #[] }, toks := s.toks }) :=
  .of_wp fun prog w A R s h => by
    obtain ⟨hp, g, d, tk, os⟩ := s
    obtain ⟨hl, h⟩ := h
    have f1 := AutoSeq1.idx_int
    wp_walk using wpAny_loadPart' hl
    repeat (first
      | (refine wpAny_ite_false (decide_eq_false (by rw [c0]; exact Bool.false_ne_true)) ?_; wp_walk using wpAny_loadPart' hl)
      | (refine wpAny_ite_false (decide_eq_false (by rw [c1]; exact Bool.false_ne_true)) ?_; wp_walk using wpAny_loadPart' hl)
      | (refine wpAny_ite_true (decide_eq_true (by rw [c2])) ?_; wp_walk using wpAny_loadPart' hl))
    exact ⟨_, rfl, h⟩
def rRepTS (K : PySem.W.Frag) : R2 := fun x y H Q => ∃ l k xs, x = .ref l ∧ y = .int k ∧ SqT K H l xs ∧ -(2 ^ 63) ≤ k ∧ k < 2 ^ 63 ∧ (xs = [] ∨ k = 1) ∧ Q (.ref l) H
def rRepTN (K : PySem.W.Frag) : R2 := fun x y H Q => ∃ l k xs, x = .ref l ∧ y = .int k ∧ SqT K H l xs ∧ xs ≠ [] ∧ -(2 ^ 63) ≤ k ∧ k ≤ 0 ∧ ∀ p, H p = none → Q (.ref p) (upd H p (.tup []))
section
variable {X : Cx}
theorem op_repTS : OpR X (binaryOp .Mult) (rRepTS X.K) := by
  intro pins s σ H x y v u Q I rx ry h
  obtain ⟨l, k, xs, rfl, rfl, hT, h1, h2, hne, q⟩ := h
  cases rx
  obtain ⟨t, rfl⟩ := ry
  obtain ⟨its, r, ⟨⟨cls, dd, data, sl⟩, ho, hc, n, hd⟩, hs⟩ := I.tuple hT
  simp only at hc hd
  subst hc hd
  have hle : its.length = xs.length := r.length.symm
  have c0 : (decide (k < -(2 ^ 63)) || decide (k ≥ 2 ^ 63)) = false := by
    rw [decide_eq_false (by omega), decide_eq_false (by omega)] <;> rfl
  have c1 : (its.toArray.isEmpty || k == 1) = true := by
    rcases hne with e | e
    · subst e
      have : its = [] := List.eq_nil_of_length_eq_zero hle
      subst this; rfl
    · subst e; simp
  exact wpAny_binaryOp_repeat_ref (T := "tuple") (U := "int") (by decide) ⟨_, ho, rfl⟩ (fun s' => typeIs_int s' k t) noFill_tuple_mul F.fills_int_mul F.slot_int_rmul repeat_tuple F.slot_int_index.lookup
    (call_meets F.slot_int_rmul (typeIs_int s k t) F.entry_int_rmul (F.args_int_rmul_2 _ _) (int_rmul_tuple k t l its.toArray n dd sl)
      ⟨ho, rfl, ⟨_, ho, rfl⟩, call_meets F.slot_tuple_mul ⟨_, ho, rfl⟩ F.entry_tuple_mul (F.args_tuple_mul_2 _ _) (tuple_mulSame l its.toArray n dd sl k t c0 c1) ⟨ho, ⟨.ref l, H, I, rfl, q⟩⟩⟩)
theorem op_repTN : OpR X (binaryOp .Mult) (rRepTN X.K) := by
  intro pins s σ H x y v u Q I rx ry h
  obtain ⟨l, k, xs, rfl, rfl, hT, hne, h1, h2, q⟩ := h
  cases rx
  obtain ⟨t, rfl⟩ := ry
  obtain ⟨its, r, ⟨⟨cls, dd, data, sl⟩, ho, hc, n, hd⟩, hs⟩ := I.tuple hT
  simp only at hc hd
  subst hc hd
  have hle : its.length = xs.length := r.length.symm
  have hn : its ≠ [] := fun e => hne (by
    rw [e] at hle
    exact List.eq_nil_of_length_eq_zero hle.symm)
  have hi : its.toArray.isEmpty = false := by
    cases its with
    | nil => exact absurd rfl hn
    | cons a b => rfl
  have c0 : (decide (k < -(2 ^ 63)) || decide (k ≥ 2 ^ 63)) = false := by
    rw [decide_eq_false (by omega), decide_eq_false (by omega)] <;> rfl
  have c1 : (its.toArray.isEmpty || k == 1) = false := by
    rw [hi, Bool.false_or]
    exact beq_eq_false_iff_ne.mpr (by omega)
  have c2 : (decide (k ≤ 0) || its.toArray.isEmpty) = true := by rw [decide_eq_true h2]; rfl
  refine wpAny_binaryOp_repeat_ref (T := "tuple") (U := "int") (by decide) ⟨_, ho, rfl⟩ (fun s' => typeIs_int s' k t) noFill_tuple_mul F.fills_int_mul F.slot_int_rmul repeat_tuple F.slot_int_index.lookup
    (call_meets F.slot_int_rmul (typeIs_int s k t) F.entry_int_rmul (F.args_int_rmul_2 _ _) (int_rmul_tuple k t l its.toArray n dd sl)
      ⟨ho, rfl, ⟨_, ho, rfl⟩, call_meets F.slot_tuple_mul ⟨_, ho, rfl⟩ F.entry_tuple_mul (F.args_tuple_mul_2 _ _) (tuple_mulNil l its.toArray n dd sl k t c0 c1 c2) ⟨ho, ?_⟩⟩)
  refine ⟨.ref s.heap.objs.size, _, I.laid (t' := s.toks) (o := .tup []) (fun b ob q => Heap.get?_push_of_some _ q) (Nat.le_refl _) ?_, rfl, q _ (I.hok.fresh (Nat.le_refl _))⟩
  exact ⟨Nat.zero_le _, [], .nil, IsTup.new _ _⟩
end
noncomputable def dMulT (a b : D) (S : Sto) : R D := match a, b with
  | .tup xs, .int k => ifp (-(2 ^ 63) ≤ k ∧ k ≤ 1000 ∧ xs.length ≤ 1000) (.ok (.tup (List.replicate k.toNat xs).flatten) S) .stuck
  | a, b => dMul a b S
def rMulT (K : PySem.W.Frag) : R2 := fun x y H Q => rRepTS K x y H Q ∨ rRepTN K x y H Q ∨ rRepT K x y H Q ∨ rMulD x y H Q
theorem or_mulT {X : Cx} : OpR X (binaryOp .Mult) (rMulT X.K) := OpR.or op_repTS (OpR.or op_repTN (OpR.or op_repT or_mul))
theorem k_mulT {K : PySem.W.Frag} : OpK K (rMulT K) dMulT := by
  intro W σ ι H S x y a b Q s rx ry h
  unfold dMulT at h
  split at h
  · rename_i xs k
    unfold ifp at h
    split at h
    · rename_i hl
      have rx' := rx
      obtain ⟨p, vs, rfl, hp, rp⟩ := tup_at rx
      have hlen := RepL.length _ _ rp
      by_cases h1 : vs = [] ∨ k = 1
      · refine .inl ⟨p, k, vs, rfl, int_at ry, hp, hl.1, by omega, h1, ?_⟩
        have e : (List.replicate k.toNat xs).flatten = xs := by
          rcases h1 with e | e
          · subst e
            have : xs = [] := List.eq_nil_of_length_eq_zero hlen
            subst this; simp
          · subst e; simp
        rw [e] at h
        exact h.here s _ rx'
      · have hne : vs ≠ [] := fun z => h1 (.inl z)
        have hk : k ≠ 1 := fun z => h1 (.inr z)
        by_cases h2 : k ≤ 0
        · refine .inr (.inl ⟨p, k, vs, rfl, int_at ry, hp, hne, hl.1, h2, ?_⟩)
          have e : (List.replicate k.toNat xs).flatten = [] := by
            have : k.toNat = 0 := by omega
            rw [this]; rfl
          rw [e] at h
          exact new_tup h s RepL.nil
        · refine .inr (.inr (.inl ⟨p, k, vs, rfl, int_at ry, hp, hne, by omega, hl.2.1, by omega, ?_⟩))
          exact new_tup h s (RepL.replicate rp _)
    · exact h.elim
  · exact .inr (.inr (.inr (k_mul W σ ι H S x y a b Q s rx ry h)))
end DL
namespace DL
open PySem PySem.Spec L2
open PyProof.Rows hiding St
/-- a built-in class that errors of the program are built on -/
structure XBase (newId : String) (bmB : List Value) : Prop where
  fb : ∃ B initId, ExcBaseFacts B newId initId bmB
  pass : ∀ self, PySem.refuseLoop self "__setattr__" bmB = pure ()
  ob : bmB.contains (.type "object") = true
theorem xb_VE : XBase "ValueError.__new__" [.type "ValueError", .type "Exception", .type "BaseException", .type "object"] := ⟨⟨_, _, PySem.F.excBase_ValueError⟩, fun s => PySem.F.store_ValueError.passes s, by decide +kernel⟩
theorem xb_LE : XBase "LookupError.__new__" [.type "LookupError", .type "Exception", .type "BaseException", .type "object"] := ⟨⟨_, _, PySem.F.excBase_LookupError⟩, fun s => PySem.F.store_LookupError.passes s, by decide +kernel⟩
section
open PySem.Builtin PySem.Builtin.ObjectAttr PySem.HandSPX
variable {prog : Program} {w : World} {A : Around} {E : Value → Shared → Prop} {R : Result → Shared → Prop} {hp : Heap} {g : Array GenState} {d : Drawn} {t : Nat} {os : OsState}
theorem osaB {K : PySem.W.Frag} {newId : String} {bmB : List Value} {name : Str} {tk : Tok} {v : Value} {x C : Addr} {fv : Array Value} {cd : ClassData}
    (XB : XBase newId bmB) (X : K.In hp) (hx : hp.get? x = some { cls := .ref C, data := .fields fv }) (hcd : PySem.W.clsIn K C = some cd) (hm : PySem.W.excTail bmB cd.mro = true) (hne : cd.mro.isEmpty = false) (hh : cd.hasDict = true) (ha : PySem.W.findIn K (.ref C) name = some none)
    (hq : ∀ h' tk' dx, (∀ b o, b ≠ x → hp.get? b = some o → h'.get? b = some o) → hp.objs.size ≤ dx → dx ≠ x → h'.get? x = some { cls := .ref C, dict := some dx, data := .fields fv } →
      h'.Ns1 dx (fun y => if y = name then some v else none) → R (.ok (.ret .none)) ⟨h', g, d, tk', os⟩) :
    codeAny (model prog w) A (.call (.builtin "object.__setattr__") ⟨[.ref x, .str name tk, v], []⟩) R ⟨hp, g, d, t, os⟩ := by
  have I : PySem.W.InstAt hp x { cls := .ref C, data := .fields fv } C none := ⟨hx, rfl, rfl, trivial⟩
  have SF := PySem.F.store_object
  have hob : cd.mro.contains (.type "object") = true := (PySem.W.excTail_contains "object" _ hm).trans XB.ob
  have hxs : x ≠ hp.objs.size := Nat.ne_of_lt (Heap.lt_size hx)
  have msub : PySem.W.mroIn K C (.type "object") = some true := by
    unfold PySem.W.mroIn; rw [hcd, Option.bind_some, if_neg (by rw [hne]; decide), hob]
  have isub : PySem.W.Looks (model prog w) hp (isInstance (.ref x) (.type "object")) true := I.type.andThen (PySem.W.looks_mroIn X msub)
  refine codeAny_call_builtin SF.slot.plain SF.entry (@PySem.W.check_slot (model prog w) _ _ ⟨hp, g, d, t, os⟩ "object.__setattr__" "object" "__setattr__" (.ref x) [.str name tk, v] [] _ SF.kind SF.split isub (SF.args (.ref x) (.str name tk) v) ?_)
  have lm : PySem.W.Looks (model prog w) hp (mroOf (.ref C)) cd.mro := (PySem.W.looks_clsIn X hcd).andThen .now
  have lt : PySem.W.Looks (model prog w) hp (storeTaker? none) none := .now
  have lc : PySem.W.Looks (model prog w) hp (classData C) cd := PySem.W.looks_clsIn X hcd
  rw [PySem.W.osa_eq, refuse_eq]
  refine wpAny_bind (wpAny_bind (I.type.at (wpAny_bind (lm.at ?_))))
  rw [PySem.W.excTail_pass _ (XB.pass _) _ hm]
  refine wpAny_pure (wpAny_bind (I.type.at (wpAny_bind ((PySem.W.looks_findIn X ha).at (wpAny_bind (lt.at ?_))))))
  show wpAny _ _ (storeInOwnDict (.ref x) (.ref C) (.str name tk) name v false) _ _ _
  obtain ⟨nm, bs, mro, ns, qn, hd, sn, sb, ab, col, del⟩ := cd
  dsimp only at hh
  subst hh
  unfold storeInOwnDict ownDictForStores
  repeat (first | with_reducible refine store_in_new ?_ ?_ | with_reducible refine wpAny_loadPart_at hx ?_ | with_reducible refine lc.at ?_ | wp_step)
  · exact ⟨_, #[], _, (Heap.get?_update_ne _ _ _ _ hxs.symm).trans (Heap.get?_push_at rfl rfl), rfl, fun e he => absurd he (by simp), fun _ => rfl⟩
  · intro h' tk' hn' hs
    have hx₁ : (hp.push { cls := .type "dict", data := .dict #[] }).get? x = some { cls := .ref C, data := .fields fv } := Heap.get?_push_of_some _ hx
    refine hq h' tk' hp.objs.size (fun b o hb ho => ?_) (Nat.le_refl _) hxs.symm ?_ hn'
    · exact (hs.2 b (Nat.ne_of_lt (Heap.lt_size ho))).trans ((Heap.get?_update_ne _ _ _ _ hb).trans (Heap.get?_push_of_some _ ho))
    · exact (hs.2 x hxs).trans (Heap.get?_update_self _ hx₁ rfl)
end
def iA (f : Str) (p1 p2 : Pos) : Arguments := { posonlyargs := [], args := [{ arg := "self", annotation := none, pos := p1 }, { arg := f, annotation := none, pos := p2 }], vararg := none, kwonlyargs := [], kw_defaults := [], kwarg := none, defaults := [] }
def iB (f : Str) (q1 q2 q3 q4 : Pos) : List Stmt := [.Assign [.Attribute (.Name "self" q1) f q2] (.Name f q3) q4]
def iS (f : Str) : Scope := { kind := .function, names := [(PySem.Str.ofString "self", .local), (f, .local)], isGenerator := false, isCoroutine := false, more := [] }
/-- what the written part says of an own error's class n, at C -/
structure XCls (K : PySem.W.Frag) (n : Str) (C : Addr) : Prop where
  ns : PySem.W.nsIn K mainGlobals n = some (some (.ref C))
  kC : PySem.W.keepIn K (.ref C) = true
  exC : PySem.W.subIn K (.ref C) (.type "BaseException") = some true
  tyC : PySem.W.typeIn K (.ref C) = some (.type "type")
/-- .. with an __init__ of that text, at fI -/
structure XInit (K : PySem.W.Frag) (C fI : Addr) (qual f : Str) : Prop where
  cls : ∃ newId bmB nm q N bs bm sn sub ab col dd k0 k1 k2 k3 k5, XBase newId bmB ∧ K.lookup C = some (excClassObj nm q C N bs bm true sn sub ab col dd k0 k1 k2 k3 k5 newId) ∧ PySem.W.excTail bmB bm = true
  sa : PySem.W.findIn K (.ref C) "__setattr__" = some (some (.builtin "object.__setattr__"))
  noN : PySem.W.findIn K (.ref C) f = some none
  iC : PySem.W.findIn K (.ref C) "__init__" = some (some (.ref fI))
  tC : PySem.W.typeIn K (.ref fI) = some (.type "function")
  fn : ∃ (oc : Value) (od : Option Addr) (doc pm : Value) (an : Option Addr) (cdv ct : Value) (osl : Array (Option Value)) (p1 p2 q1 q2 q3 q4 : Pos),
    K.lookup fI = some ⟨oc, od, .func (PySem.W.fnOf "__init__" qual (iA f p1 p2) (iB f q1 q2 q3 q4) (iS f) .none .none doc pm an cdv ct), osl⟩ ∧ PySem.W.codeIn K cdv qual = true
  bd : ∀ (doc pm : Value) (an : Option Addr) (cdv ct : Value) (p1 p2 q1 q2 q3 q4 : Pos) (x v : Value), bindArgs (PySem.W.fnOf "__init__" qual (iA f p1 p2) (iB f q1 q2 q3 q4) (iS f) .none .none doc pm an cdv ct) ⟨[x, v], []⟩ = pure [(("self" : Str), x), (f, v)]
  fs : f ≠ "self"
  fd : (f == ("__debug__" : Str)) = false
theorem ldCf {M : Model} {s : Shared} {name : Str} {scope : Scope} {L a : Addr} {cd : Value} {m : Str → Option Value} {x : Str} {pos : Pos} {v : Value} {Q : Value → Shared → Prop} {A : Around} {E : Value → Shared → Prop} (hn : s.heap.Ns L m) (hv : m x = some v) (h : Q v s)
    (hk : scope.kind = .function) (hl : (envOfC name scope L a cd).kindOf x = some .local) (hd : (x == ("__debug__" : Str)) = false) :
    wpAny M A (eval (.Name x pos) (envOfC name scope L a cd)) Q E s := wpAny_Name (wpAny_loadName_local hk hl hn hv h) hd
theorem iS_self (f : Str) : (iS f).names.lookup ("self" : Str) = some .local := by
  show List.lookup (PySem.Str.ofString "self") [(PySem.Str.ofString "self", NameKind.local), (f, NameKind.local)] = _
  simp [List.lookup]
theorem iS_f (f : Str) : (iS f).names.lookup f = some .local := by
  show List.lookup f [(PySem.Str.ofString "self", NameKind.local), (f, NameKind.local)] = _
  by_cases h : f = PySem.Str.ofString "self"
  · simp [List.lookup, h]
  · have : (f == PySem.Str.ofString "self") = false := by simpa using h
    simp [List.lookup, this]
structure InitEnd (h h' : Heap) (x C dx t1 : Addr) (f : Str) (v : Value) : Prop where
  keep : ∀ b o, b ≠ x → h.get? b = some o → h'.get? b = some o
  obj : h'.get? x = some { cls := .ref C, dict := some dx, data := .fields #[.ref t1, .none, .none, .none, .bool false, .none] }
  dbig : h.objs.size ≤ dx
  dne : dx ≠ x
  ns : h'.Ns1 dx (fun y => if y = f then some v else none)
structure OwnMade (h h' : Heap) (e C d : Addr) (f : Str) (v : Value) : Prop where
  keep : ∀ b o, h.get? b = some o → h'.get? b = some o
  new : h.objs.size ≤ e
  obj : ∃ oe vs, h'.get? e = some oe ∧ oe.cls = .ref C ∧ oe.dict = some d ∧ oe.data = .fields vs ∧ vs[1]? = some .none
  dbig : h.objs.size ≤ d
  dne : d ≠ e
  ns : h'.Ns1 d (fun y => if y = f then some v else none)
section
open PySem.W PySem.Calls PySem.HandSPX
variable {prog : Program} {w : World} {A : Around} {E : Value → Shared → Prop} {R : Result → Shared → Prop} {s : Shared} {K : Frag} {C fI : Addr} {qual f : Str}
theorem x_init (T : XInit K C fI qual f) {x t0 : Addr} {v : Value} (X : K.In s.heap) (hlim : s.heap.NoLimit) (hx : s.heap.get? x = some (excO C t0)) (hroom : A.depth < recursionLimit)
    (hq : ∀ h' tk dx, InitEnd s.heap h' x C dx t0 f v → R (.ok (.ret .none)) { s with heap := h', toks := tk }) :
    codeAny (model prog w) A (.call (.ref fI) ⟨[.ref x, v], []⟩) R s := by
  obtain ⟨oc, od, doc, pm, an, cdv, ct, osl, p1, p2, q1, q2, q3, q4, ho, hcd⟩ := T.fn
  obtain ⟨newId, bmB, nm, q, N, bs, bm, sn, sub, ab, col, dd, k0, k1, k2, k3, k5, XB, hC, hbm⟩ := T.cls
  have hcl : clsIn K C = some { name := nm, bases := bs, mro := .ref C :: bm, ns := N, qualname := q, hasDict := true, slotNames := sn, subclasses := sub, abstract := ab, collection := col, hasDel := false } := by unfold clsIn; rw [hC] <;> rfl
  refine Att.call_fn (binds := [("self", .ref x), (f, v)]) X hlim ho hcd hroom (BindsTo.of_eq (T.bd _ _ _ _ _ _ _ _ _ _ _ _ _)) ?_ (fun s₁ IC => ?_) rfl rfl rfl
  · simp only [List.all_cons, List.all_nil, iS_self, iS_f]; rfl
  obtain ⟨h₁, tk₁, rfl⟩ := IC.toInCall.same
  have k : ∀ b o, s.heap.get? b = some o → h₁.get? b = some o := IC.toInCall.keep
  have hn := IC.toInCall.ns
  have X₁ : K.In h₁ := X.keeps k
  have hx₁ := k _ _ hx
  have kf : (envOfC qual (iS f) s.heap.objs.size fI cdv).kindOf f = some .local := iS_f f
  have ks : (envOfC qual (iS f) s.heap.objs.size fI cdv).kindOf "self" = some .local := iS_self f
  have mf : bindL (envOfC qual (iS f) s.heap.objs.size fI cdv).kindOf [("self", .ref x), (f, v)] (fun _ => none) f = some v := by
    simp only [bindL, kf, ks, if_true]
  have ms : bindL (envOfC qual (iS f) s.heap.objs.size fI cdv).kindOf [("self", .ref x), (f, v)] (fun _ => none) "self" = some (.ref x) := by
    simp only [bindL, kf, ks, if_true]
    rw [if_neg (fun z => T.fs z.symm)]
  show wpAny _ _ (execs (iB f q1 q2 q3 q4) _) _ _ _
  unfold iB
  refine wpAny_execs_cons (plainObj_wpAny_Assign_Attribute ?_)
  refine ldCf (v := v) hn mf (ldCf (v := .ref x) hn ms ?_ rfl ks (by decide)) rfl kf T.fd
  refine set_plain X₁ (ox := excO C t0) (od := none) ⟨hx₁, rfl, rfl, trivial⟩ T.sa ?_
  refine osaB XB X₁ hx₁ hcl (show excTail bmB (.ref C :: bm) = true from hbm) rfl rfl T.noN (fun h₃ tk₃ dx k₃ dn dne hx₃ hn₃ => ?_)
  show wpAny _ _ (execs _ _) _ _ _
  have z : s.heap.objs.size < h₁.objs.size := hn.lt
  exact wpAny_execs_nil (hq h₃ tk₃ dx ⟨fun b o hb e => k₃ b o hb (k b o e), hx₃, Nat.le_of_lt (Nat.lt_of_lt_of_le z dn), dne, hn₃⟩)
theorem x_made (T : XInit K C fI qual f) {v : Value} (X : K.In s.heap) (hlim : s.heap.NoLimit) (hroom : A.depth + 1 < recursionLimit)
    (hq : ∀ h' tk e d, OwnMade s.heap h' e C d f v → R (.ok (.ret (.ref e))) { s with heap := h', toks := tk }) :
    codeAny (model prog w) A (.call (.ref C) ⟨[v], []⟩) R s := by
  obtain ⟨newId, bmB, nm, q, N, bs, bm, sn, sub, ab, col, dd, k0, k1, k2, k3, k5, XB, hC, hbm⟩ := T.cls
  obtain ⟨B, initId, FB⟩ := XB.fb
  obtain ⟨hp, g, dr, tk, os⟩ := s
  have k : ∀ b o, hp.get? b = some o → ((hp.push (kdv_tup [v])).push (excO C hp.objs.size)).get? b = some o := fun b o e => Heap.get?_push_of_some _ (Heap.get?_push_of_some _ e)
  have hget : ((hp.push (kdv_tup [v])).push (excO C hp.objs.size)).get? (hp.objs.size + 1) = some (excO C hp.objs.size) := by heap_get
  refine call_own FB (fun X => excTail_contains X bm hbm) (X _ _ hC) (looks_findIn X T.iC) (fun self => bind_fn X self T.tC) (show [v].length ≤ sizeLine by show 1 ≤ sizeLine; decide) ?_
  refine x_init (s := ⟨(hp.push (kdv_tup [v])).push (excO C hp.objs.size), g, dr, tk, os⟩) T (X.keeps k) (hlim.keeps k) hget hroom fun h' tk' dx ⟨k', hx, dn, dne, hns⟩ => ?_
  have old : ∀ b o, hp.get? b = some o → h'.get? b = some o := fun b o e => k' b o (Nat.ne_of_lt (Nat.lt_succ_of_lt (Heap.lt_size e))) (k b o e)
  have z : hp.objs.size + 1 + 1 ≤ dx := by
    have q := dn
    rw [Heap.size_push, Heap.size_push] at q
    exact q
  exact ⟨rfl, hq h' tk' (hp.objs.size + 1) dx ⟨old, Nat.le_succ _, ⟨_, _, hx, rfl, rfl, rfl, rfl⟩, Nat.le_trans (Nat.le_trans (Nat.le_succ _) (Nat.le_succ _)) z, dne, hns⟩⟩
end
theorem relO_one {v : V} {v' : Value} {g : Str} (r : RelV v v') (f : Str) : RelO (List.lookup f [(g, v)]) (if f = g then some v' else none) := by
  by_cases hw : f = g
  · subst hw
    rw [if_pos rfl]
    have q : List.lookup f [(f, v)] = some v := by simp [List.lookup]
    rw [q]
    exact r
  · rw [if_neg hw]
    have qw : (f == g) = false := by simpa using hw
    have q2 : List.lookup f [(g, v)] = none := by simp [List.lookup, qw]
    rw [q2]
    trivial
section
variable {X : Cx} {C fI : Addr} {n qual f : Str}
def tMkX (C : Addr) (f : Str) (ta : TA) : L2.St → Hp → XK → Prop := fun σ H Q => ta σ H fun vs H1 => ∃ v, vs = [v] ∧ ∀ d, H1 d = none → Q (.ref C) (some d) (upd H1 d (.xd [(f, v)]))
theorem pmk_x {a : Expr} {ta : TA} {p pos : Pos} {k : Nat} (T0 : XCls X.K n C) (T : XInit X.K C fI qual f) (hr : Room k X.A) (hm : X.mg n = some (.ref C)) (ha : PA X [a] ta) (hg : Gl X n) (hdb : (n == ("__debug__" : Str)) = false)
    (he : starEach (a :: []) X.env = (false, eval a X.env) :: starEach [] X.env := by rfl) (hpl : (backTo pos (starEach [] X.env)).any (·.1) = false := by rfl) :
    PMk X (.Call (.Name n p) [a] [] pos) (tMkX C f ta) := by
  intro pins s σ H Q I h
  refine wpAny_Call_Name_kw (ld_glob I hg hm ?_ hdb)
  refine PySem.W.callWith_K (h₀ := X.base) I.ok.mod.kin T0.kC (thn (ha.run pos pins s σ H _ I h) fun us s1 hh => ?_) he hpl
  obtain ⟨vs, H1, I1, r1, v, ev, q1⟩ := hh
  subst ev
  refine ⟨I1.kIn, ?_⟩
  cases r1 with
  | cons rv rn =>
    rename_i v' us'
    cases rn
    show wpAny _ _ (call (.ref C) [v']) _ _ _
    have hlim := I1.nolimit
    obtain ⟨hp, g, dr, tk, os⟩ := s1
    refine wpAny_call (x_made T I1.kIn hlim (by have := hr.dp; omega) fun h' tk' e d M => ?_)
    show MkP X pins σ Q (.ref e) ⟨h', g, dr, tk', os⟩
    obtain ⟨oe, fv, hoe, hc, hd, hdat, h1⟩ := M.obj
    have hns := M.ns
    obtain ⟨G', g1, g2⟩ := restrict h' fun b => decide (b ≠ e)
    have gk : ∀ b, b ≠ e → G'.get? b = h'.get? b := fun b hb => g1 b (decide_eq_true hb)
    have ge : G'.get? e = none := g2 e (by simp)
    have old : ∀ b o, hp.get? b = some o → G'.get? b = some o := fun b o q => (gk b (Nat.ne_of_lt (Nat.lt_of_lt_of_le (Heap.lt_size q) M.new))).trans (M.keep b o q)
    have ob : ObjOk X.prog X.w (upd H1 d (.xd [(f, v)])) G' d (.xd [(f, v)]) :=
      ⟨_, hns.at (fun o q => (gk d M.dne).trans q), fun f => relO_one rv f⟩
    have J : Inv X pins σ (upd H1 d (.xd [(f, v)])) ⟨G', g, dr, tk', os⟩ := I1.laid (t' := tk') old M.dbig ob
    refine ⟨e, oe, fv, ⟨G', g, dr, tk', os⟩, _, .ref C, some d, rfl, J, fun b o q => ?_, ge, hoe, ⟨hc, hd⟩, hdat, h1, ?_, rfl, I1.bare, raises_own T0.exC T0.tyC, q1 d (I1.hok.fresh M.dbig)⟩
    · by_cases hb : b = e
      · have q' : G'.get? b = some o := q
        rw [hb, ge] at q'; cases q'
      · exact (gk b hb).symm.trans q
    · rw [upd_ne (Ne.symm M.dne)]
      exact I1.hok.fresh M.new
end
def sRaise1 (n f : Str) (g : Ev → Sto → R (List D)) : Ev → Sto → SR := fun ρ S => (g ρ S).toS ρ fun ds S1 => match ds with
  | [d] => .er ⟨.own n, [(f, d)]⟩ ρ S1
  | _ => .stuck
theorem RepF.one {K : PySem.W.Frag} {ι : List Addr} {H : Hp} {f : Str} {d : D} {v : V} (h : RepV K ι H d v) : RepF K ι H [(f, d)] [(f, v)] := by
  rw [RepF]; exact ⟨v, [], rfl, h, by rw [RepF]⟩
theorem ds_raise1 {X : Cx} {W : WX} {C fI : Addr} {n qual f : Str} {a : Expr} {g : Ev → Sto → R (List D)} {p pos pos2 : Pos} {k : Nat} (hc : X.calm = true) (tk : Takes X W) (T0 : XCls X.K n C) (T : XInit X.K C fI qual f) (hr : Room k X.A) (hm : X.mg n = some (.ref C)) (ha : DA X W [a] g) (hg : Gl X n := by rfl) (hdb : (n == ("__debug__" : Str)) = false := by decide)
    (he : starEach (a :: []) X.env = (false, eval a X.env) :: starEach [] X.env := by rfl) (hpl : (backTo pos (starEach [] X.env)).any (·.1) = false := by rfl) :
    DS X W (.Raise (some (.Call (.Name n p) [a] [] pos)) none pos2) (sRaise1 n f g) := by
  refine PS.imp (ps_raise hc tk (pmk_x T0 T hr hm ha hg hdb he hpl)) fun E σ H ⟨ι, ρ, S, hE, hS, h⟩ => ⟨ι, ρ, S, hE, hS, (PostS.bind h hE).mono fun ds S1 ι1 H1 G1 s1 h1 vs rs => ?_⟩
  split at h1
  · rename_i d
    obtain ⟨v, rfl, rv⟩ := RepL.one_inv rs
    refine ⟨v, rfl, fun dd hd => ?_⟩
    have G2 : Grow ι1 H1 ι1 (upd H1 dd (.xd [(f, v)])) := Grow.upd hd
    exact h1 ι1 _ σ (.ref C) (some dd) G2 (s1.upd hd) ((hE.grow G1).grow G2) ⟨⟨C, rfl, T0.ns⟩, .inr ⟨dd, [(f, v)], rfl, s1.free hd, upd_same, RepF.one (RepV.grow G2 _ _ rv)⟩⟩
  · exact h1.elim
def sRaise0 (n : Str) : Ev → Sto → SR := fun ρ S => .er ⟨.own n, []⟩ ρ S
end DL
namespace DL
open PySem PySem.Spec L2
open PyProof.Rows hiding St
end DL
namespace DL
open PySem PySem.Spec L2
open PyProof.Rows hiding St
end DL
namespace DL
open PySem PySem.Spec L2
open PyProof.Rows hiding St
end DL
namespace DL
open PySem PySem.Spec L2
open PyProof.Rows hiding St
section
variable {X : Cx} {W : WX} {gd : Bool} {k : Nat} {f : Addr} {F : Fn} {x : Str} {p pos : Pos} {e : Expr} {es : List Expr} {g : Ev → Sto → R (List D)}
def eCallV (tbl : List (Str × Fn)) (f : Ev → Sto → R D) (g : Ev → Sto → R (List D)) : Ev → Sto → R D := fun ρ S => (f ρ S).bind fun d S1 => match d with
  | .fn n => (match tbl.lookup n with
    | some F => (g ρ S1).bind fun ds S2 => F ds S2
    | none => .stuck)
  | _ => .stuck
end
end DL
namespace DL
open PySem PySem.Spec L2
open PyProof.Rows hiding St
def eDict0 : Ev → Sto → R D := fun _ S => .ok (.fd []) S
theorem RepK.keys {K : PySem.W.Frag} {ι : List Addr} {H : Hp} : ∀ {kvs : List (Key × D)} {vs : List (Key × V)}, RepK K ι H kvs vs → vs.map (·.1) = kvs.map (·.1)
  | [], _, h => by rw [RepK] at h; subst h; rfl
  | (k, d) :: kvs, _, h => by
    rw [RepK] at h
    obtain ⟨v, r, rfl, a, b⟩ := h
    rw [List.map_cons, List.map_cons, RepK.keys b]
theorem rgV_rep {K : PySem.W.Frag} {ι : List Addr} {H : Hp} (a b : Int) : RepL K ι H (rangeD a (b - a).toNat) (rgV a b) := by
  unfold rangeD rgV
  generalize (b - a).toNat = n
  have key : ∀ l : List Nat, RepL K ι H (l.map fun k => D.int (a + (k : Nat))) (l.map fun i => V.int (a + (i : Nat))) := by
    intro l
    induction l with
    | nil => exact RepL.nil
    | cons x l ih => exact RepL.cons int_rep ih
  exact key _
noncomputable def eListRg (mk : List D → Sto → R D) (f : Ev → Sto → R D) : Ev → Sto → R D := fun ρ S => (f ρ S).bind fun d S1 => (iOf d S1).bind fun n S2 => ifp (RgOk 0 n) (mk (rangeD 0 n.toNat) S2) .stuck
theorem de_listRg {X : Cx} {W : WX} {mk : List D → Sto → R D} {a : Expr} {p p2 pos pos2 : Pos} {f : Ev → Sto → R D} (m : MkOk mk) (hc : X.calm = true) (hm : X.mg "list" = none) (hm2 : X.mg "range" = none) (ha : DE X W a f) (hg : Gl X "list" := by rfl) (hg2 : Gl X "range" := by rfl)
    (na : starEach [a] X.env = (false, eval a X.env) :: starEach [] X.env := by rfl) (nb : starEach [.Call (.Name "range" p2) [a] [] pos2] X.env = (false, eval (.Call (.Name "range" p2) [a] [] pos2) X.env) :: starEach [] X.env := by rfl) :
    DE X W (.Call (.Name "list" p) [.Call (.Name "range" p2) [a] [] pos2] [] pos) (eListRg mk f) := by
  refine PE.imp (pe_listRg hc hg hm (prg_1 hg2 hm2 ha na) nb) fun σ H Q ⟨ι, ρ, S, hE, hS, h⟩ => ⟨ι, ρ, S, hE, hS, (Post.bind h).mono fun d S1 ι1 H1 G1 s1 h1 v rv => ?_⟩
  cases d with
  | int n =>
    replace h1 : Post X.K W σ ι1 H1 (ifp (RgOk 0 n) (mk (rangeD 0 n.toNat) S1) .stuck) fun d _ ι' H' => ∀ v, RepV X.K ι' H' d v → Q v H' := h1
    unfold ifp at h1
    split at h1
    · rename_i hr
      refine ⟨n, int_at rv, hr, fun q hq => ?_⟩
      have e : n.toNat = (n - 0).toNat := by rw [Int.sub_zero]
      rw [e] at h1
      exact m _ _ _ _ _ _ _ _ _ h1 s1 (rgV_rep 0 n) q hq
    · exact h1.elim
  | _ => exact (show False from h1).elim
end DL
theorem L2.Room.roomy {k : Nat} {A : PySem.Around} (r : L2.Room k A) : A.units + 100 < PySem.cLine := by have := r.un; omega
theorem L2H.RoomH.roomy {k : Nat} {A : PySem.Around} (r : L2H.RoomH k A) : A.units + 100 < PySem.cLine := by have := r.un; omega
theorem L2H.RoomH.units {k : Nat} {A : PySem.Around} (r : L2H.RoomH k A) : A.units + 64 < PySem.cLine := by have := r.un; omega
namespace DL
open PySem PySem.Spec L2
open PyProof.Rows hiding St
end DL
namespace DL
open PySem PySem.Spec L2
open PyProof.Rows hiding St
end DL
namespace DL
open PySem PySem.Spec L2
open PyProof.Rows hiding St
open Builtin in
set_option maxHeartbeats 1000000 in
theorem meets_enumerate_new1 {v : Value} {o : Obj} {H : Heap → Prop} (B : Begins v o H) :
    Meets (Builtin.«enumerate.__new__» ⟨[.type "enumerate", v], []⟩) (fun _ R s => H s.heap ∧
      R (.ok (.ret (.ref (s.heap.push o).objs.size))) { s with heap := (s.heap.push o).push { cls := .type "enumerate", data := .fields #[.none, .bool false, .ref s.heap.objs.size, rawInt 0, .none, .none] } }) :=
  .of_wp fun prog w A R s h => by
    obtain ⟨hp, g, d, tk, os⟩ := s; obtain ⟨h1, h⟩ := h
    have hsub := sub_enumerate
    have q1 : ∀ {A' : Around} {E : Value → Shared → Prop} {Q : Value → Shared → Prop}, Q (.ref hp.objs.size) ⟨hp.push o, g, d, tk, os⟩ → wpAny (model prog w) A' (pyIter v) Q E ⟨hp, g, d, tk, os⟩ :=
      fun q => B.iter prog w _ _ ⟨hp, g, d, tk, os⟩ _ h1 q
    wp_walk using q1
    refine wpAny_stack_any fun st => wpAny_pure ?_
    split
    · rename_i c _ _ _ _ _
      cases (c == Value.type "enumerate")
      · wp_walk using q1
        exact ⟨_, rfl, h⟩
      · wp_walk using q1
        exact ⟨_, rfl, h⟩
    · wp_walk using q1
      exact ⟨_, rfl, h⟩
section
variable {prog : Program} {w : World} {A : Around} {E : Value → Shared → Prop} {s : Shared}
theorem enum_begins1 {v : Value} {o : Obj} {H : Heap → Prop} {Q : Value → Shared → Prop} (B : Begins v o H) (h1 : H s.heap)
    (h : ∀ h', IsEnum h' (s.heap.objs.size + 1) s.heap.objs.size 0 .none → h'.get? s.heap.objs.size = some o → h'.objs.size = s.heap.objs.size + 2 →
      (∀ b o, s.heap.get? b = some o → h'.get? b = some o) → Q (.ref (s.heap.objs.size + 1)) { s with heap := h' }) :
    wpAny (model prog w) A (call (.type "enumerate") [v]) Q E s := by
  refine callType_new F.called_enumerate (by decide) (F.typeCall_enumerate_1 _) (F.newCall_enumerate_1 _) (fun obj => F.args_object_init_2 obj _) F.entry_enumerate_new
    (meets_enumerate_new1 B) ⟨h1, ?_⟩
  have hz : (s.heap.push o).objs.size = s.heap.objs.size + 1 := Heap.size_push ..
  show _ ∧ _
  rw [hz]
  have he : IsEnum ((s.heap.push o).push { cls := .type "enumerate", data := .fields #[.none, .bool false, .ref s.heap.objs.size, rawInt 0, .none, .none] }) (s.heap.objs.size + 1) s.heap.objs.size 0 .none := by
    have := Heap.get?_push_size (s.heap.push o) (o := { cls := .type "enumerate", data := .fields #[.none, .bool false, .ref s.heap.objs.size, rawInt 0, .none, .none] }) rfl
    rw [hz] at this; exact this
  refine ⟨⟨_, he, rfl⟩, h _ he (Heap.get?_push_of_some _ (Heap.get?_push_size _ B.free)) (by rw [Heap.size_push, hz]) fun b o x => Heap.get?_push_of_some _ (Heap.get?_push_of_some _ x)⟩
theorem wpAny_pyNext_enum_endT {e it t : Addr} {i : Nat} {items : Array Value} {old : Value} {Q : Option Value → Shared → Prop} (hh : A.handled = none)
    (he : IsEnum s.heap e it i old) (hit : s.heap.IsTupleIter it t i) (hl : s.heap.IsTuple t items) (hx : items[i]? = none)
    (hQ : ∀ h', Heap.ExtBut it s.heap h' → Q none { s with heap := h' }) : wpAny (model prog w) A (pyNext (.ref e)) Q E s := by
  have hT : s.TypeIs (.ref e) "enumerate" := ⟨_, he, rfl⟩
  unfold pyNext
  refine wpAny_bind (wpAny_attempt (wpAny_callSpecial?_slot (name := Str.ofString "__next__") hT F.slot_enumerate_next
    (wpAny_call_entry F.slot_enumerate_next hT F.entry_enumerate_next ?_ (F.args_enumerate_next_1 _))))
  show wpAny _ _ (field (.ref e) 2 >>= _) _ _ _
  refine wpAny_bind (wpAny_field he rfl (x := .ref it) rfl ?_)
  refine wpAny_bind (wpAny_nextOf_tuple_end hh hit hl hx fun h' x he' hx' => ?_)
  obtain ⟨o, ho, hc⟩ := hx'
  refine wpAny_bind (wpAny_isInstance (T := "StopIteration") (b := true) ⟨o, ho, hc⟩ isSubtype_stop ?_)
  exact wpAny_pure (hQ _ he')
end
/-- the tuple at a, each item in a new pair -/
def IteT (K : PySem.W.Frag) (a : Addr) : It :=
  ⟨fun i H => ∃ (xs : List V) (x : V), SqT K H a xs ∧ xs[i]? = some x, fun i H v H' => ∃ T x, v = .ref T ∧ H T = none ∧ H' = upd H T (.tup [.int (i : Nat), x]) ∧ ∀ xs, SqT K H a xs → xs[i]? = some x, fun i H => ∃ xs : List V, SqT K H a xs ∧ xs.length ≤ i⟩
theorem turn_enumT {P : Program} {w : World} {K : PySem.W.Frag} {elts : List Expr} {kk : Nat} {tpos : Pos} (a e it : Addr) :
    Turn P w K (.Tuple elts kk tpos) (IteT K a) [e, it] e (fun i h => (∃ old, IsEnum h e it ((i : Nat) : Int) old) ∧ h.IsTupleIter it a i ∧ e ≠ it) where
  mem := by simp
  obj := fun i h st b hb => by
    obtain ⟨⟨old, he⟩, ⟨o, ho, hc, hd⟩, _⟩ := st
    have e' : b = e ∨ b = it := by simpa using hb
    rcases e' with z | z
    · rw [z]; exact ⟨_, he, fun v q => nomatch q⟩
    · rw [z]; exact ⟨o, ho, fun v q => by rw [hd] at q; cases q⟩
  keep := fun i h h' st k => let ⟨⟨old, he⟩, hi, hne⟩ := st; ⟨⟨old, k e (by simp) _ he⟩, hi.at fun o q => k it (by simp) o q, hne⟩
  item := by
    intro X hP hw hK hc i pins s σ H E I hf st hg
    subst hP hw hK
    obtain ⟨⟨old, he⟩, hit, hne⟩ := st
    obtain ⟨xs, x, hq, hx⟩ := hg
    obtain ⟨its, rv, p, hz⟩ := I.tuple hq
    obtain ⟨u, hu, ru⟩ := rv.get hx
    have hel : e < s.heap.objs.size := Heap.lt_size he
    have hil : it < s.heap.objs.size := by obtain ⟨_, q, _⟩ := hit; exact Heap.lt_size q
    have hta : a ≠ it := by
      intro hh
      obtain ⟨o, ho, hc1, _⟩ := hit
      obtain ⟨o', ho', hc2, _⟩ := p
      rw [hh, ho] at ho'
      cases ho'
      rw [hc1] at hc2
      exact absurd (congrArg (fun v => match v with | Value.type n => n | _ => "") hc2) (by decide)
    have hte : e ≠ a := by
      intro hh
      obtain ⟨o', ho', hc2, _⟩ := p
      rw [← hh] at ho'
      have he2 : s.heap.get? e = _ := he
      rw [he2] at ho'
      cases ho'
      have hc3 : Value.type "enumerate" = Value.type "tuple" := hc2
      exact absurd (congrArg (fun v => match v with | Value.type n => n | _ => "") hc3) (by decide)
    have D := Draws.tuple (prog := X.prog) (w := X.w) (A := X.A.in1) (I.ok.hd hc) it a hta its.toArray
    have hi : its.toArray[i]? = some u := by simpa using hu
    have hlt : i < its.toArray.size := by
      rcases Nat.lt_or_ge i its.toArray.size with h | h
      · exact h
      · rw [Array.getElem?_eq_none h] at hi; cases hi
    refine wpAny_pyNext_enum_itemD D he ⟨hit, p⟩ hlt hne (by simp [hne, hte]) fun y h' tk hP ho hit' hT hsz hk => ?_
    have hy : y = u := by
      have : its.toArray[i]? = some y := hP
      rw [hi] at this; cases this; rfl
    subst hy
    refine ⟨_, rfl, wpAny_letOwnedTupleGo_enum (s := { s with heap := h', toks := tk + 1 }) ho fun h'' he' sb => ?_⟩
    have hT2 : h''.get? s.heap.objs.size = some { cls := .type "tuple", data := .seq #[.int i tk, y] } := (sb.2 _ (Nat.ne_of_gt hel)).trans hT
    have new : ObjOk X.prog X.w (upd H s.heap.objs.size (.tup [.int (i : Nat), x])) h'' s.heap.objs.size (.tup [.int (i : Nat), x]) :=
      ⟨by show 2 ≤ sizeLine; decide, [.int i tk, y], .cons ⟨_, rfl⟩ (.cons ru .nil), ⟨_, hT2, rfl, _, rfl⟩⟩
    have I1 : Inv X pins σ (upd H s.heap.objs.size (.tup [.int (i : Nat), x])) { s with heap := h'', toks := tk + 1 } :=
      I.turnedNew (ch := [e, it]) (fun b ob hb q => (sb.2 b (fun z => hb (by simp [z]))).trans (hk b ob (fun z => hb (by simp [z])) (fun z => hb (by simp [z])) q)) hf (Nat.le_refl _) new
    refine ⟨.ref s.heap.objs.size, _, I1, rfl, ⟨_, x, rfl, I.hok.fresh (Nat.le_refl _), rfl, fun ys hy => by rw [I.tuple_inj hy hq]; exact hx⟩, ⟨⟨y, ?_⟩, hit'.1.at fun o q => (sb.2 it (Ne.symm hne)).trans q, hne⟩, fun b hb => ?_⟩
    · have e1 : ((i + 1 : Nat) : Int) = (i : Int) + 1 := by omega
      rw [e1]; exact he'
    · have hb' : b < s.heap.objs.size := by
        have e' : b = e ∨ b = it := by simpa using hb
        rcases e' with z | z
        · rw [z]; exact hel
        · rw [z]; exact hil
      rw [upd_ne (Nat.ne_of_lt hb')]
      exact (hf b hb).1
  done := by
    intro X hP hw hK hc i pins s σ H E I hf st hg
    subst hP hw hK
    obtain ⟨⟨old, he⟩, hit, hne⟩ := st
    obtain ⟨xs, hq, hx⟩ := hg
    obtain ⟨its, rv, p, hz⟩ := I.tuple hq
    obtain ⟨f0, f1, f2, f3, f4, f5⟩ := hf it (by simp)
    have hl := rv.length
    exact wpAny_pyNext_enum_endT (I.ok.hd hc) he hit p (by simp; omega) fun h' eb => ⟨rfl, I.turned (t' := s.toks) (fun b o hb q => eb b o hb q) f0 f1 f3 f4 f5⟩
  self := fun A i s Q E st h => let ⟨⟨_, he⟩, _⟩ := st; wpAny_pyIter_enum he h
def iEnumA (K : PySem.W.Frag) (ta : TA) : TI := fun σ H R => ta σ H fun vs H1 => ∃ a xs, vs = [.ref a] ∧ ((SqT K H1 a xs ∧ R (IteT K a) H1) ∨ (SqL K H1 a xs ∧ R (Ite K a) H1))
theorem pi_enumA {X : Cx} {e : Expr} {ta : TA} {p pos tpos : Pos} {elts : List Expr} {kk : Nat} (hg : Gl X "enumerate") (hm : X.mg "enumerate" = none) (ha : PA X [e] ta) (hs : starEach [e] X.env = [(false, eval e X.env)] := by rfl) :
    PI X (.Tuple elts kk tpos) (.Call (.Name "enumerate" p) [e] [] pos) (iEnumA X.K ta) := by
  refine ⟨fun pins s σ H R I h => ?_⟩
  refine Call_ (ld_blt I hg hm boot_enumerate (PyProof.Rows.callWith_type1 (thn (ha.run pos pins s σ H _ I h) fun us s1 ⟨vs, H1, I1, r1, q1⟩ => ?_) hs rfl))
  obtain ⟨a, xs, ex, q⟩ := q1
  subst ex
  cases r1 with
  | cons r rr =>
    cases rr
    cases r
    rcases q with ⟨hq, q⟩ | ⟨hq, q⟩
    · obtain ⟨its, rv, p', hz⟩ := I1.tuple hq
      refine enum_begins1 (begins_tuple a its.toArray) p' fun h' he hit hsz hk => wpAny_pyIter_enum he ?_
      have I2 : Inv X pins σ H1 { s1 with heap := h' } := I1.kept (t' := s1.toks) hk
      refine ⟨s1.heap.objs.size + 1, [s1.heap.objs.size + 1, s1.heap.objs.size], _, _, H1, rfl, I2, turn_enumT a (s1.heap.objs.size + 1) s1.heap.objs.size, ⟨⟨.none, he⟩, ⟨_, hit, rfl, rfl⟩, Nat.succ_ne_self _⟩, fun b hb => ?_, q⟩
      have e' : b = s1.heap.objs.size + 1 ∨ b = s1.heap.objs.size := by simpa using hb
      have hle : s1.heap.objs.size ≤ b := by
        rcases e' with z | z
        · rw [z]; exact Nat.le_add_right _ _
        · rw [z]; exact Nat.le_refl _
      exact I1.fpOk hle (I1.hok.fresh hle)
    · obtain ⟨its, rv, p', hz⟩ := I1.list hq
      refine call_enumerate_list p'.isList fun h' he hit hsz hk => wpAny_pyIter_enum he ?_
      have I2 : Inv X pins σ H1 { s1 with heap := h' } := I1.kept (t' := s1.toks) hk
      refine ⟨s1.heap.objs.size + 1, [s1.heap.objs.size + 1, s1.heap.objs.size], _, _, H1, rfl, I2, turn_enum a (s1.heap.objs.size + 1) s1.heap.objs.size, ⟨⟨.none, he⟩, hit, Nat.succ_ne_self _⟩, fun b hb => ?_, q⟩
      have e' : b = s1.heap.objs.size + 1 ∨ b = s1.heap.objs.size := by simpa using hb
      have hle : s1.heap.objs.size ≤ b := by
        rcases e' with z | z
        · rw [z]; exact Nat.le_add_right _ _
        · rw [z]; exact Nat.le_refl _
      exact I1.fpOk hle (I1.hok.fresh hle)
def enumD (k : Nat) : List D → List D
  | [] => []
  | d :: ds => .tup [.int k, d] :: enumD (k + 1) ds
theorem enumD_len : ∀ (k : Nat) (ds : List D), (enumD k ds).length = ds.length
  | _, [] => rfl
  | k, d :: ds => by rw [enumD, List.length_cons, enumD_len, List.length_cons]
theorem enumD_get : ∀ {k i : Nat} {ds : List D} {d : D}, (enumD k ds)[i]? = some d → ∃ x, ds[i]? = some x ∧ d = .tup [.int ((k + i : Nat) : Int), x]
  | k, i, [], d, h => by simp [enumD] at h
  | k, 0, x :: ds, d, h => by
    simp only [enumD, List.getElem?_cons_zero, Option.some.injEq] at h
    exact ⟨x, rfl, h.symm⟩
  | k, i + 1, x :: ds, d, h => by
    simp only [enumD, List.getElem?_cons_succ] at h
    obtain ⟨y, hy, e⟩ := enumD_get h
    refine ⟨y, by simpa using hy, ?_⟩
    rw [e]
    have : k + 1 + i = k + (i + 1) := by omega
    rw [this]
def iEnumD (g : Ev → Sto → R (List D)) : Ev → Sto → R Src := fun ρ S => (g ρ S).bind fun ds S1 => match ds with
  | [d] => (srcOf d S1).bind fun q S2 => .ok (enumD 0 q.1, q.2) S2
  | _ => .stuck
theorem di_enum {X : Cx} {W : WX} {e : Expr} {g : Ev → Sto → R (List D)} {p pos tpos : Pos} {elts : List Expr} {kk : Nat} (hg : Gl X "enumerate") (hm : X.mg "enumerate" = none) (ha : DA X W [e] g) (hs : starEach [e] X.env = [(false, eval e X.env)] := by rfl) :
    DI X W (.Tuple elts kk tpos) (.Call (.Name "enumerate" p) [e] [] pos) (iEnumD g) := by
  refine PI.imp (pi_enumA hg hm ha hs) fun σ H Rr ⟨ι, ρ, S, hE, hS, q⟩ => ⟨ι, ρ, S, hE, hS, (Post.bind q).mono fun ds S1 ι1 H1 G1 s1 h1 vs rs => ?_⟩
  split at h1
  · rename_i d
    obtain ⟨v, rfl, rv⟩ := RepL.one_inv rs
    cases e : srcOf d S1 with
    | ok q S2 =>
      rw [e] at h1
      obtain ⟨rfl, a, rfl, st, hq⟩ := src_stands e s1 rv
      have h2 := h1.here s1
      rcases st with st | st
      · obtain ⟨us, q1, r1⟩ := st ι1 H1 _ (Grow.refl _ _) s1 hq
        refine ⟨a, us, rfl, .inl ⟨q1, h2 _ fun ι2 H2 S3 G2 s2 g2 => ?_⟩⟩
        obtain ⟨ws, q3, r3⟩ := st ι2 H2 S3 G2 s2 g2
        refine ⟨fun i hi => ⟨ws, q3, by rw [← RepL.length _ _ r3]; rw [enumD_len] at hi; exact hi⟩, fun i d hd => ?_⟩
        obtain ⟨x, hx, rfl⟩ := enumD_get hd
        obtain ⟨vx, hvx, rx⟩ := RepL.get _ _ r3 i x hx
        refine ⟨⟨ws, vx, q3, hvx⟩, fun z H3 hz => ?_⟩
        obtain ⟨T, x', rfl, hT, rfl, hx'⟩ := hz
        have e1 := hx' ws q3
        rw [hvx] at e1
        cases e1
        rw [Nat.zero_add]
        exact ⟨Grow.upd hT, s2.upd hT, rep_tup s2 hT (RepL.cons int_rep (RepL.one rx))⟩
      · obtain ⟨us, q1, r1⟩ := st ι1 H1 _ (Grow.refl _ _) s1 hq
        refine ⟨a, us, rfl, .inr ⟨q1, h2 _ fun ι2 H2 S3 G2 s2 g2 => ?_⟩⟩
        obtain ⟨ws, q3, r3⟩ := st ι2 H2 S3 G2 s2 g2
        refine ⟨fun i hi => ⟨ws, q3, by rw [← RepL.length _ _ r3]; rw [enumD_len] at hi; exact hi⟩, fun i d hd => ?_⟩
        obtain ⟨x, hx, rfl⟩ := enumD_get hd
        obtain ⟨vx, hvx, rx⟩ := RepL.get _ _ r3 i x hx
        refine ⟨⟨ws, vx, q3, hvx⟩, fun z H3 hz => ?_⟩
        obtain ⟨T, x', rfl, hT, rfl, hx'⟩ := hz
        have e1 := hx' ws q3
        rw [hvx] at e1
        cases e1
        rw [Nat.zero_add]
        exact ⟨Grow.upd hT, s2.upd hT, rep_tup s2 hT (RepL.cons int_rep (RepL.one rx))⟩
    | er x S2 => rw [e] at h1; exact absurd e (by unfold srcOf; split <;> first | (intro z; cases z) | (split <;> (intro z; cases z)))
    | stuck => rw [e] at h1; exact h1.elim
  · exact h1.elim
end DL
namespace DL
open PySem PySem.Spec L2
open PyProof.Rows hiding St
theorem empty_rep {K : PySem.W.Frag} {ι : List Addr} {H : Hp} {ds : List D} {vs : List V} (r : RepL K ι H ds vs) : vs.isEmpty = ds.isEmpty := by
  have := RepL.length _ _ r
  cases ds <;> cases vs <;> simp_all
end DL
namespace DL
open PySem PySem.Spec L2
open PyProof.Rows hiding St
end DL
namespace DL
open PySem PySem.Spec L2
open PyProof.Rows hiding St
end DL
namespace DL
open PySem PySem.Spec L2
open PyProof.Rows hiding St
end DL
namespace DL
open PySem PySem.Spec L2
open PyProof.Rows hiding St
end DL
namespace DL
open PySem PySem.Spec L2
open PyProof.Rows hiding St
section
variable {X : Cx} {W : WX} {pos : Pos} {e : Expr}
theorem PG.or {tg : Expr} {t u : TG} (h : PG X tg t) (h' : PG X tg u) : PG X tg (fun v σ H Q => t v σ H Q ∨ u v σ H Q) := ⟨fun pins s σ H v w Q I r q => by
  rcases q with q | q
  · exact h.run pins s σ H v w Q I r q
  · exact h'.run pins s σ H v w Q I r q⟩
theorem seqOf_fl (ds : List D) (S : Sto) : seqOf S (.fl ds) = some ds := rfl
theorem seqOf_tup (ds : List D) (S : Sto) : seqOf S (.tup ds) = some ds := rfl
theorem seqOf_ti (l : List Int) (S : Sto) : seqOf S (ti l) = some (l.map D.int) := rfl
def tSq (n : Nat) (U : Tgs) : Tg := fun d ρ S => match seqOf S d with
  | some ds => if ds.length = n then U ds ρ S else none
  | _ => none
theorem dg_sq {es : List Expr} {k : Nat} {U : Tgs} {n : Nat} (hc : X.calm = true) (h : DGs X es U) (hn : (assignEach es X.env).length = n := by rfl) (hst : (assignEach es X.env).findIdx? (·.1) = none := by rfl) : DG X (.Tuple es k pos) (tSq n U) :=
  PG.imp (PG.or (pg_tup hc h hn hst) (pg_unl hc h hn hst)) fun v σ H Q ⟨ι, ρ, S, d, ρ', S', hE, hS, r, e, h⟩ => by
    unfold tSq at e
    cases hq : seqOf S d with
    | none => rw [hq] at e; cases e
    | some ds =>
      rw [hq] at e
      simp only at e
      by_cases hl : ds.length = n
      · rw [if_pos hl] at e
        obtain ⟨p, vs, rfl, q, rl⟩ := seq_at hS r hq
        rcases q with q | q
        · exact .inr ⟨p, vs, rfl, q, by rw [← RepL.length _ _ rl]; exact hl, ι, ρ, S, ds, ρ', S', hE, hS, rl, e, h⟩
        · exact .inl ⟨p, vs, rfl, q, by rw [← RepL.length _ _ rl]; exact hl, ι, ρ, S, ds, ρ', S', hE, hS, rl, e, h⟩
      · rw [if_neg hl] at e; cases e
/-- two names -/
def sSet2 (i j : Nat) (f : Ev → Sto → R D) : Ev → Sto → SR := fun ρ S => (f ρ S).toS ρ fun d S1 => .nx ((ρ.set i (some d)).set j (some d)) S1
end
end DL
namespace DL
open PySem PySem.Spec L2
open PyProof.Rows hiding St
mutual
def frzW (look : Nat → Option D) (k : Nat) : D → Option D
  | .loc n => if n < k then some (.loc n) else look n
  | .tup ds => (frzWL look k ds).map .tup
  | .fl ds => (frzWL look k ds).map .fl
  | .kl ds => if lowL k ds = true then some (.kl ds) else none
  | .fd kvs => if lowK k kvs = true then some (.fd kvs) else none
  | .exc c fs => if lowF k fs = true then some (.exc c fs) else none
  | .non => some .non
  | .bl b => some (.bl b)
  | .int i => some (.int i)
  | .str x => some (.str x)
  | .ty n => some (.ty n)
  | .fn n => some (.fn n)
def frzWL (look : Nat → Option D) (k : Nat) : List D → Option (List D)
  | [] => some []
  | d :: ds => (frzW look k d).bind fun e => (frzWL look k ds).map fun es => e :: es
end
def frzK (S : Sto) (k : Nat) : Nat → Nat → Option D
  | 0 => fun _ => none
  | f + 1 => fun n => match S[n]? with
    | some (.lst ds) => (frzWL (frzK S k f) k ds).map .fl
    | _ => none
def frz (S : Sto) (k f : Nat) (d : D) : Option D := frzW (frzK S k f) k d
section
variable {K : PySem.W.Frag} {ι : List Addr} {H : Hp}
mutual
theorem RepV.frzW {look : Nat → Option D} {k : Nat} (hk : ∀ n a d', ι[n]? = some a → k ≤ n → look n = some d' → RepV K (ι.take k) H d' (.ref a)) : ∀ (d : D) (v : V) (d' : D), RepV K ι H d v → DL.frzW look k d = some d' → RepV K (ι.take k) H d' v
  | .non, _, _, h, e => by rw [DL.frzW] at e; cases e; rw [RepV] at h ⊢; exact h
  | .bl _, _, _, h, e => by rw [DL.frzW] at e; cases e; rw [RepV] at h ⊢; exact h
  | .int _, _, _, h, e => by rw [DL.frzW] at e; cases e; rw [RepV] at h ⊢; exact h
  | .str _, _, _, h, e => by rw [DL.frzW] at e; cases e; rw [RepV] at h ⊢; exact h
  | .ty _, _, _, h, e => by rw [DL.frzW] at e; cases e; rw [RepV] at h ⊢; exact h
  | .fn _, _, _, h, e => by rw [DL.frzW] at e; cases e; rw [RepV] at h ⊢; exact h
  | .loc n, v, d', h, e => by
    rw [DL.frzW] at e
    by_cases hn : n < k
    · rw [if_pos hn] at e; cases e
      exact RepV.low k (.loc n) v h (by simpa [DL.low] using hn)
    · rw [if_neg hn] at e
      rw [RepV] at h
      obtain ⟨a, ea, rfl⟩ := h
      exact hk n a d' ea (by omega) e
  | .tup ds, v, d', h, e => by
    rw [DL.frzW] at e
    obtain ⟨es, e1, rfl⟩ := Option.map_eq_some_iff.mp e
    rw [RepV] at h ⊢
    obtain ⟨a, vs, rfl, t, r⟩ := h
    refine ⟨a, vs, rfl, ?_, RepL.frzW hk ds vs es r e1⟩
    rcases t with ⟨n, t⟩ | t
    · exact .inl ⟨take_out n, t⟩
    · exact .inr t
  | .fl ds, v, d', h, e => by
    rw [DL.frzW] at e
    obtain ⟨es, e1, rfl⟩ := Option.map_eq_some_iff.mp e
    rw [RepV] at h ⊢
    obtain ⟨a, vs, rfl, t, r⟩ := h
    exact ⟨a, vs, rfl, ⟨take_out t.1, t.2⟩, RepL.frzW hk ds vs es r e1⟩
  | .kl ds, v, d', h, e => by
    rw [DL.frzW] at e
    by_cases hl : lowL k ds = true
    · rw [if_pos hl] at e; cases e
      exact RepV.low k (.kl ds) v h (by rw [DL.low]; exact hl)
    · rw [if_neg hl] at e; cases e
  | .fd kvs, v, d', h, e => by
    rw [DL.frzW] at e
    by_cases hl : lowK k kvs = true
    · rw [if_pos hl] at e; cases e
      exact RepV.low k (.fd kvs) v h (by rw [DL.low]; exact hl)
    · rw [if_neg hl] at e; cases e
  | .exc c fs, v, d', h, e => by
    rw [DL.frzW] at e
    by_cases hl : lowF k fs = true
    · rw [if_pos hl] at e; cases e
      exact RepV.low k (.exc c fs) v h (by rw [DL.low]; exact hl)
    · rw [if_neg hl] at e; cases e
theorem RepL.frzW {look : Nat → Option D} {k : Nat} (hk : ∀ n a d', ι[n]? = some a → k ≤ n → look n = some d' → RepV K (ι.take k) H d' (.ref a)) : ∀ (ds : List D) (vs : List V) (es : List D), RepL K ι H ds vs → DL.frzWL look k ds = some es → RepL K (ι.take k) H es vs
  | [], vs, es, h, e => by rw [frzWL] at e; cases e; rw [RepL] at h ⊢; exact h
  | d :: ds, vs, es, h, e => by
    rw [frzWL] at e
    obtain ⟨x, hx, e2⟩ := Option.bind_eq_some_iff.mp e
    obtain ⟨xs, hxs, rfl⟩ := Option.map_eq_some_iff.mp e2
    rw [RepL] at h ⊢
    obtain ⟨v, r, rfl, a, b⟩ := h
    exact ⟨v, r, rfl, RepV.frzW hk d v x a hx, RepL.frzW hk ds r xs b hxs⟩
end
theorem frzK_ok {S : Sto} (s : Sim K ι H S) (k : Nat) : ∀ (f n : Nat) (a : Addr) (d' : D), ι[n]? = some a → k ≤ n → frzK S k f n = some d' → RepV K (ι.take k) H d' (.ref a)
  | 0, n, a, d', _, _, e => by cases e
  | f + 1, n, a, d', ea, hn, e => by
    unfold frzK at e
    cases hs : S[n]? with
    | none => rw [hs] at e; cases e
    | some o =>
      rw [hs] at e
      cases o with
      | lst ds =>
        obtain ⟨es, e1, rfl⟩ := Option.map_eq_some_iff.mp e
        obtain ⟨vs, h1, h2⟩ := s.ob n a _ ea hs
        rw [RepV]
        refine ⟨a, vs, rfl, ⟨fun z => ?_, h1⟩, RepL.frzW (fun m b d'' => frzK_ok s k f m b d'') ds vs es h2 e1⟩
        obtain ⟨m, hm, em⟩ := List.mem_iff_getElem.mp z
        have hm' : m < k := by rw [List.length_take] at hm; omega
        rw [List.getElem_take] at em
        obtain ⟨q3, q4⟩ := List.getElem?_eq_some_iff.mp ea
        have : m = n := (List.getElem_inj s.nd).mp (em.trans q4.symm)
        omega
      | _ => cases e
end
open Classical in
noncomputable def closeF (S : Sto) (d : D) (S' : Sto) : R D := if Trunc S S' then (match frz S' S.length 8 d with
    | some d' => .ok d' (S'.take S.length)
    | none => .stuck) else .stuck
theorem cl_frz : ClOk closeF := fun K E ι ι' H H' S S' d v Q s s' G r h => by
  unfold closeF at h
  split at h
  · rename_i ht
    split at h
    · rename_i d' hd
      obtain ⟨s2, G2⟩ := s.trunc s' G ht
      refine h ι H' v G2 s2 ?_
      have hp : ι'.take S.length = ι := by
        obtain ⟨r, e⟩ := G.pre
        rw [← s.len, ← e, List.take_left]
      have := RepV.frzW (fun n a d' => frzK_ok s' S.length 8 n a d') d v d' r hd
      rw [hp] at this; exact this
    · exact h.elim
  · exact h.elim
/-- a list times a number, as a place -/
noncomputable def dMulL (a b : D) (S : Sto) : R D := match b with
  | .int k => (match lstOf S a with
    | some xs => ifp (-(2 ^ 63) ≤ k ∧ k < 2 ^ 63 ∧ xs.length * k.toNat ≤ sizeLine) (mkLoc (List.replicate k.toNat xs).flatten S) .stuck
    | _ => .stuck)
  | _ => .stuck
theorem k_mulL {K : PySem.W.Frag} : OpK K rRep dMulL := by
  intro W σ ι H S x y a b Q s rx ry h
  unfold dMulL at h
  split at h
  · rename_i k
    split at h
    · rename_i xs e
      unfold ifp at h
      split at h
      · rename_i hl
        obtain ⟨p, vs, rfl, hp, rp⟩ := lst_at s rx e
        refine ⟨p, k, vs, rfl, int_at ry, hp, hl.1, hl.2.1, ?_, new_loc h s (RepL.replicate rp _)⟩
        rw [← RepL.length _ _ rp]; exact hl.2.2
      · exact h.elim
    · exact h.elim
  · exact h.elim
end DL
namespace DL
open PySem PySem.Spec L2
open PyProof.Rows hiding St
def rEqY (K : PySem.W.Frag) (neg : Bool) : R2 := fun x y H Q => ∃ a b xs, x = V.ref a ∧ y = V.ref b ∧ SqL K H a xs ∧ SqL K H b [] ∧ Q (.bl (if neg then !xs.isEmpty else xs.isEmpty)) H
theorem op_eqY {X : Cx} (hu : X.A.units + 64 < cLine) : OpR X (compareOp .Eq) (rEqY X.K false) := by
  intro pins s σ H x y v u Q I rx ry h
  obtain ⟨a, b, xs, rfl, rfl, ha, hb, q⟩ := h
  cases (show v = Value.ref a from rx)
  cases (show u = Value.ref b from ry)
  obtain ⟨us, r1, p1, _⟩ := I.list ha
  obtain ⟨ws, r2, p2, _⟩ := I.list hb
  cases r2
  have hl := r1.length
  cases xs with
  | nil =>
    cases us with
    | nil => exact SeqAt.RcAt.lists (e := fun _ => true) p1.isList p2.isList rfl (by omega) (fun j h1 h2 => absurd h2 (by simp)) X.prog X.w _ _ ⟨.bl true, H, I, rfl, q⟩
    | cons u us => simp at hl
  | cons x xs =>
    cases us with
    | nil => simp at hl
    | cons u us => exact SeqAt.RcAt.lists_lengths p1.isList p2.isList (by simp) (by omega) X.prog X.w _ _ ⟨.bl false, H, I, rfl, q⟩
theorem op_neY {X : Cx} (hu : X.A.units + 64 < cLine) : OpR X (compareOp .NotEq) (rEqY X.K true) := by
  intro pins s σ H x y v u Q I rx ry h
  obtain ⟨a, b, xs, rfl, rfl, ha, hb, q⟩ := h
  cases (show v = Value.ref a from rx)
  cases (show u = Value.ref b from ry)
  obtain ⟨us, r1, p1, _⟩ := I.list ha
  obtain ⟨ws, r2, p2, _⟩ := I.list hb
  cases r2
  have hl := r1.length
  cases xs with
  | nil =>
    cases us with
    | nil => exact SeqAt.RcNeAt.lists (e := fun _ => true) p1.isList p2.isList rfl (by omega) (fun j h1 h2 => absurd h2 (by simp)) X.prog X.w _ _ ⟨.bl false, H, I, rfl, q⟩
    | cons u us => simp at hl
  | cons x xs =>
    cases us with
    | nil => simp at hl
    | cons u us => exact SeqAt.RcNeAt.lists_lengths p1.isList p2.isList (by simp) (by omega) X.prog X.w _ _ ⟨.bl true, H, I, rfl, q⟩
/-- a list against [] -/
def dEqY (neg : Bool) (a b : D) (S : Sto) : R D := match b with
  | .fl [] => (match a with
    | .fl xs => .ok (.bl (if neg then !xs.isEmpty else xs.isEmpty)) S
    | .loc n => (match getQ S n with
      | some xs => .ok (.bl (if neg then !xs.isEmpty else xs.isEmpty)) S
      | none => .stuck)
    | a => dEq neg a (.fl []) S)
  | b => dEq neg a b S
theorem or_eqY {X : Cx} (hu : X.A.units + 64 < cLine) : OpR X (compareOp .Eq) (fun x y H Q => rEqY X.K false x y H Q ∨ (rEq x y H Q ∨ rEqD X.K x y H Q)) := OpR.or (op_eqY hu) (or_eq hu)
theorem or_neY {X : Cx} (hu : X.A.units + 64 < cLine) : OpR X (compareOp .NotEq) (fun x y H Q => rEqY X.K true x y H Q ∨ (rNe x y H Q ∨ rNeD X.K x y H Q)) := OpR.or (op_neY hu) (or_ne hu)
theorem nil_fl {K : PySem.W.Frag} {ι : List Addr} {H : Hp} {y : V} (r : RepV K ι H (.fl []) y) : ∃ b, y = .ref b ∧ SqL K H b [] := by
  rw [RepV] at r
  obtain ⟨b, vs, rfl, h, rl⟩ := r
  rw [RepL] at rl
  subst rl
  exact ⟨b, rfl, h.sq⟩
theorem k_eqY_gen {K : PySem.W.Frag} (neg : Bool) {W : WX} {σ : St} {ι : List Addr} {H : Hp} {S : Sto} {x y : V} {a b : D} {Q : VK} {Z : Prop} (s : Sim K ι H S) (rx : RepV K ι H a x) (ry : RepV K ι H b y)
    (h : Post K W σ ι H (dEqY neg a b S) fun d _ ι' H' => ∀ v, RepV K ι' H' d v → Q v H') (other : ∀ {a b}, RepV K ι H a x → RepV K ι H b y → Post K W σ ι H (dEq neg a b S) (fun d _ ι' H' => ∀ v, RepV K ι' H' d v → Q v H') → Z) : rEqY K neg x y H Q ∨ Z := by
  unfold dEqY at h
  split at h
  · obtain ⟨p, rfl, hp⟩ := nil_fl ry
    split at h
    · rename_i xs
      rw [RepV] at rx
      obtain ⟨q, vs, rfl, hq, rl⟩ := rx
      refine .inl ⟨q, p, vs, rfl, rfl, hq.sq, hp, ?_⟩
      have := h.here s _ bl_rep
      simpa [empty_rep rl] using this
    · rename_i n
      split at h
      · rename_i xs hx
        rw [RepV] at rx
        obtain ⟨q, eq, rfl⟩ := rx
        obtain ⟨vs, hq, rl⟩ := loc_at s eq hx
        refine .inl ⟨q, p, vs, rfl, rfl, hq, hp, ?_⟩
        have := h.here s _ bl_rep
        simpa [empty_rep rl] using this
      · exact h.elim
    · exact .inr (other rx ry h)
  · exact .inr (other rx ry h)
theorem k_eqY {K : PySem.W.Frag} : OpK K (fun x y H Q => rEqY K false x y H Q ∨ (rEq x y H Q ∨ rEqD K x y H Q)) (dEqY false) := fun W σ ι H S x y a b Q s rx ry h => k_eqY_gen false s rx ry h fun ra rb hh => k_eqD W σ ι H S x y _ _ Q s ra rb hh
theorem k_neY {K : PySem.W.Frag} : OpK K (fun x y H Q => rEqY K true x y H Q ∨ (rNe x y H Q ∨ rNeD K x y H Q)) (dEqY true) := fun W σ ι H S x y a b Q s rx ry h => k_eqY_gen true s rx ry h fun ra rb hh => k_neD W σ ι H S x y _ _ Q s ra rb hh
end DL
namespace DL
open PySem PySem.Spec L2
open PyProof.Rows hiding St
end DL
namespace DL
open PySem PySem.Spec L2
open PyProof.Rows hiding St
end DL
namespace DL
open PySem PySem.Spec L2
open PyProof.Rows hiding St
end DL
namespace DL
open PySem PySem.Spec L2
open PyProof.Rows hiding St
end DL
namespace DL
open PySem PySem.Spec L2
open PyProof.Rows hiding St
end DL
namespace DL
open PySem PySem.Spec L2
open PyProof.Rows hiding St
section
variable {X : Cx}
theorem call_tupleZ : CallR X (.type "tuple") (fun xs H Q => ∃ p ys, xs = [.ref p] ∧ SqL X.K H p ys ∧ ∀ l (o : Obj), H l = none → o.cls = .type "tuple" → o.dict = none → Q (.ref l) (upd H l (.frz o (.tup ys)))) := by
  intro pins s σ H xs us Q I r h
  obtain ⟨p, ys, rfl, hq, q⟩ := h
  obtain ⟨u, rfl, rx⟩ := vals1 r
  cases rx
  obtain ⟨its, r', pl, hz⟩ := I.list hq
  have hlen := r'.length
  refine call_tuple_list pl.isList (fun h' kp => ?_) (by simp only [List.size_toArray] <;> omega)
  have I1 : Inv X pins σ H { s with heap := h' } := I.kept (t' := s.toks) kp
  have I2 : Inv X pins σ (upd H h'.objs.size (.frz { cls := .type "tuple", data := .seq its.toArray } (.tup ys))) { s with heap := h'.push { cls := .type "tuple", data := .seq its.toArray } } :=
    I1.laid (t' := s.toks) (fun b o e => Heap.get?_push_of_some _ e) (Nat.le_refl _) (show ObjOk X.prog X.w _ _ _ (.frz _ (.tup ys)) from ⟨Heap.get?_push_size _ rfl, hz, its, r', IsTup.new _ _⟩)
  exact ⟨.ref h'.objs.size, _, I2, rfl, q _ _ (I1.hok.fresh (Nat.le_refl _)) rfl rfl⟩
end
section
variable {K : PySem.W.Frag}
theorem new_tpl {W : WX} {σ : St} {ι : List Addr} {H : Hp} {S : Sto} {ds : List D} {vs : List V} {Q : VK} (h : Post K W σ ι H (.ok (.loc S.length) (S ++ [.tpl ds])) fun d _ ι' H' => ∀ v, RepV K ι' H' d v → Q v H') (s : Sim K ι H S) (r : RepL K ι H ds vs) :
    ∀ p (o : Obj), H p = none → o.cls = .type "tuple" → o.dict = none → Q (.ref p) (upd H p (.frz o (.tup vs))) := fun p o hp h1 h2 => by
  refine h (ι ++ [p]) _ (Grow.push hp) (s.push hp ⟨o, vs, upd_same, h1, h2, RepL.grow (Grow.push hp) ds vs r⟩) _ ?_
  rw [RepV]
  exact ⟨p, by rw [← s.len]; simp, rfl⟩
def bTupleZ : Fn := fun ds S => match ds with
  | [d] => (match lstOf S d with
    | some xs => .ok (.loc S.length) (S ++ [.tpl xs])
    | none => .stuck)
  | _ => .stuck
theorem k_tupleZ : CallK K (fun xs H Q => ∃ p ys, xs = [.ref p] ∧ SqL K H p ys ∧ ∀ l (o : Obj), H l = none → o.cls = .type "tuple" → o.dict = none → Q (.ref l) (upd H l (.frz o (.tup ys)))) bTupleZ := by
  intro W σ ι H S vs ds Q s rl h
  unfold bTupleZ at h
  split at h
  · obtain ⟨v, rfl, rv⟩ := RepL.one_inv rl
    split at h
    · rename_i xs hx
      obtain ⟨p, us, rfl, q, rq⟩ := lst_at s rv hx
      exact ⟨p, us, rfl, SqL.of q, new_tpl h s rq⟩
    · exact h.elim
  · exact h.elim
def getZ (S : Sto) (n : Nat) : Option (List D) := match S[n]? with
  | some (.tpl ds) => some ds
  | _ => none
def isTpl (S : Sto) (d : D) : Bool := match d with
  | .loc n => (getZ S n).isSome
  | _ => false
/-- a tuple that is known to its object -/
def ZTup (x : V) (H : Hp) : Prop := ∃ (p : Addr) (o : Obj) (xs : List V), x = .ref p ∧ H p = some (.frz o (.tup xs)) ∧ o.cls = .type "tuple" ∧ o.dict = none
theorem z_at {ι : List Addr} {H : Hp} {S : Sto} {n : Nat} {ds : List D} {x : V} (s : Sim K ι H S) (r : RepV K ι H (.loc n) x) (e : getZ S n = some ds) : ∃ p o vs, x = .ref p ∧ H p = some (.frz o (.tup vs)) ∧ o.cls = .type "tuple" ∧ o.dict = none ∧ RepL K ι H ds vs := by
  rw [RepV] at r
  obtain ⟨a, ea, rfl⟩ := r
  unfold getZ at e
  split at e
  · rename_i q
    cases e
    obtain ⟨o, vs, h1, h2, h3, h4⟩ := s.ob _ _ _ ea q
    exact ⟨a, o, vs, rfl, h1, h2, h3, h4⟩
  · cases e
theorem chk_z {ι : List Addr} {H : Hp} {S : Sto} {d : D} {x : V} (s : Sim K ι H S) (r : RepV K ι H d x) (h : isTpl S d = true) : ZTup x H := by
  unfold isTpl at h
  split at h
  · rename_i n
    cases e : getZ S n with
    | none => rw [e] at h; cases h
    | some ds =>
      obtain ⟨p, o, vs, h1, h2, h3, h4, _⟩ := z_at s r e
      exact ⟨p, o, vs, h1, h2, h3, h4⟩
  · cases h
end
section
variable {X : Cx}
def tBMZ (r : V → List V → Hp → VK → Prop) (to : TE) (t : TA) : TE := fun σ H Q => to σ H fun x H1 => ZTup x H1 ∧ t σ H1 fun xs H2 => r x xs H2 Q
variable {o e : Expr} {es : List Expr} {to : TE} {t : TA} {name : Str} {apos cpos : Pos} {id : String} {r : V → List V → Hp → VK → Prop}
theorem pe_bmZ (slot : Slot "tuple" name id) (hty : typeOf (.builtin id) = pure (.type "method_descriptor")) (hm : MtR X id r) (ho : PE X o to) (ha : PA X (e :: es) t)
    (hbase : attributeBase o name X.env (eval o X.env) = eval o X.env := by rfl)
    (hfew : ((backTo cpos (starEach (e :: es) X.env)).all (fun x => !x.1) && (backToKw cpos (keywordEach [] X.env)).all (fun x => x.1.isSome)
      && decide ((e :: es).length + ([] : List Keyword).length + (if ([] : List Keyword).isEmpty then 0 else 1) < 30)) = true := by rfl)
    (hline : (apos.endLine == cpos.line) = true := by rfl) (hs : starEach (e :: es) X.env = (false, eval e X.env) :: starEach es X.env := by rfl) (hplain : (backTo cpos (starEach es X.env)).any (·.1) = false := by rfl) :
    PE X (.Call (.Attribute o name apos) (e :: es) [] cpos) (tBMZ r to t) := by
  refine ⟨fun pins s σ H Q I h => ?_⟩
  refine wpAny_Call_method_late hbase hfew hline rfl (thn (ho.run pins s σ H _ I h) fun v s1 ⟨x, H1, I1, r1, ty, q1⟩ => ?_)
  obtain ⟨p, ob, xs, rfl, hp, hc, hd⟩ := ty
  have r0 := r1
  cases r1
  obtain ⟨hg, _⟩ := I1.hok p _ hp
  refine ⟨"tuple", id, PySem.F.plainAttrs_tuple, slot, hty, ⟨ob, hg, hc⟩, (fun a e => by cases e; exact ⟨ob, hg, hd⟩), ?_⟩
  have hA := ha.run cpos pins s1 σ H1 _ I1 q1
  rw [hs] at hA ⊢
  refine Calls.callWith_builtin (by show (false || (backTo cpos (starEach es X.env)).any (·.1)) = false; rw [hplain] <;> rfl) (Calls.evalArgs_plain ?_)
  exact thn hA fun us s2 ⟨vs, H2, I2, r2, q2⟩ => hm pins s2 σ H2 _ vs _ us Q I2 r0 r2 q2
def rCntZ (K : PySem.W.Frag) : V → List V → Hp → VK → Prop := fun x xs H Q => ∃ (a : Addr) (y : V) (d : PyData) (ds : List PyData), x = V.ref a ∧ xs = [y] ∧ Dp K H (V.ref a) (.tuple ds) ∧ Dp K H y d ∧ SeqAt.shaped (.list ds) = true ∧ SeqAt.shaped d = true ∧ Q (.int (ds.countP fun z => PyData.eqv z d : Nat)) H
theorem mt_cntZ (hu : X.A.units + 65 < cLine) : MtR X "tuple.count" (rCntZ X.K) := by
  intro pins s σ H x xs v us Q I rx rxs h
  obtain ⟨a, y, d, ds, rfl, rfl, hl, hy, sl, sd, q⟩ := h
  cases rx
  obtain ⟨uy, rfl, ry⟩ := rxs.one
  obtain ⟨bs, r1⟩ := Dp.reads I d y uy hy ry
  have hroom : X.A.units + 1 + min (PyData.depthAll ds) d.depth < cLine := room_in_shaped sd hu
  cases hl with
  | tup hs ha =>
    obtain ⟨its, rv, p, hlen⟩ := I.tuple hs
    obtain ⟨as, h4⟩ := Dp.readsAll I ds _ its ha rv
    exact SeqAt.count_tuple_data (vs := its.toArray) p (show ReadsAll s.heap its.toArray.toList ds as from h4) r1 (PyData.plainAll_of_canLay0 ds (SeqAt.canLay_of_shaped sl)) (PyData.plain_of_canLay0 d (SeqAt.canLay_of_shaped sd)) hroom ⟨.int _, H, I.tok _, ⟨_, rfl⟩, q⟩
end
def mCntZ : Mt := fun o ds S => match o, ds with
  | .loc n, [d] => (match getZ S n with
    | some xs => (match pyL xs, pyS S d with
      | some ps, some p => if SeqAt.shaped (.list ps) = true ∧ SeqAt.shaped p = true then .ok (.int (ps.countP fun z => PyData.eqv z p : Nat)) S else .stuck
      | _, _ => .stuck)
    | none => .stuck)
  | _, _ => .stuck
theorem k_cntZ {K : PySem.W.Frag} : MtK K (rCntZ K) mCntZ := by
  intro W σ ι H S x vs a ds Q s rx rl h
  unfold mCntZ at h
  split at h
  · rename_i n d
    obtain ⟨u, rfl, ru⟩ := RepL.one_inv rl
    split at h
    · rename_i xs hx
      split at h
      · rename_i ps p e1 e2
        split at h
        · rename_i hl
          obtain ⟨b, o, vs, rfl, h1, _, _, h4⟩ := z_at s rx hx
          have hn := noDict_shaped hl.1
          exact ⟨b, u, p, ps, rfl, rfl, .tup (.inl (.inr ⟨o, h1⟩)) (pyL_dp xs vs ps h4 e1 (by simpa [PyData.hasDict] using hn)), pyS_dp s ru e2 (noDict_shaped hl.2), hl.1, hl.2, h.here s _ int_rep⟩
        · exact h.elim
      · exact h.elim
    · exact h.elim
  · exact h.elim
section
variable {X : Cx} {W : WX} {o e : Expr} {es : List Expr} {apos cpos : Pos} {id : String} {name : Str} {r : V → List V → Hp → VK → Prop} {m : Mt} {f : Ev → Sto → R D} {g : Ev → Sto → R (List D)}
theorem de_bmZ (slot : Slot "tuple" name id) (hty : typeOf (.builtin id) = pure (.type "method_descriptor")) (hm : MtR X id r) (k : MtK X.K r m) (ho : DE X W o f) (ha : DA X W (e :: es) g)
    (hbase : attributeBase o name X.env (eval o X.env) = eval o X.env := by rfl)
    (hfew : ((backTo cpos (starEach (e :: es) X.env)).all (fun x => !x.1) && (backToKw cpos (keywordEach [] X.env)).all (fun x => x.1.isSome)
      && decide ((e :: es).length + ([] : List Keyword).length + (if ([] : List Keyword).isEmpty then 0 else 1) < 30)) = true := by rfl)
    (hline : (apos.endLine == cpos.line) = true := by rfl) (hs : starEach (e :: es) X.env = (false, eval e X.env) :: starEach es X.env := by rfl)
    (hplain : (backTo cpos (starEach es X.env)).any (·.1) = false := by rfl) : DE X W (.Call (.Attribute o name apos) (e :: es) [] cpos) (eMt isTpl m f g) := by
  refine PE.imp (pe_bmZ slot hty hm ho ha hbase hfew hline hs hplain) fun σ H Q ⟨ι, ρ, S, hE, hS, h⟩ => ⟨ι, ρ, S, hE, hS, (Post.bind h).mono fun a S1 ι1 H1 G1 s1 h1 x rx => ?_⟩
  (try unfold ifp at h1); split at h1
  · rename_i hh
    refine ⟨chk_z s1 rx hh, ι1, ρ, S1, hE.grow G1, s1, (Post.bind h1).mono fun ds S2 ι2 H2 G2 s2 h2 vs rs => ?_⟩
    exact k W σ ι2 H2 S2 x vs a ds Q s2 (RepV.grow G2 _ _ rx) rs h2
  · exact h1.elim
end
end DL
namespace DL
open PySem PySem.Spec L2
open PyProof.Rows hiding St
end DL
namespace DL
open PySem PySem.Spec L2
open PyProof.Rows hiding St
end DL
namespace DL
open PySem L2
open Sem (wp)
open PyProof.Rows (AllBare)
def deadK : Resume → Sem PySem.Fin := fun _ => .unsupported ""
def deadR : Result → Sem PySem.Fin := fun _ => .unsupported ""
/-- a frame that can't be gone on with; it looks the same from outside -/
def hush (F : Frame) : Frame := .ret deadR none false [] F.where_.1 F.where_.2 []
def deaf : GenState → GenState
  | .suspended _ l c p fs cl => .suspended deadK l c p (fs.map hush) cl
  | x => x
def asleep : GenState → Bool
  | .suspended .. => true
  | _ => false
theorem deaf_seen (x : GenState) : (deaf x).seen = x.seen := by
  cases x with
  | suspended k l c p fs cl =>
    show (GenStatus.suspended, some ((c, p) :: (fs.map hush).map Frame.where_)) = (GenStatus.suspended, some ((c, p) :: fs.map Frame.where_))
    rw [List.map_map]; rfl
  | _ => rfl
theorem deaf_bare (x : GenState) : (deaf x).bare = x.bare := by cases x <;> rfl
theorem deaf_awake {x : GenState} (h : asleep x = false) : deaf x = x := by cases x <;> first | rfl | cases h
theorem deaf_asleep (x : GenState) : asleep (deaf x) = asleep x := by cases x <;> rfl
/-- no generator's frame is among the frames that are kept -/
def clean : GenState → Prop
  | .suspended _ _ _ _ fs _ => splitAtGen fs = none
  | _ => True
def EndClean : End → Prop
  | .ret _ => True
  | .susp _ _ _ _ _ _ fs => splitAtGen fs = none
theorem EndClean.st {e : End} (h : EndClean e) : clean e.genState := by cases e <;> exact h
theorem split_app : ∀ (a b : List Frame), splitAtGen a = none → splitAtGen b = none → splitAtGen (a ++ b) = none
  | [], b, _, h => h
  | .gen .. :: a, b, h, _ => by simp [splitAtGen] at h
  | .ret .. :: a, b, h, h' => by
    simp only [splitAtGen, Option.map_eq_none_iff] at h
    simp only [List.cons_append, splitAtGen, Option.map_eq_none_iff]
    exact split_app a b h h'
theorem no_dead {M : Model} {Γ : Ctx} {p : Pos} {w : String} {fs : List Frame} {s s' : Shared} {e : End} (h : Runs M Γ p (.unsupported w) fs s e s') : False := by
  generalize ht : (Sem.unsupported w : Sem PySem.Fin) = t at h
  induction h with
  | segRet _ _ ih _ => exact ih ht
  | segGen _ _ ih _ => exact ih ht
  | segSuspOut _ _ ih => exact ih ht
  | segSuspGen _ _ _ _ ih _ => exact ih ht
  | _ => cases ht
/-- b: the state in which the run was shown; s: the state as it is; what slept in G is deaf in b -/
structure SLk (G : Array GenState) (b s : Shared) : Prop where
  heap : s.heap = b.heap
  drawn : s.drawn = b.drawn
  toks : s.toks = b.toks
  os : s.os = b.os
  size : s.gens.size = b.gens.size
  le : G.size ≤ b.gens.size
  old : ∀ (i : Nat) x, G[i]? = some x → asleep x = true → b.gens[i]? = some (deaf x) ∧ s.gens[i]? = some x
  new : ∀ (i : Nat), (∀ x, G[i]? = some x → asleep x = false) → s.gens[i]? = b.gens[i]? ∧ ∀ x, b.gens[i]? = some x → clean x
theorem SLk.eq {G : Array GenState} {b s : Shared} (h : SLk G b s) : s = { b with gens := s.gens } := by
  obtain ⟨h1, g1, d1, t1, o1⟩ := s
  obtain ⟨h2, g2, d2, t2, o2⟩ := b
  obtain ⟨e1, e2, e3, e4, _⟩ := h
  cases e1; cases e2; cases e3; cases e4; rfl
theorem SLk.or {G : Array GenState} {b s : Shared} (h : SLk G b s) (i : Nat) : (∃ x, G[i]? = some x ∧ asleep x = true) ∨ ∀ x, G[i]? = some x → asleep x = false := by
  cases e : G[i]? with
  | none => exact .inr fun x hx => by cases hx
  | some x =>
    cases ha : asleep x with
    | true => exact .inl ⟨x, rfl, ha⟩
    | false => exact .inr fun y hy => by cases hy; exact ha
theorem SLk.seen {G : Array GenState} {b s : Shared} (h : SLk G b s) {g : Nat} {x : GenState} (e : b.gens[g]? = some x) : ∃ y, s.gens[g]? = some y ∧ y.seen = x.seen := by
  rcases h.or g with ⟨y, hy, ha⟩ | hn
  · obtain ⟨q1, q2⟩ := h.old g y hy ha
    rw [q1] at e; cases e
    exact ⟨y, q2, (deaf_seen y).symm⟩
  · exact ⟨x, by rw [(h.new g hn).1]; exact e, rfl⟩
/-- one that is not deaf is the same in both -/
theorem SLk.awake {G : Array GenState} {b s : Shared} (h : SLk G b s) {g : Nat} {x : GenState} (e : b.gens[g]? = some x) (ha : asleep x = false) : s.gens[g]? = some x ∧ ∀ x, G[g]? = some x → asleep x = false := by
  rcases h.or g with ⟨y, hy, hb⟩ | hn
  · obtain ⟨q1, q2⟩ := h.old g y hy hb
    rw [q1] at e; cases e
    rw [deaf_asleep, hb] at ha; cases ha
  · exact ⟨by rw [(h.new g hn).1]; exact e, hn⟩
theorem SLk.withHeap {G : Array GenState} {b s : Shared} (h : SLk G b s) (f : Heap) : SLk G { b with heap := f } { s with heap := f } := ⟨rfl, h.drawn, h.toks, h.os, h.size, h.le, h.old, h.new⟩
theorem SLk.setG {G : Array GenState} {b s : Shared} (h : SLk G b s) {g : Nat} {x : GenState} (hn : ∀ x, G[g]? = some x → asleep x = false) (hx : clean x) : SLk G (b.setGen g x) (s.setGen g x) := by
  refine ⟨h.heap, h.drawn, h.toks, h.os, ?_, ?_, fun i y hy ha => ?_, fun i hi => ?_⟩
  · rw [GenW.setGen_size, GenW.setGen_size]; exact h.size
  · rw [GenW.setGen_size]; exact h.le
  · have hne : g ≠ i := fun z => by
      subst z
      rw [hn y hy] at ha; cases ha
    obtain ⟨q1, q2⟩ := h.old i y hy ha
    show (b.gens.setIfInBounds g x)[i]? = _ ∧ (s.gens.setIfInBounds g x)[i]? = _
    rw [Array.getElem?_setIfInBounds_ne hne, Array.getElem?_setIfInBounds_ne hne]
    exact ⟨q1, q2⟩
  · obtain ⟨q1, q2⟩ := h.new i hi
    show (s.gens.setIfInBounds g x)[i]? = (b.gens.setIfInBounds g x)[i]? ∧ ∀ y, (b.gens.setIfInBounds g x)[i]? = some y → clean y
    by_cases hg : g = i
    · subst hg
      rw [Array.getElem?_setIfInBounds_self, Array.getElem?_setIfInBounds_self, h.size]
      refine ⟨rfl, fun y hy => ?_⟩
      split at hy
      · cases hy; exact hx
      · cases hy
    · rw [Array.getElem?_setIfInBounds_ne hg, Array.getElem?_setIfInBounds_ne hg]
      exact ⟨q1, q2⟩
theorem SLk.push {G : Array GenState} {b s : Shared} (h : SLk G b s) (c : Code) : SLk G { b with gens := b.gens.push (.fresh c) } { s with gens := s.gens.push (.fresh c) } := by
  refine ⟨h.heap, h.drawn, h.toks, h.os, ?_, ?_, fun i y hy ha => ?_, fun i hi => ?_⟩
  · simp [h.size]
  · have := h.le
    simp only [Array.size_push]; omega
  · obtain ⟨q1, q2⟩ := h.old i y hy ha
    have l1 := (Array.getElem?_eq_some_iff.mp q1).1
    have l2 := (Array.getElem?_eq_some_iff.mp q2).1
    simp only [Array.getElem?_push, Nat.ne_of_lt l1, Nat.ne_of_lt l2, if_false]
    exact ⟨q1, q2⟩
  · obtain ⟨q1, q2⟩ := h.new i hi
    simp only [Array.getElem?_push, h.size]
    refine ⟨?_, fun y hy => ?_⟩
    · split
      · rfl
      · exact q1
    · split at hy
      · cases hy; trivial
      · exact q2 y hy
theorem runs_lk {M : Model} {Γ : Ctx} {p : Pos} {t : Sem PySem.Fin} {fs : List Frame} {b b' : Shared} {e : End} (h : Runs M Γ p t fs b e b') : ∀ (G : Array GenState) (s : Shared), splitAtGen fs = none → SLk G b s → ∃ s', Runs M Γ p t fs s e s' ∧ SLk G b' s' ∧ EndClean e := by
  induction h with
  | done => intro G s _ l; exact ⟨s, .done, l, trivial⟩
  | raise => intro G s _ l; exact ⟨s, .raise, l, trivial⟩
  | again hq _ ih => intro G s hf l; obtain ⟨s', r, l', z⟩ := ih G s hf l; exact ⟨s', .again hq r, l', z⟩
  | rule _ ih => intro G s hf l; obtain ⟨s', r, l', z⟩ := ih G s hf l; exact ⟨s', .rule r, l', z⟩
  | «at» _ ih => intro G s hf l; obtain ⟨s', r, l', z⟩ := ih G s hf l; exact ⟨s', .at r, l', z⟩
  | load ho _ ih => intro G s hf l; obtain ⟨s', r, l', z⟩ := ih G s hf l; exact ⟨s', .load (by rw [l.heap]; exact ho) r, l', z⟩
  | update ho _ ih =>
    intro G s hf l
    obtain ⟨s', r, l', z⟩ := ih G _ hf (l.withHeap _)
    refine ⟨s', .update (by rw [l.heap]; exact ho) ?_, l', z⟩
    rw [l.heap]; exact r
  | loadIfAlive _ ih =>
    intro G s hf l
    obtain ⟨s', r, l', z⟩ := ih G s hf l
    refine ⟨s', .loadIfAlive ?_, l', z⟩
    rw [l.heap]; exact r
  | point _ ih => intro G s hf l; obtain ⟨s', r, l', z⟩ := ih G s hf l; exact ⟨s', .point r, l', z⟩
  | alloc _ ih =>
    intro G s hf l
    obtain ⟨s', r, l', z⟩ := ih G _ hf (l.withHeap _)
    refine ⟨s', .alloc ?_, l', z⟩
    rw [l.heap]; exact r
  | fresh _ ih =>
    intro G s hf l
    obtain ⟨s', r, l', z⟩ := ih G { s with toks := s.toks + 1 } hf ⟨l.heap, l.drawn, congrArg (· + 1) l.toks, l.os, l.size, l.le, l.old, l.new⟩
    refine ⟨s', .fresh ?_, l', z⟩
    rw [l.toks] at r ⊢; exact r
  | ask _ ih => intro G s hf l; obtain ⟨s', r, l', z⟩ := ih G s hf l; exact ⟨s', .ask r, l', z⟩
  | choose hn _ ih =>
    rename_i Sr _
    intro G s hf l
    obtain ⟨s', r, l', z⟩ := ih G ⟨s.heap, s.gens, s.drawn.bump Sr, s.toks, s.os⟩ hf ⟨l.heap, congrArg (fun d => Drawn.bump d Sr) l.drawn, l.toks, l.os, l.size, l.le, l.old, l.new⟩
    refine ⟨s', .choose hn ?_, l', z⟩
    have q := r
    rw [l.drawn] at q ⊢; exact q
  | os _ ih =>
    rename_i Sr _ _
    intro G s hf l
    obtain ⟨s', r, l', z⟩ := ih G ⟨s.heap, s.gens, s.drawn, s.toks, (Os.step s.os Sr).1⟩ hf ⟨l.heap, l.drawn, l.toks, congrArg (fun d => (Os.step d Sr).1) l.os, l.size, l.le, l.old, l.new⟩
    refine ⟨s', .os ?_, l', z⟩
    have q := r
    rw [l.os] at q ⊢; exact q
  | handled _ ih => intro G s hf l; obtain ⟨s', r, l', z⟩ := ih G s hf l; exact ⟨s', .handled r, l', z⟩
  | genState hg _ ih =>
    intro G s hf l
    obtain ⟨s', r, l', z⟩ := ih G s hf l
    obtain ⟨y, hy, hs⟩ := l.seen hg
    refine ⟨s', .genState hy ?_, l', z⟩
    rw [hs]; exact r
  | stack _ ih => intro G s hf l; obtain ⟨s', r, l', z⟩ := ih G s hf l; exact ⟨s', .stack r, l', z⟩
  | thread _ ih => intro G s hf l; obtain ⟨s', r, l', z⟩ := ih G s hf l; exact ⟨s', .thread r, l', z⟩
  | newGen _ ih =>
    intro G s hf l
    obtain ⟨s', r, l', z⟩ := ih G _ hf (l.push _)
    refine ⟨s', .newGen ?_, l', z⟩
    rw [l.size]; exact r
  | call _ _ ih1 ih2 =>
    intro G s hf l
    obtain ⟨s1, r1, l1, _⟩ := ih1 G s rfl l
    obtain ⟨s', r, l', z⟩ := ih2 G s1 hf l1
    exact ⟨s', .call r1 r, l', z⟩
  | callSusp _ ih =>
    intro G s hf l
    obtain ⟨s1, r1, l1, z⟩ := ih G s rfl l
    exact ⟨s1, .callSusp r1, l1, split_app _ _ z rfl⟩
  | yield => intro G s _ l; exact ⟨s, .yield, l, rfl⟩
  | resumeFresh hg _ hq _ ih1 ih2 =>
    intro G s hf l
    obtain ⟨q1, q2⟩ := l.awake hg rfl
    obtain ⟨s1, r1, l1, z1⟩ := ih1 G _ rfl (l.setG (g := _) (x := .running) q2 trivial)
    obtain ⟨s', r, l', z⟩ := ih2 G _ hf (l1.setG q2 z1.st)
    exact ⟨s', .resumeFresh q1 r1 hq r, l', z⟩
  | resumeSuspended hg h1 hq _ ih1 ih2 =>
    intro G s hf l
    rename_i g _ _ _ _ _ _ _ _ _ _ _ _ _ _ _
    rcases l.or g with ⟨y, hy, ha⟩ | hn
    · obtain ⟨e1, _⟩ := l.old g y hy ha
      rw [hg] at e1
      cases y with
      | suspended k0 l0 c0 p0 fs0 cl0 =>
        injection e1 with e1
        injection e1 with e1 _ _ _ _ _
        rw [e1] at h1
        exact (no_dead h1).elim
      | fresh _ => cases ha
      | running => cases ha
      | finished => cases ha
    · obtain ⟨q1, q2⟩ := l.new g hn
      obtain ⟨s1, r1, l1, z1⟩ := ih1 G _ (q2 _ hg) (l.setG (g := g) (x := .running) hn trivial)
      obtain ⟨s', r, l', z⟩ := ih2 G _ hf (l1.setG hn z1.st)
      exact ⟨s', .resumeSuspended (q1.trans hg) r1 hq r, l', z⟩
  | resumeJustStarted hg hv _ ih =>
    intro G s hf l
    obtain ⟨q1, q2⟩ := l.awake hg rfl
    obtain ⟨s', r, l', z⟩ := ih G s hf l
    exact ⟨s', .resumeJustStarted q1 hv r, l', z⟩
  | resumeThrowFresh hg _ ih =>
    intro G s hf l
    obtain ⟨q1, q2⟩ := l.awake hg rfl
    obtain ⟨s', r, l', z⟩ := ih G _ hf (l.setG (x := .finished) q2 trivial)
    exact ⟨s', .resumeThrowFresh q1 r, l', z⟩
  | resumeRunning hg _ ih =>
    intro G s hf l
    obtain ⟨q1, q2⟩ := l.awake hg rfl
    obtain ⟨s', r, l', z⟩ := ih G s hf l
    exact ⟨s', .resumeRunning q1 r, l', z⟩
  | resumeFinished hg _ ih =>
    intro G s hf l
    obtain ⟨q1, q2⟩ := l.awake hg rfl
    obtain ⟨s', r, l', z⟩ := ih G s hf l
    exact ⟨s', .resumeFinished q1 r, l', z⟩
  | segRet _ _ ih1 ih2 =>
    intro G s hf l
    simp only [splitAtGen, Option.map_eq_none_iff] at hf
    obtain ⟨s1, r1, l1, _⟩ := ih1 G s rfl l
    obtain ⟨s', r, l', z⟩ := ih2 G s1 hf l1
    exact ⟨s', .segRet r1 r, l', z⟩
  | segGen _ _ _ _ => intro G s hf l; simp [splitAtGen] at hf
  | segSuspOut hs _ ih =>
    intro G s hf l
    obtain ⟨s1, r1, l1, z⟩ := ih G s rfl l
    exact ⟨s1, .segSuspOut hs r1, l1, split_app _ _ z hs⟩
  | segSuspGen hs _ _ _ _ _ => intro G s hf l; rw [hf] at hs; cases hs
theorem wakes_lk {M : Model} {Γ : Ctx} {p : Pos} {g : Nat} {r : Resume} {b b' : Shared} {res : GenResult} (h : Wakes M Γ p g r b res b') (G : Array GenState) (s : Shared) (l : SLk G b s) : ∃ s', Wakes M Γ p g r s res s' ∧ SLk G b' s' := by
  unfold Wakes at h
  cases hg : b.gens[g]? with
  | none => rw [hg] at h; exact h.elim
  | some x =>
    rw [hg] at h
    cases x with
    | fresh c =>
      obtain ⟨q1, q2⟩ := l.awake hg rfl
      cases r with
      | throw e =>
        obtain ⟨h1, h2⟩ := h
        exact ⟨_, by unfold Wakes; rw [q1]; exact ⟨h1, rfl⟩, by rw [h2]; exact l.setG q2 trivial⟩
      | send v =>
        cases v with
        | none =>
          obtain ⟨e1, s1, hr, hq, h1, h2⟩ := h
          obtain ⟨s1', r1, l1, z1⟩ := runs_lk hr G _ rfl (l.setG (x := .running) q2 trivial)
          exact ⟨_, by unfold Wakes; rw [q1]; exact ⟨e1, s1', r1, hq, h1, rfl⟩, by rw [h2]; exact l1.setG q2 z1.st⟩
        | _ =>
          obtain ⟨h1, h2⟩ := h
          exact ⟨s, by unfold Wakes; rw [q1]; exact ⟨h1, rfl⟩, by rw [h2]; exact l⟩
    | suspended k0 l0 c0 p0 fs0 cl0 =>
      obtain ⟨e1, s1, hr, hq, h1, h2⟩ := h
      rcases l.or g with ⟨y, hy, ha⟩ | hn
      · obtain ⟨d1, _⟩ := l.old g y hy ha
        rw [hg] at d1
        cases y with
        | suspended k1 l1 c1 p1 fs1 cl1 =>
          injection d1 with d1
          injection d1 with d1 _ _ _ _ _
          rw [d1] at hr
          exact (no_dead hr).elim
        | fresh _ => cases ha
        | running => cases ha
        | finished => cases ha
      · obtain ⟨q1, q2⟩ := l.new g hn
        obtain ⟨s1', r1, l1, z1⟩ := runs_lk hr G _ (q2 _ hg) (l.setG (g := g) (x := .running) hn trivial)
        exact ⟨_, by unfold Wakes; rw [q1, hg]; exact ⟨e1, s1', r1, hq, h1, rfl⟩, by rw [h2]; exact l1.setG hn z1.st⟩
    | running =>
      obtain ⟨q1, q2⟩ := l.awake hg rfl
      obtain ⟨h1, h2⟩ := h
      exact ⟨s, by unfold Wakes; rw [q1]; exact ⟨h1, rfl⟩, by rw [h2]; exact l⟩
    | finished =>
      obtain ⟨q1, q2⟩ := l.awake hg rfl
      obtain ⟨h1, h2⟩ := h
      exact ⟨s, by unfold Wakes; rw [q1]; exact ⟨h1, rfl⟩, by rw [h2]; exact l⟩
theorem wp_lk {α : Type} (M : Model) (Γ : Ctx) (G : Array GenState) (t : Sem α) : ∀ (Q : α → Pos → Shared → Prop) (E : Value → Pos → Shared → Prop) (p : Pos) (b s : Shared), SLk G b s → wp M Γ t Q E p b →
    wp M Γ t (fun a p' s' => ∃ b', SLk G b' s' ∧ Q a p' b') (fun e p' s' => ∃ b', SLk G b' s' ∧ E e p' b') p s := by
  induction t with
  | pure a => intro Q E p b s l h; exact ⟨b, l, h⟩
  | raise e => intro Q E p b s l h; exact ⟨b, l, h⟩
  | unsupported _ => intro Q E p b s _ h; exact h
  | finish _ => intro Q E p b s _ h; exact h
  | register _ _ => intro Q E p b s _ h; exact h
  | yield _ _ _ _ => intro Q E p b s _ h; exact h
  | fork _ _ => intro Q E p b s _ h; exact h
  | await _ _ _ _ _ => intro Q E p b s _ h; exact h
  | rule _ k ih => intro Q E p b s l h; exact ih () Q E p b s l h
  | «at» p' k ih => intro Q E p b s l h; exact ih () Q E p' b s l h
  | point _ k ih => intro Q E p b s l h; exact ih () Q E p b s l h
  | ask k ih => intro Q E p b s l h; exact ih _ Q E p b s l h
  | handled own k ih => intro Q E p b s l h; exact ih _ Q E p b s l h
  | stack k ih => intro Q E p b s l h; exact ih _ Q E p b s l h
  | thread k ih => intro Q E p b s l h; exact ih _ Q E p b s l h
  | load a _ k ih => intro Q E p b s l h; obtain ⟨o, ho, h⟩ := h; exact ⟨o, by rw [l.heap]; exact ho, ih o Q E p b s l h⟩
  | update a _ f k ih =>
    intro Q E p b s l h
    have q := ih () Q E p _ _ (l.withHeap (b.heap.update a f)) h.2
    exact ⟨by rw [l.heap]; exact h.1, by rw [l.heap]; exact q⟩
  | loadIfAlive a k ih =>
    intro Q E p b s l h
    have q := ih _ Q E p b s l h
    show wp M Γ (k (s.heap.get? a)) _ _ p s
    rw [l.heap]; exact q
  | alloc o k ih =>
    intro Q E p b s l h
    have q := ih _ Q E p _ _ (l.withHeap (b.heap.push o)) h
    show wp M Γ (k s.heap.objs.size) _ _ p { s with heap := s.heap.push o }
    rw [l.heap]; exact q
  | fresh k ih =>
    intro Q E p b s l h
    have q := ih _ Q E p { b with toks := b.toks + 1 } { s with toks := s.toks + 1 } ⟨l.heap, l.drawn, congrArg (· + 1) l.toks, l.os, l.size, l.le, l.old, l.new⟩ h
    show wp M Γ (k s.toks) _ _ p _
    rw [l.toks] at q ⊢; exact q
  | choose src n k ih =>
    intro Q E p b s l h
    have q := ih _ Q E p { b with drawn := b.drawn.bump src } ⟨s.heap, s.gens, s.drawn.bump src, s.toks, s.os⟩ ⟨l.heap, congrArg (fun d => Drawn.bump d src) l.drawn, l.toks, l.os, l.size, l.le, l.old, l.new⟩ h.2
    refine ⟨h.1, ?_⟩
    rw [l.drawn] at q ⊢; exact q
  | os rq _ k ih =>
    intro Q E p b s l h
    have q := ih _ Q E p { b with os := (Os.step b.os rq).1 } ⟨s.heap, s.gens, s.drawn, s.toks, (Os.step s.os rq).1⟩ ⟨l.heap, l.drawn, l.toks, congrArg (fun d => (Os.step d rq).1) l.os, l.size, l.le, l.old, l.new⟩ h
    show wp M Γ (k (Os.step s.os rq).2) _ _ p _
    rw [l.os] at q ⊢; exact q
  | call c hd _ _ k ih =>
    intro Q E p b s l h
    obtain ⟨r, b1, hr, h⟩ := h
    obtain ⟨s1, r1, l1, _⟩ := runs_lk hr G s rfl l
    exact ⟨r, s1, r1, ih r Q E p b1 s1 l1 h⟩
  | genState g k ih =>
    intro Q E p b s l h
    obtain ⟨x, hx, h⟩ := h
    obtain ⟨y, hy, hs⟩ := l.seen hx
    refine ⟨y, hy, ?_⟩
    rw [hs]; exact ih _ Q E p b s l h
  | newGen c k ih =>
    intro Q E p b s l h
    have q := ih _ Q E p _ _ (l.push c) h
    show wp M Γ (k s.gens.size) _ _ p _
    rw [l.size]; exact q
  | resume g r _ k ih =>
    intro Q E p b s l h
    obtain ⟨res, b1, hw, h⟩ := h
    obtain ⟨s1, w1, l1⟩ := wakes_lk hw G s l
    exact ⟨res, s1, w1, ih res Q E p b1 s1 l1 h⟩
/-- what was let go stays so -/
structure Gone (s s' : Shared) : Prop where
  size : s.heap.objs.size ≤ s'.heap.objs.size
  none : ∀ b, b < s.heap.objs.size → s.heap.get? b = none → s'.heap.get? b = none
theorem Gone.refl (s : Shared) : Gone s s := ⟨Nat.le_refl _, fun _ _ h => h⟩
theorem Gone.trans {a b c : Shared} (h : Gone a b) (k : Gone b c) : Gone a c := ⟨Nat.le_trans h.size k.size, fun d hd e => k.none d (Nat.lt_of_lt_of_le hd h.size) (h.none d hd e)⟩
theorem Gone.heap {a b c : Shared} (h : Gone a b) (e : c.heap = b.heap) : Gone a c := ⟨by rw [e]; exact h.size, fun d hd q => by rw [e]; exact h.none d hd q⟩
theorem Gone.src {a b c : Shared} (h : Gone b c) (e : a.heap = b.heap) : Gone a c := ⟨by rw [e]; exact h.size, fun d hd q => h.none d (by rw [← e]; exact hd) (by rw [← e]; exact q)⟩
theorem gone_upd {s : Shared} {a : Addr} {f : Obj → Obj} (h : (s.heap.get? a).isSome = true) : Gone s { s with heap := s.heap.update a f } where
  size := by show _ ≤ (s.heap.update a f).objs.size; rw [Heap.size_after_update]; exact Nat.le_refl _
  none := fun b hb e => by
    have hne : a ≠ b := fun z => by rw [z, e] at h; cases h
    show (s.heap.update a f).get? b = _
    rw [Heap.get?_update_other _ _ hne]; exact e
theorem gone_push {s : Shared} {o : Obj} : Gone s { s with heap := s.heap.push o } where
  size := by show _ ≤ (s.heap.push o).objs.size; rw [Heap.size_push]; omega
  none := fun b hb e => by
    show (s.heap.push o).get? b = _
    unfold Heap.get? at e ⊢
    have : (s.heap.push o).objs[b]? = s.heap.objs[b]? := by
      show (s.heap.objs.push o)[b]? = _
      rw [Array.getElem?_push, if_neg (Nat.ne_of_lt hb)]
    rw [this]; exact e
theorem runs_gone {M : Model} {Γ : Ctx} {p : Pos} {t : Sem PySem.Fin} {fs : List Frame} {s s' : Shared} {e : End} (h : Runs M Γ p t fs s e s') : Gone s s' := by
  induction h with
  | done => exact Gone.refl _
  | raise => exact Gone.refl _
  | yield => exact Gone.refl _
  | update ho _ ih => exact (gone_upd ho).trans ih
  | alloc _ ih => exact gone_push.trans ih
  | call _ _ ih1 ih2 => exact ih1.trans ih2
  | resumeFresh _ _ _ _ ih1 ih2 => exact Gone.src (ih1.trans (ih2.src rfl)) rfl
  | resumeSuspended _ _ _ _ ih1 ih2 => exact Gone.src (ih1.trans (ih2.src rfl)) rfl
  | segRet _ _ ih1 ih2 => exact ih1.trans ih2
  | segGen _ _ ih1 ih2 => exact ih1.trans (ih2.src rfl)
  | segSuspGen _ _ _ _ ih1 ih2 => exact ih1.trans (ih2.src rfl)
  | _ => rename_i ih; exact ih.src rfl
theorem wakes_gone {M : Model} {Γ : Ctx} {p : Pos} {g : Nat} {r : Resume} {s s' : Shared} {res : GenResult} (h : Wakes M Γ p g r s res s') : Gone s s' := by
  unfold Wakes at h
  split at h
  · exact h.elim
  · split at h
    · obtain ⟨e1, s1, hr, _, _, rfl⟩ := h
      exact Gone.heap (b := s1) (Gone.src (runs_gone hr) rfl) rfl
    · rw [h.2]; exact Gone.refl _
    · rw [h.2]; exact (Gone.refl _).heap rfl
  · obtain ⟨e1, s1, hr, _, _, rfl⟩ := h
    exact Gone.heap (b := s1) (Gone.src (runs_gone hr) rfl) rfl
  · rw [h.2]; exact Gone.refl _
  · rw [h.2]; exact Gone.refl _
theorem wp_gone {α : Type} (M : Model) (Γ : Ctx) (s0 : Shared) (t : Sem α) : ∀ (Q : α → Pos → Shared → Prop) (E : Value → Pos → Shared → Prop) (p : Pos) (s : Shared), Gone s0 s → wp M Γ t Q E p s →
    wp M Γ t (fun a p' s' => Gone s0 s' ∧ Q a p' s') (fun e p' s' => Gone s0 s' ∧ E e p' s') p s := by
  induction t with
  | pure a => intro Q E p s l h; exact ⟨l, h⟩
  | raise e => intro Q E p s l h; exact ⟨l, h⟩
  | unsupported _ => intro Q E p s _ h; exact h
  | finish _ => intro Q E p s _ h; exact h
  | register _ _ => intro Q E p s _ h; exact h
  | yield _ _ _ _ => intro Q E p s _ h; exact h
  | fork _ _ => intro Q E p s _ h; exact h
  | await _ _ _ _ _ => intro Q E p s _ h; exact h
  | rule _ k ih => intro Q E p s l h; exact ih () Q E p s l h
  | «at» p' k ih => intro Q E p s l h; exact ih () Q E p' s l h
  | point _ k ih => intro Q E p s l h; exact ih () Q E p s l h
  | ask k ih => intro Q E p s l h; exact ih _ Q E p s l h
  | handled own k ih => intro Q E p s l h; exact ih _ Q E p s l h
  | stack k ih => intro Q E p s l h; exact ih _ Q E p s l h
  | thread k ih => intro Q E p s l h; exact ih _ Q E p s l h
  | load a _ k ih => intro Q E p s l h; obtain ⟨o, ho, h⟩ := h; exact ⟨o, ho, ih o Q E p s l h⟩
  | update a _ f k ih => intro Q E p s l h; exact ⟨h.1, ih () Q E p _ (l.trans (gone_upd h.1)) h.2⟩
  | loadIfAlive a k ih => intro Q E p s l h; exact ih _ Q E p s l h
  | alloc o k ih => intro Q E p s l h; exact ih _ Q E p _ (l.trans gone_push) h
  | fresh k ih => intro Q E p s l h; exact ih _ Q E p _ (l.heap rfl) h
  | choose src n k ih => intro Q E p s l h; exact ⟨h.1, ih _ Q E p _ (l.heap rfl) h.2⟩
  | os rq _ k ih => intro Q E p s l h; exact ih _ Q E p _ (l.heap rfl) h
  | call c hd _ _ k ih => intro Q E p s l h; obtain ⟨r, s1, hr, h⟩ := h; exact ⟨r, s1, hr, ih r Q E p s1 (l.trans (runs_gone hr)) h⟩
  | genState g k ih => intro Q E p s l h; obtain ⟨x, hx, h⟩ := h; exact ⟨x, hx, ih _ Q E p s l h⟩
  | newGen c k ih => intro Q E p s l h; exact ih _ Q E p _ (l.heap rfl) h
  | resume g r _ k ih => intro Q E p s l h; obtain ⟨res, s1, hw, h⟩ := h; exact ⟨res, s1, hw, ih res Q E p s1 (l.trans (wakes_gone hw)) h⟩
/-- the state with all sleepers deaf -/
def still (s : Shared) : Shared := { s with gens := s.gens.map deaf }
theorem still_lk (s : Shared) : SLk s.gens (still s) s := by
  refine ⟨rfl, rfl, rfl, rfl, by simp [still], by simp [still], fun i x hx ha => ⟨?_, hx⟩, fun i hi => ?_⟩
  · show (s.gens.map deaf)[i]? = _
    rw [Array.getElem?_map, hx]; rfl
  · show _ = (s.gens.map deaf)[i]? ∧ ∀ x, (s.gens.map deaf)[i]? = some x → clean x
    rw [Array.getElem?_map]
    cases e : s.gens[i]? with
    | none => exact ⟨rfl, fun x hx => by cases hx⟩
    | some x =>
      have ha := hi x e
      refine ⟨by show some x = some (deaf x); rw [deaf_awake ha], fun y hy => ?_⟩
      have : deaf x = y := Option.some.inj hy
      rw [deaf_awake ha] at this
      subst this
      cases x <;> first | trivial | cases ha
/-- what sleeps in s sleeps in s' as it did; what was let go stays so -/
structure Kept (s s' : Shared) : Prop where
  gen : ∀ (i : Nat) x, s.gens[i]? = some x → asleep x = true → s'.gens[i]? = some x
  gone : Gone s s'
theorem Kept.trans {a b c : Shared} (h : Kept a b) (k : Kept b c) : Kept a c := ⟨fun i x e z => k.gen i x (h.gen i x e z) z, h.gone.trans k.gone⟩
theorem SLk.kept {b s' s : Shared} (l : SLk s.gens b s') (g : Gone s s') : Kept s s' := ⟨fun i x e z => (l.old i x e z).2, g⟩
theorem SLk.bare {G : Array GenState} {b s : Shared} (l : SLk G b s) (h : AllBare b.gens) : AllBare s.gens := fun x hx => by
  obtain ⟨i, hi, rfl⟩ := Array.mem_iff_getElem.mp hx
  have hs : s.gens[i]? = some s.gens[i] := Array.getElem?_eq_getElem hi
  rcases l.or i with ⟨y, hy, ha⟩ | hn
  · obtain ⟨q1, q2⟩ := l.old i y hy ha
    rw [hs] at q2
    have e : s.gens[i] = y := Option.some.inj q2
    rw [e, ← deaf_bare]
    exact h _ (Array.mem_of_getElem? q1)
  · rw [(l.new i hn).1] at hs
    exact h _ (Array.mem_of_getElem? hs)
theorem still_bare {s : Shared} (h : AllBare s.gens) : AllBare (still s).gens := fun x hx => by
  obtain ⟨y, hy, rfl⟩ := Array.mem_map.mp hx
  rw [deaf_bare]; exact h y hy
/-- a wish that does not look at the generators, but that none has a clean-up -/
def Calm {α : Type} (Q : α → Shared → Prop) : Prop := ∀ (G : Array GenState) (b s : Shared) (a : α), SLk G b s → Q a b → Q a s
theorem wpAny_kept {α : Type} {M : Model} {A : Around} {t : Sem α} {Q : α → Shared → Prop} {E : Value → Shared → Prop} {s : Shared} (hQ : Calm Q) (hE : Calm E) (h : wpAny M A t Q E (still s)) :
    wpAny M A t (fun a s' => Q a s' ∧ Kept s s') (fun e s' => E e s' ∧ Kept s s') s := by
  intro Γ p hΓ
  have q := wp_gone M Γ s t _ _ p s (Gone.refl s) (wp_lk M Γ s.gens t _ _ p (still s) s (still_lk s) (h Γ p hΓ))
  refine Sem.wp_mono M Γ t (fun a p' s' hq => ?_) (fun a p' s' hq => ?_) p s q
  · obtain ⟨g, b, l, hb⟩ := hq; exact ⟨hQ _ b s' a l hb, l.kept g⟩
  · obtain ⟨g, b, l, hb⟩ := hq; exact ⟨hE _ b s' a l hb, l.kept g⟩
/-- .. of two steps -/
theorem wpAny_kept2 {α β : Type} {M : Model} {A : Around} {t : Sem α} {u : α → Sem β} (Z : α → Prop) {Q : α → β → Shared → Prop} {E : Value → Shared → Prop} {s : Shared} (hQ : ∀ a, Calm (Q a)) (hE : Calm E) (h : wpAny M A t (fun a s1 => Z a ∧ wpAny M A (u a) (Q a) E s1) E (still s)) :
    wpAny M A t (fun a s1 => Z a ∧ wpAny M A (u a) (fun c s' => Q a c s' ∧ Kept s s') (fun e s' => E e s' ∧ Kept s s') s1) (fun e s' => E e s' ∧ Kept s s') s := by
  intro Γ p hΓ
  have q := wp_gone M Γ s t _ _ p s (Gone.refl s) (wp_lk M Γ s.gens t _ _ p (still s) s (still_lk s) (h Γ p hΓ))
  refine Sem.wp_mono M Γ t (fun a p' s' hq => ?_) (fun a p' s' hq => ?_) p s q
  · obtain ⟨g, b, l, hz, hb⟩ := hq
    refine ⟨hz, ?_⟩
    intro Γ2 p2 hΓ2
    have q2 := wp_gone M Γ2 s (u a) _ _ p2 s' g (wp_lk M Γ2 s.gens (u a) _ _ p2 b s' l (hb Γ2 p2 hΓ2))
    refine Sem.wp_mono M Γ2 (u a) (fun c p3 s3 hq => ?_) (fun c p3 s3 hq => ?_) p2 s' q2
    · obtain ⟨g, b, l, hb⟩ := hq; exact ⟨hQ a _ b s3 c l hb, l.kept g⟩
    · obtain ⟨g, b, l, hb⟩ := hq; exact ⟨hE _ b s3 c l hb, l.kept g⟩
  · obtain ⟨g, b, l, hb⟩ := hq; exact ⟨hE _ b s' a l hb, l.kept g⟩
/-- a run may be told of the state as it is -/
theorem calm_wpAny {α : Type} {M : Model} {A : Around} {t : Value → Sem α} {Q : Value → α → Shared → Prop} {E : Value → Shared → Prop} (hQ : ∀ e, Calm (Q e)) (hE : Calm E) : Calm fun e s => wpAny M A (t e) (Q e) E s := by
  intro G b s e l h Γ p hΓ
  have q := wp_lk M Γ G (t e) _ _ p b s l (h Γ p hΓ)
  refine Sem.wp_mono M Γ (t e) (fun a p' s' hq => ?_) (fun a p' s' hq => ?_) p s q
  · obtain ⟨b, l, hb⟩ := hq; exact hQ e _ b s' a l hb
  · obtain ⟨b, l, hb⟩ := hq; exact hE _ b s' a l hb
end DL
namespace DL
open PySem PySem.Spec L2
open PyProof.Rows hiding St
mutual
def tt : D → Bool
  | .non => true
  | .bl _ => true
  | .int _ => true
  | .str _ => true
  | .tup ds => ttL ds
  | .ty _ => false
  | .fn _ => false
  | .fl _ => false
  | .kl _ => false
  | .fd _ => false
  | .exc _ _ => false
  | .loc _ => false
def ttL : List D → Bool
  | [] => true
  | d :: ds => tt d && ttL ds
end
/-- the tuples stand -/
def Tx (H H' : Hp) : Prop := ∀ a xs, H a = some (.tup xs) → H' a = some (.tup xs)
theorem Tx.refl (H : Hp) : Tx H H := fun _ _ e => e
theorem Tx.trans {H H1 H2 : Hp} (a : Tx H H1) (b : Tx H1 H2) : Tx H H2 := fun c xs e => b c xs (a c xs e)
section
variable {K : PySem.W.Frag} {ι : List Addr} {H H' : Hp}
mutual
theorem tt_move (hx : ∀ a xs, a ∉ ι → H a = some (.tup xs) → a ∉ ι' ∧ H' a = some (.tup xs)) : ∀ (d : D) (v : V), tt d = true → RepV K ι H d v → RepV K ι' H' d v
  | .non, _, _, h => by rw [RepV] at h ⊢; exact h
  | .bl _, _, _, h => by rw [RepV] at h ⊢; exact h
  | .int _, _, _, h => by rw [RepV] at h ⊢; exact h
  | .str _, _, _, h => by rw [RepV] at h ⊢; exact h
  | .tup ds, _, t, h => by
    rw [RepV] at h ⊢
    rw [tt] at t
    obtain ⟨a, vs, e, q, r⟩ := h
    refine ⟨a, vs, e, ?_, tt_moveL hx ds vs t r⟩
    rcases q with ⟨n, q⟩ | q
    · exact .inl (hx a vs n q)
    · exact .inr q
  | .ty _, _, t, _ => by rw [tt] at t; cases t
  | .fn _, _, t, _ => by rw [tt] at t; cases t
  | .fl _, _, t, _ => by rw [tt] at t; cases t
  | .kl _, _, t, _ => by rw [tt] at t; cases t
  | .fd _, _, t, _ => by rw [tt] at t; cases t
  | .exc _ _, _, t, _ => by rw [tt] at t; cases t
  | .loc _, _, t, _ => by rw [tt] at t; cases t
theorem tt_moveL (hx : ∀ a xs, a ∉ ι → H a = some (.tup xs) → a ∉ ι' ∧ H' a = some (.tup xs)) : ∀ (ds : List D) (vs : List V), ttL ds = true → RepL K ι H ds vs → RepL K ι' H' ds vs
  | [], _, _, h => by rw [RepL] at h ⊢; exact h
  | d :: ds, _, t, h => by
    rw [RepL] at h ⊢
    rw [ttL, Bool.and_eq_true] at t
    obtain ⟨v, r, e, a, b⟩ := h
    exact ⟨v, r, e, tt_move hx d v t.1 a, tt_moveL hx ds r t.2 b⟩
end
theorem tt_outL {d : List D} {v : List V} (t : ttL d = true) (r : RepL K ι H d v) : RepL K [] H d v := tt_moveL (fun a xs _ e => ⟨by simp, e⟩) d v t r
theorem tt_grow {d : D} {v : V} (t : tt d = true) (x : Tx H H') (r : RepV K [] H d v) : RepV K [] H' d v := tt_move (fun a xs _ e => ⟨by simp, x a xs e⟩) d v t r
theorem Sim.noTup {S : Sto} (s : Sim K ι H S) {a : Addr} {xs : List V} (e : H a = some (.tup xs)) : a ∉ ι := fun z => by
  obtain ⟨n, hn, rfl⟩ := List.mem_iff_getElem.mp z
  have hs : n < S.length := by rw [← s.len]; exact hn
  have := s.ob n ι[n] S[n] (List.getElem?_eq_some_iff.mpr ⟨hn, rfl⟩) (List.getElem?_eq_some_iff.mpr ⟨hs, rfl⟩)
  revert this
  cases S[n] with
  | lst ds => rintro ⟨vs, q, _⟩; rw [e] at q; cases q
  | ins C fs => rintro ⟨C', dx, vs, _, q, _⟩; rw [e] at q; cases q
  | dct ks => rintro ⟨vs, q, _⟩; rw [e] at q; cases q
  | dtt ks => rintro ⟨o, vs, q, _⟩; rw [e] at q; cases q
  | scr ds => rintro ⟨o, vs, q, _⟩; rw [e] at q; cases q
  | tpl ds => rintro ⟨o, vs, q, _⟩; rw [e] at q; cases q
theorem tt_in {S : Sto} {d : D} {v : V} (s : Sim K ι H S) (t : tt d = true) (r : RepV K [] H d v) : RepV K ι H d v := tt_move (fun a xs _ e => ⟨s.noTup e, e⟩) d v t r
/-- all that stands stays -/
theorem Grow.all {ι : List Addr} (h : ∀ a o, H a = some o → H' a = some o) : Grow ι H ι H' := ⟨List.prefix_rfl, fun a o e _ => h a o e, fun _ z n => absurd z n, fun a od u e => h a _ e⟩
theorem Sim.all {S : Sto} (s : Sim K ι H S) (h : ∀ a o, H a = some o → H' a = some o) : Sim K ι H' S :=
  ⟨s.nd, s.len, fun n a o e1 e2 => by
    have q := s.ob n a o e1 e2
    obtain ⟨u, hu⟩ := q.some
    exact q.grow (Grow.all h) ((h a u hu).trans hu.symm)⟩
end
def ttE (ρ : Ev) : Prop := ∀ (i : Nat) d, ρ[i]? = some (some d) → tt d = true
theorem RepE.tx {K : PySem.W.Frag} {H H' : Hp} {σ : St} {ρ : Ev} (t : ttE ρ) (x : Tx H H') (h : RepE K [] H σ ρ) : RepE K [] H' σ ρ :=
  ⟨h.1, fun i d e => let ⟨v, e', r⟩ := h.2 i d e; ⟨v, e', tt_grow (t i d e) x r⟩⟩
def hcut (h : Heap) (L : Nat) : Heap := { h with objs := h.objs.extract 0 L }
theorem hcut_get {h : Heap} {L b : Nat} (hb : b < L) : (hcut h L).get? b = h.get? b := by
  have : (h.objs.extract 0 L)[b]? = h.objs[b]? := by
    rw [Array.getElem?_extract]
    by_cases hs : b < h.objs.size
    · rw [if_pos (by omega)]; simp
    · rw [if_neg (by omega), Array.getElem?_eq_none (by omega)]
  unfold Heap.get? hcut
  rw [this]
theorem hcut_some {h : Heap} {L b : Nat} {o : Obj} (e : (hcut h L).get? b = some o) : b < L ∧ h.get? b = some o := by
  have hs := Heap.lt_size e
  have hl : b < L := by
    have : (hcut h L).objs.size ≤ L := by show (h.objs.extract 0 L).size ≤ L; rw [Array.size_extract]; omega
    exact Nat.lt_of_lt_of_le hs this
  exact ⟨hl, by rw [← hcut_get hl]; exact e⟩
theorem hcut_size (h : Heap) (L : Nat) : (hcut h L).objs.size = min L h.objs.size := by
  show (h.objs.extract 0 L).size = _
  rw [Array.size_extract]; omega
open Classical in
/-- what the generator must not touch: the untracked young objects, as they are -/
noncomputable def gmark (L : Addr) (pv : List Addr) (H : Hp) (h : Heap) : Hp := fun b => match H b with
  | some u => some u
  | none => if L ≤ b ∧ b ∉ pv then (match h.get? b with
    | some o => some (.ext fun h' => h'.get? b = some o)
    | none => none) else none
theorem gmark_some {L : Addr} {pv : List Addr} {H : Hp} {h : Heap} {b : Addr} {u : HO} (e : H b = some u) : gmark L pv H h b = some u := by unfold gmark; rw [e]
theorem gmark_low {L : Addr} {pv : List Addr} {H : Hp} {h : Heap} {b : Addr} (e : H b = none) (hb : b < L) : gmark L pv H h b = none := by
  unfold gmark; rw [e]; dsimp only; rw [if_neg (fun z => absurd z.1 (Nat.not_le_of_lt hb))]
theorem gmark_pv {L : Addr} {pv : List Addr} {H : Hp} {h : Heap} {b : Addr} (e : H b = none) (hb : b ∈ pv) : gmark L pv H h b = none := by
  unfold gmark; rw [e]; dsimp only; rw [if_neg (fun z => z.2 hb)]
theorem gmark_ext {L : Addr} {pv : List Addr} {H : Hp} {h : Heap} {b : Addr} {o : Obj} (e : H b = none) (hb : L ≤ b) (hp : b ∉ pv) (ho : h.get? b = some o) : gmark L pv H h b = some (.ext fun h' => h'.get? b = some o) := by
  unfold gmark; rw [e]; dsimp only; rw [if_pos ⟨hb, hp⟩, ho]
theorem gmark_inv {L : Addr} {pv : List Addr} {H : Hp} {h : Heap} {b : Addr} {u : HO} (e : gmark L pv H h b = some u) : H b = some u ∨ (H b = none ∧ L ≤ b ∧ b ∉ pv ∧ ∃ o, h.get? b = some o ∧ u = .ext fun h' => h'.get? b = some o) := by
  unfold gmark at e
  cases q : H b with
  | some v => rw [q] at e; exact .inl e
  | none =>
    rw [q] at e
    dsimp only at e
    split at e
    · rename_i hh
      cases ho : h.get? b with
      | none => rw [ho] at e; cases e
      | some o => rw [ho] at e; cases e; exact .inr ⟨rfl, hh.1, hh.2, o, rfl, rfl⟩
    · cases e
open Classical in
noncomputable def gunmark (L : Addr) (pv : List Addr) (H : Hp) (h : Heap) (H' : Hp) : Hp := fun b => if H b = none ∧ L ≤ b ∧ b ∉ pv ∧ ∃ o, h.get? b = some o then none else H' b
/-- the generator's context while it runs for a consumer -/
noncomputable def gx (N : List Str) (env : Env) (X : Cx) (pv : List Addr) (H : Hp) (s : Shared) : Cx where
  prog := X.prog
  w := X.w
  K := X.K
  mg := X.mg
  base := X.base
  A := X.A.in1.deeper env
  N := N
  s_0 := { s with heap := hcut s.heap env.locals }
  H_0 := gmark env.locals pv H s.heap
  env := env
  outer := X.stack
  stack := env :: X.stack
  ex := []
  fn := fun _ => true
  calm := true
  pn := []
  xe := fun _ _ => False
/-- a frame of a generator def without cells -/
structure GEnv (N : List Str) (env : Env) : Prop where
  kind : env.scope.kind = .function
  glob : env.globals = mainGlobals
  blt : env.builtins = builtinsNs
  cells : ∀ x, env.cells.lookup x = none
  nocell : ∀ x, env.kindOf x ≠ some .cell ∧ env.kindOf x ≠ some .free
  frame : env.frame = some env.locals
/-- the consumer, seen from the generator -/
structure Cons (L : Addr) (X : Cx) : Prop where
  calm : X.calm = true
  fr : ∀ b ∈ frs X.stack, b < L
  bsz : X.base.objs.size ≤ L
/-- what the frame holds: the slots' values by the object -/
def Slots (N : List Str) (env : Env) (lo : Obj) (σ : St) : Prop := (∀ v, lo.data ≠ .cell v) ∧ σ.length = N.length ∧ ∃ m, (∀ h : Heap, h.get? env.locals = some lo → h.Ns env.locals m) ∧
  ∀ (i : Nat) (x : Str) (v : V), N[i]? = some x → σ[i]? = some (some v) → Vis env.scope x → ∃ u, RelV v u ∧ env.kindOf x = some .local ∧ m x = some u
section
variable {N : List Str} {env : Env} {X : Cx} {pins : List (Addr × Obj)} {σ σg : St} {H H' : Hp} {s s' : Shared} {pv : List Addr} {ip : List (Addr × Obj)}
theorem Slots.of (g : GEnv N env) (I : Inv (gx N env X pv H s) ip σg H' s') : ∃ lo, s'.heap.get? env.locals = some lo ∧ Slots N env lo σg := by
  obtain ⟨m, ⟨o, es, ep, ho, hd, hk, hm⟩, hl⟩ := I.loc
  refine ⟨o, ho, (fun v (z : o.data = .cell v) => by rw [hd] at z; cases z), I.len, m, fun h e => ⟨o, es, ep, e, hd, hk, hm⟩, fun i x v e1 e2 e3 => ?_⟩
  obtain ⟨u, r, l⟩ := hl i x v e1 e2 e3
  refine ⟨u, r, ?_⟩
  rcases l with l | ⟨k, _⟩
  · exact l
  · exact absurd k (fun k => k.elim (g.nocell x).1 (g.nocell x).2)
theorem stk_no (I : Inv X pins σ H s) {b : Addr} (h : FpOk X pins H b) : b ∉ frs X.stack := fun z => by
  rcases List.mem_cons.mp (I.stkSub b z) with e | e
  · exact h.2.1 e
  · exact h.2.2.1 e
/-- woken -/
theorem gwake {lo : Obj} (g : GEnv N env) (c : Cons env.locals X) (I : Inv X pins σ H s) (hl : s.heap.get? env.locals = some lo) (sl : Slots N env lo σg) (hL : FpOk X pins H env.locals) (hLp : env.locals ∈ pv)
    (hip : ∀ p ∈ ip, s.heap.get? p.1 = some p.2 ∧ (∀ v, p.2.data ≠ .cell v) ∧ FpOk X pins H p.1 ∧ p.1 ∈ pv ∧ p.1 ≠ env.locals) : Inv (gx N env X pv H s) ip σg (gmark env.locals pv H s.heap) s := by
  obtain ⟨_, len, m, ns, look⟩ := sl
  have nx : ∀ {b : Addr}, b ∉ ([] : List Addr) := fun z => by cases z
  have hsz : env.locals < s.heap.objs.size := Heap.lt_size hl
  refine ⟨⟨I.ok.mod, g.kind, g.glob, g.blt, ?_, fun x y d e => ?_, fun x e => ?_, fun x d _ e => ?_, fun _ => I.ok.hd c.calm, Around.frames_deeper I.ok.frames, .inr ⟨rfl, g.frame⟩, fun b z => absurd z nx, fun b o e => ?_, ?_, fun b _ _ => nx, fun b z => absurd z nx, ?_, fun b hb => ?_⟩,
    rfl, I.bare, ⟨fun b o e _ _ _ => (hcut_some e).2, fun b o e _ _ _ => ⟨o.slots, (hcut_some e).2⟩, fun b o _ e _ => e, fun b o e _ => ⟨o, (hcut_some e).2⟩, fun _ _ e => e, fun _ _ _ e => e, fun b ps e => ⟨#[], e.trans (by simp)⟩⟩,
    ⟨m, ns _ hl, fun i x v e1 e2 e3 => ?_⟩, fun x d e => ?_, gmark_pv hL.1 hLp, fun x d e => ?_, fun p hp => ?_, fun b u e => ?_, len⟩
  · show (hcut s.heap env.locals).objs.size ≤ env.locals
    rw [hcut_size]; omega
  · rw [show (gx N env X pv H s).env.cells.lookup x = none from g.cells x] at e; cases e
  · exact absurd e (fun z => z.elim (g.nocell x).1 (g.nocell x).2)
  · rw [show (gx N env X pv H s).env.cells.lookup x = none from g.cells x] at e; cases e
  · obtain ⟨q1, q2⟩ := I.bs b o e
    have hb : b < env.locals := Nat.lt_of_lt_of_le (Heap.lt_size e) c.bsz
    exact ⟨by show (hcut s.heap env.locals).get? b = _; rw [hcut_get hb]; exact q1, gmark_low q2 hb⟩
  · show X.base.objs.size ≤ (hcut s.heap env.locals).objs.size
    rw [hcut_size]
    have h1 : X.base.objs.size ≤ env.locals := c.bsz
    have h2 : env.locals < s.heap.objs.size := hsz
    exact Nat.le_min.mpr ⟨h1, Nat.le_of_lt (Nat.lt_of_le_of_lt h1 h2)⟩
  · have st := I.stack
    have all : ∀ (l : List Env), (∀ b ∈ frs l, b < env.locals) → s.heap.FunFrames X.base l → (hcut s.heap env.locals).FunFrames X.base l := by
      intro l
      induction l with
      | nil => intro _ _; trivial
      | cons e r ih =>
        intro hs hl
        obtain ⟨hk, ⟨L, o, hf, hn, ho, hd⟩, hr⟩ := hl
        have hb : L < env.locals := hs L (by unfold frs; rw [List.filterMap_cons, hf]; exact List.mem_cons_self)
        exact ⟨hk, ⟨L, o, hf, hn, by rw [hcut_get hb]; exact ho, hd⟩, ih (fun b hb => hs b (by unfold frs; rw [List.filterMap_cons, hf]; exact List.mem_cons_of_mem _ hb)) hr⟩
    exact all X.stack c.fr st
  · exact gmark_low (I.stkFree b hb) (c.fr b hb)
  · obtain ⟨u, r, k⟩ := look i x v e1 e2 e3
    exact ⟨u, r, .inl k⟩
  · rw [show (gx N env X pv H s).env.cells.lookup x = none from g.cells x] at e; cases e
  · rw [show (gx N env X pv H s).env.cells.lookup x = none from g.cells x] at e; cases e
  · have hp : p ∈ ip := by
      rcases List.mem_append.mp hp with z | z
      · cases z
      · exact z
    obtain ⟨q1, q2, q3, q4, q5⟩ := hip p hp
    exact ⟨q1, gmark_pv q3.1 q4, q5, stk_no I q3, q2⟩
  · rcases gmark_inv e with q | ⟨_, _, _, o, ho, rfl⟩
    · exact (I.hok b u q).stay (fun _ _ _ z => z) (fun _ z => gmark_some z) fun _ _ z => gmark_some z
    · exact ⟨ho, ⟨o, ho⟩, fun h1 h2 q z => z o q⟩
/-- the consumer, behind a turn of the generator -/
theorem gkeeps (I : Inv X pins σ H s) (hpv : ∀ b ∈ pv, FpOk X pins H b) (J : Inv (gx N env X pv H s) ip σg H' s') (G : ∀ a o, gmark env.locals pv H s.heap a = some o → H' a = some o) (fr : ∀ b ∈ frs X.stack, b < env.locals) :
    Inv X pins σ (gunmark env.locals pv H s.heap H') s' ∧ (∀ a o, H a = some o → gunmark env.locals pv H s.heap H' a = some o) ∧ Tx H' (gunmark env.locals pv H s.heap H') := by
  have keepH : ∀ a o, H a = some o → gunmark env.locals pv H s.heap H' a = some o := fun a o e => by
    unfold gunmark
    rw [if_neg (fun z => by rw [e] at z; cases z.1)]
    exact G a o (gmark_some e)
  have hmk : ∀ b o, H b = none → env.locals ≤ b → b ∉ pv → s.heap.get? b = some o → H' b = some (.ext fun h' => h'.get? b = some o) ∧ s'.heap.get? b = some o := fun b o h1 h2 h3 h4 => by
    have q := G b _ (gmark_ext h1 h2 h3 h4)
    exact ⟨q, (J.hok b _ q).1⟩
  have sub : ∀ b u, gunmark env.locals pv H s.heap H' b = some u → H' b = some u := fun b u e => by
    unfold gunmark at e
    split at e
    · cases e
    · exact e
  have up : ∀ b u, H' b = some u → (∀ φ, u ≠ .ext φ) → gunmark env.locals pv H s.heap H' b = some u := fun b u e hne => by
    unfold gunmark
    split
    · rename_i hh
      obtain ⟨h1, h2, h3, o, h4⟩ := hh
      rw [(hmk b o h1 h2 h3 h4).1] at e
      cases e
      exact absurd rfl (hne _)
    · exact e
  have cutg : ∀ b o, b < env.locals → s.heap.get? b = some o → (gx N env X pv H s).s_0.heap.get? b = some o := fun b o hb e => by
    show (hcut s.heap env.locals).get? b = _
    rw [hcut_get hb]; exact e
  have nx : ∀ {b : Addr}, b ∉ (gx N env X pv H s).ex := fun z => by cases z
  refine ⟨I.call' (ch := pv) J.os ⟨fun b o e n hf hb => ?_, fun b o e n hf hb => ?_, fun b o e n hb => ?_, fun b o e hb => ?_, fun b xs e => keepH b _ e, fun b o u e => keepH b _ e, fun b ps e => ⟨#[], by rw [keepH b _ e]; simp⟩⟩ (fun b u e => ?_) J.bare (fun b hb => ?_), keepH, fun b xs e => up b _ e fun φ z => by cases z⟩
  · by_cases hL : b < env.locals
    · exact J.base.keep b o (cutg b o hL e) (gmark_low n hL) hf nx
    · exact (hmk b o n (Nat.le_of_not_lt hL) hb e).2
  · by_cases hL : b < env.locals
    · exact J.base.slot b o (cutg b o hL e) (gmark_low n hL) hf nx
    · exact ⟨o.slots, (hmk b o n (Nat.le_of_not_lt hL) hb e).2⟩
  · by_cases hL : b < env.locals
    · have q := J.base.free b o (cutg b o hL e) (gmark_low n hL) nx
      unfold gunmark
      split
      · rfl
      · exact q
    · unfold gunmark
      rw [if_pos ⟨n, Nat.le_of_not_lt hL, hb, o, e⟩]
  · by_cases hL : b < env.locals
    · exact J.base.there b o (cutg b o hL e) nx
    · cases q : H b with
      | none => exact ⟨o, (hmk b o q (Nat.le_of_not_lt hL) hb e).2⟩
      | some u =>
        have q2 := J.hok b u (G b u (gmark_some q))
        have : b < s'.heap.objs.size := q2.lt
        revert q2
        cases u with
        | lst xs => rintro ⟨_, _, _, _, z⟩; exact ⟨_, z⟩
        | tup xs => rintro ⟨_, _, _, ob, z, _⟩; exact ⟨_, z⟩
        | dK kvs => rintro ⟨_, _, _, _, ob, _, _, z, _⟩; exact ⟨_, z⟩
        | dT kvs => rintro ⟨_, _, _, _, ob, _, _, z, _⟩; exact ⟨_, z⟩
        | set S n => rintro ⟨ob, _, _, _, z, _⟩; exact ⟨_, z⟩
        | ins C dx fs => rintro ⟨_, _, _, z, _⟩; exact ⟨_, z⟩
        | own y => rintro ⟨_, z⟩; exact ⟨_, z⟩
        | xd fs => rintro ⟨_, ⟨_, _, _, z, _⟩, _⟩; exact ⟨_, z⟩
        | rng lo hi => rintro ⟨_, _, _, z⟩; exact ⟨_, z⟩
        | frz ob u => rintro ⟨z, _⟩; exact ⟨_, z⟩
        | tbl ps => exact fun z => ⟨_, z⟩
        | met f y => exact fun z => ⟨_, z⟩
        | ext φ => rintro ⟨_, ⟨_, z⟩, _⟩; exact ⟨_, z⟩
  · exact (J.hok b u (sub b u e)).stay (fun _ _ _ z => z) (fun c z => up c _ z fun φ q => by cases q) fun c xs z => up c _ z fun φ q => by cases q
  · obtain ⟨_, h2, h3, h4, h5, h6⟩ := hpv b hb
    exact ⟨h4, h2, h5, h6⟩
end
end DL
namespace DL
open PySem L2
open PyProof.Rows hiding St
open Sem (wp)
/-- one stretch of a run, up to its end or to what it hands out -/
def Sg (M : Model) (A : Around) (Φ : End → Shared → Prop) (c : Code) (t : Sem PySem.Fin) (fs : List Frame) (s : Shared) : Prop :=
  ∀ Γ p, Γ.code = c → Γ.Woken A → ∃ e s', Runs M Γ p t fs s e s' ∧ Φ e s'
section
variable {M : Model} {A : Around} {Φ : End → Shared → Prop} {c : Code} {fs : List Frame} {s : Shared}
theorem sg_wrap {α : Type} {m : Sem α} {k : α → Sem PySem.Fin} {j : Value → Sem PySem.Fin} {gd : Bool → Bool} {lv : List Value → List Value}
    (h : wpAny M (A.over c fs) m (fun a s1 => Sg M A Φ c (k a) fs s1) (fun x s1 => Sg M A Φ c (j x) fs s1) s) : Sg M A Φ c (m.wrap k j gd lv) fs s := by
  intro Γ p hc hw
  subst hc
  exact runs_wrap_of_wp k j gd lv m (h _ p (hw.over fs)) (fun a q s1 z => z Γ q rfl hw) fun a q s1 z => z Γ q rfl hw
theorem sg_bindw {α β : Type} {m : Sem α} {f : α → Sem β} {k : β → Sem PySem.Fin} {j : Value → Sem PySem.Fin} {gd : Bool → Bool} {lv : List Value → List Value}
    (h : wpAny M (A.over c fs) m (fun a s1 => Sg M A Φ c ((f a).wrap k j gd lv) fs s1) (fun x s1 => Sg M A Φ c (j x) fs s1) s) : Sg M A Φ c ((m >>= f).wrap k j gd lv) fs s := by
  rw [show (m >>= f) = m.wrap f .raise id id from Sem.bind_eq_wrap m f, Sem.wrap_wrap]
  exact sg_wrap h
theorem sg_at {q : Pos} {k : Unit → Sem PySem.Fin} (h : Sg M A Φ c (k ()) fs s) : Sg M A Φ c (.at q k) fs s :=
  sg_wrap (m := standAt q) (k := k) (j := .raise) (gd := id) (lv := id) (wpAny_standAt h)
theorem sg_call {d : Code} {hd : Option Value} {g : Bool} {l : List Value} {k : Result → Sem PySem.Fin} (h : ∀ p, Sg M A Φ d (M.den d) (.ret k hd g l c p [] :: fs) s) : Sg M A Φ c (.call d hd g l k) fs s := by
  intro Γ p hc hw
  subst hc
  obtain ⟨e, s1, r, z⟩ := h p (Γ.goto d) p rfl (hw.goto d)
  exact ⟨e, s1, runs_call_seg r, z⟩
theorem sg_leaf {k : Result → Sem PySem.Fin} {hd : Option Value} {g : Bool} {l kp : List Value} {d : Code} {q : Pos} (r : Result) (h : Sg M A Φ d (k r) fs s) : Sg M A Φ c (leafOf r) (.ret k hd g l d q kp :: fs) s := by
  intro Γ p hc hw
  subst hc
  obtain ⟨e, s1, z1, z2⟩ := h (Γ.goto d) q rfl (hw.goto d)
  exact ⟨e, s1, Runs.pop r z1, z2⟩
theorem sg_again {d : Code} (hq : d.quiet = true) (h : Sg M A Φ d (M.den d) fs s) : Sg M A Φ c (.pure (.again d)) fs s := by
  intro Γ p hc hw
  subst hc
  obtain ⟨e, s1, z1, z2⟩ := h (Γ.goto d) p rfl (hw.goto d)
  exact ⟨e, s1, Runs.head (c₁ := d) (fun _ _ z => .again hq z) z1, z2⟩
theorem sg_end (r : Result) (h : Φ (.ret r) s) : Sg M A Φ c (leafOf r) [] s := fun Γ p hc hw => by
  subst hc
  exact ⟨.ret r, s, Runs.leaf r, h⟩
theorem sg_yield {v : Value} {g : Bool} {l : List Value} {k : Resume → Sem PySem.Fin} (hs : splitAtGen fs = none) (h : ∀ p, Φ (.susp v g l k c p fs) s) : Sg M A Φ c (.yield v g l k) fs s := by
  intro Γ p hc hw
  subst hc
  exact ⟨_, s, Runs.yield' fs hs, h p⟩
theorem Sg.mono {Ψ : End → Shared → Prop} {t : Sem PySem.Fin} (h : Sg M A Φ c t fs s) (i : ∀ e s1, Φ e s1 → Ψ e s1) : Sg M A Ψ c t fs s := fun Γ p hc hw => by
  obtain ⟨e, s1, z1, z2⟩ := h Γ p hc hw
  exact ⟨e, s1, z1, i e s1 z2⟩
end
section
variable {X : Cx} {pins : List (Addr × Obj)} {σ : St} {H : Hp} {s : Shared}
theorem inv_lk {G : Array GenState} {b : Shared} (I : Inv X pins σ H b) (l : SLk G b s) : Inv X pins σ H s := by
  have hb := l.bare I.bare
  rw [l.eq]
  exact ⟨I.ok, I.os, hb, I.base, I.loc, I.cell, I.free, I.freeC, I.pin, I.hok, I.len⟩
theorem inv_still (I : Inv X pins σ H s) : Inv X pins σ H (still s) := ⟨I.ok, I.os, still_bare I.bare, I.base, I.loc, I.cell, I.free, I.freeC, I.pin, I.hok, I.len⟩
theorem calm_ep {Q : VK} : Calm (EP X pins σ Q) := fun G b s a l ⟨v, H', I, r, q⟩ => ⟨v, H', inv_lk I l, r, q⟩
theorem calm_sp {E : Ends} : Calm (SP X pins E) := fun G b s f l h => by
  cases f with
  | next => obtain ⟨σ', H', I, q⟩ := h; exact ⟨σ', H', inv_lk I l, q⟩
  | brk => obtain ⟨σ', H', I, q⟩ := h; exact ⟨σ', H', inv_lk I l, q⟩
  | cont => obtain ⟨σ', H', I, q⟩ := h; exact ⟨σ', H', inv_lk I l, q⟩
  | ret u => obtain ⟨v, σ', H', I, r, q⟩ := h; exact ⟨v, σ', H', inv_lk I l, r, q⟩
theorem pe_kept {e : Expr} {t : TE} {Q : VK} (hx : Calm X.xe) (h : PE X e t) (I : Inv X pins σ H s) (q : t σ H Q) : wpAny (model X.prog X.w) X.A (eval e X.env) (fun u s' => EP X pins σ Q u s' ∧ Kept s s') (fun e s' => X.xe e s' ∧ Kept s s') s :=
  wpAny_kept calm_ep hx (h.run pins (still s) σ H Q (inv_still I) q)
theorem pss_kept {st : List Stmt} {t : TS} {E : Ends} (hx : Calm X.xe) (h : PSs X st t) (I : Inv X pins σ H s) (q : t E σ H) : wpAny (model X.prog X.w) X.A (execs st X.env) (fun u s' => SP X pins E u s' ∧ Kept s s') (fun e s' => X.xe e s' ∧ Kept s s') s :=
  wpAny_kept calm_sp hx (h.run pins (still s) σ H E (inv_still I) q)
theorem pg_kept {tg : Expr} {g : TG} {v : V} {u : Value} {Q : St → Hp → Prop} (hx : Calm X.xe) (h : PG X tg g) (I : Inv X pins σ H s) (r : RelV v u) (q : g v σ H Q) :
    wpAny (model X.prog X.w) X.A (assign tg X.env u) (fun _ s' => (∃ σ' H', Inv X pins σ' H' s' ∧ Q σ' H') ∧ Kept s s') (fun e s' => X.xe e s' ∧ Kept s s') s :=
  wpAny_kept (Q := fun _ s' => ∃ σ' H', Inv X pins σ' H' s' ∧ Q σ' H') (fun G b s _ l ⟨σ', H', I, z⟩ => ⟨σ', H', inv_lk I l, z⟩) hx (h.run pins (still s) σ H v u Q (inv_still I) r q)
theorem calm_no : Calm (fun (_ : Value) (_ : Shared) => False) := fun _ _ _ _ _ h => h
end
def OfP (P : Program) (w : World) (K : PySem.W.Frag) (mg : Str → Option Value) (base : Heap) (X : Cx) : Prop := X.prog = P ∧ X.w = w ∧ X.K = K ∧ X.mg = mg ∧ X.base = base
/-- who wakes the generator, and where things stand then -/
structure Rs where
  X : Cx
  pins : List (Addr × Obj)
  σ : St
  H : Hp
  s : Shared
  pv : List Addr
section
variable (P : Program) (w : World) (K : PySem.W.Frag) (mg : Str → Option Value) (base : Heap) (k : Nat) (N : List Str) (env : Env)
structure RsOk (γ : Rs) : Prop where
  of : OfP P w K mg base γ.X
  room : Room (k + 2) γ.X.A
  cons : Cons env.locals γ.X
  inv : Inv γ.X γ.pins γ.σ γ.H γ.s
  pv : ∀ b ∈ γ.pv, FpOk γ.X γ.pins γ.H b
  loc : env.locals ∈ γ.pv
  lt : env.locals < γ.s.heap.objs.size
/-- what the generator has while it sleeps: objects, generators -/
structure PvOk (γ : Rs) (pvp : List (Addr × Obj)) (gs : List (Nat × GenState)) (H2 : Hp) (s' : Shared) : Prop where
  obj : ∀ p ∈ pvp, s'.heap.get? p.1 = some p.2 ∧ (∀ v, p.2.data ≠ .cell v) ∧ FpOk γ.X γ.pins H2 p.1
  gen : ∀ q ∈ gs, s'.gens[q.1]? = some q.2 ∧ asleep q.2 = true
  loc : env.locals ∈ pvp.map (·.1)
/-- xs is what comes from here on -/
def Goal (ga : (Addr × Obj) × Nat) : List D → Rs → End → Shared → Prop
  | [], γ, .ret r, s' => r = .ok (.ret .none) ∧ ∃ H2, Inv γ.X γ.pins γ.σ H2 s' ∧ ∀ a o, γ.H a = some o → H2 a = some o
  | x :: xs, γ, .susp v gd l kk c p fs, s' => (End.susp v gd l kk c p fs).quiet = true ∧ tt x = true ∧ ∃ (vv : V) (H2 : Hp) (pvp : List (Addr × Obj)) (gs : List (Nat × GenState)), RelV vv v ∧ Inv γ.X γ.pins γ.σ H2 s' ∧ (∀ a o, γ.H a = some o → H2 a = some o) ∧ RepV K [] H2 x vv ∧
      PvOk env γ pvp gs H2 s' ∧ (ga.1 ∈ pvp ∧ ∀ q ∈ gs, q.1 ≠ ga.2) ∧
      ∀ γ' : Rs, RsOk P w K mg base k env γ' → Tx H2 γ'.H → γ'.pv = pvp.map (·.1) → (∀ p ∈ pvp, γ'.s.heap.get? p.1 = some p.2) → (∀ q ∈ gs, γ'.s.gens[q.1]? = some q.2) →
        Sg (model P w) γ'.X.A.in1 (Goal ga xs γ') c (kk (.send .none)) fs γ'.s
  | _, _, _, _ => False
/-- inside a turn -/
structure GRun (γ : Rs) (ip : List (Addr × Obj)) (ig : List (Nat × GenState)) (ρ : Ev) (Ht : Hp) (s' : Shared) : Prop where
  ex : ∃ σg H', Inv (gx N env γ.X γ.pv γ.H γ.s) ip σg H' s' ∧ (∀ a o, gmark env.locals γ.pv γ.H γ.s.heap a = some o → H' a = some o) ∧ RepE K [] H' σg ρ ∧ Tx Ht H'
  tt : ttE ρ
  ips : ∀ p ∈ ip, p.1 ∈ γ.pv ∨ γ.s.heap.objs.size ≤ p.1
  igs : ∀ q ∈ ig, s'.gens[q.1]? = some q.2 ∧ asleep q.2 = true
  gone : Gone γ.s s'
/-- where the code stands -/
structure GPos (c : Code) (fs : List Frame) (gd : Bool → Bool) : Prop where
  over : ∀ A : Around, A.over c fs = A.deeper env
  split : splitAtGen fs = none
  guard : fs.any Frame.guarded = false
  gd : gd false = false
/-- what a statement of a generator hands out, and the slots behind it -/
abbrev GM := Ev → List D → Ev → Prop
/-- the generator's object and number -/
def GaOk (ga : (Addr × Obj) × Nat) (ip : List (Addr × Obj)) (ig : List (Nat × GenState)) : Prop := ga.1 ∈ ip ∧ ∀ q ∈ ig, q.1 ≠ ga.2
def GS (ga : (Addr × Obj) × Nat) (st : Stmt) (B : GM) : Prop := ∀ (γ : Rs) (ip : List (Addr × Obj)) (ig : List (Nat × GenState)) (ρ : Ev) (ys : List D) (ρ' : Ev) (Ht : Hp) (rest : List D) (c : Code) (fs : List Frame) (kk : Flow → Sem PySem.Fin) (jj : Value → Sem PySem.Fin) (gd : Bool → Bool) (lv : List Value → List Value) (s : Shared),
  RsOk P w K mg base k env γ → GaOk ga ip ig → GPos env c fs gd → GRun K N env γ ip ig ρ Ht s → B ρ ys ρ' →
  (∀ γ' s', RsOk P w K mg base k env γ' → GRun K N env γ' ip ig ρ' Ht s' → Sg (model P w) γ'.X.A.in1 (Goal P w K mg base k env ga rest γ') c (kk .next) fs s') →
  Sg (model P w) γ.X.A.in1 (Goal P w K mg base k env ga (ys ++ rest) γ) c ((exec st env).wrap kk jj gd lv) fs s
def GSs (ga : (Addr × Obj) × Nat) (st : List Stmt) (B : GM) : Prop := ∀ (γ : Rs) (ip : List (Addr × Obj)) (ig : List (Nat × GenState)) (ρ : Ev) (ys : List D) (ρ' : Ev) (Ht : Hp) (rest : List D) (c : Code) (fs : List Frame) (kk : Flow → Sem PySem.Fin) (jj : Value → Sem PySem.Fin) (gd : Bool → Bool) (lv : List Value → List Value) (s : Shared),
  RsOk P w K mg base k env γ → GaOk ga ip ig → GPos env c fs gd → GRun K N env γ ip ig ρ Ht s → B ρ ys ρ' →
  (∀ γ' s', RsOk P w K mg base k env γ' → GRun K N env γ' ip ig ρ' Ht s' → Sg (model P w) γ'.X.A.in1 (Goal P w K mg base k env ga rest γ') c (kk .next) fs s') →
  Sg (model P w) γ.X.A.in1 (Goal P w K mg base k env ga (ys ++ rest) γ) c ((execs st env).wrap kk jj gd lv) fs s
/-- an expression in the generator's frame, whoever wakes it -/
def GDE (e : Expr) (f : Ev → Sto → R D) : Prop := ∀ (X : Cx) (pv : List Addr) (H : Hp) (s : Shared), OfP P w K mg base X → Room k (X.A.in1.deeper env) → DE (gx N env X pv H s) W0 e f
end
section
variable {P : Program} {w : World} {K : PySem.W.Frag} {mg : Str → Option Value} {base : Heap} {k : Nat} {N : List Str} {env : Env} {ga : (Addr × Obj) × Nat} {st : Stmt} {rest : List Stmt}
def gNil : GM := fun ρ ys ρ' => ys = [] ∧ ρ' = ρ
theorem gss_one {A : GM} (h1 : GS P w K mg base k N env ga st A) : GSs P w K mg base k N env ga [st] A := by
  intro γ ip ig ρ ys ρ' Ht r2 c fs kk jj gd lv s hγ hga hp hr hB h
  rw [execs_cons_wrap]
  exact h1 γ ip ig ρ ys ρ' Ht r2 c fs _ jj gd lv s hγ hga hp hr hB fun γ' s' hγ' hr' => h γ' s' hγ' hr'
/-- the room inside -/
theorem RsOk.inner {γ : Rs} (h : RsOk P w K mg base k env γ) : Room k (γ.X.A.in1.deeper env) := (h.room.in1).deeper env
/-- an expression's value, in a turn -/
theorem gde_run {e : Expr} {f : Ev → Sto → R D} {γ : Rs} {ip : List (Addr × Obj)} {ig : List (Nat × GenState)} {ρ : Ev} {Ht : Hp} {s : Shared} {d : D} {Q : Value → Shared → Prop} {E : Value → Shared → Prop} (he : GDE P w K mg base k N env e f) (hγ : RsOk P w K mg base k env γ) (hr : GRun K N env γ ip ig ρ Ht s) (hf : f ρ [] = .ok d [])
    (h : ∀ u v σg H' s', Inv (gx N env γ.X γ.pv γ.H γ.s) ip σg H' s' → (∀ a o, gmark env.locals γ.pv γ.H γ.s.heap a = some o → H' a = some o) → RepE K [] H' σg ρ → Tx Ht H' → (∀ q ∈ ig, s'.gens[q.1]? = some q.2 ∧ asleep q.2 = true) → Gone γ.s s' → RelV v u → RepV K [] H' d v → Q u s') :
    wpAny (model P w) (γ.X.A.in1.deeper env) (eval e env) Q E s := by
  obtain ⟨σg, H', I, G, rE, hfl⟩ := hr.ex
  have hof := hγ.of
  obtain ⟨e1, e2, e3, e4, e5⟩ := hγ.of
  have key := pe_kept (X := gx N env γ.X γ.pv γ.H γ.s) (Q := fun v H'' => (∀ a o, H' a = some o → H'' a = some o) ∧ RepV K [] H'' d v) calm_no (he γ.X γ.pv γ.H γ.s hof hγ.inner) I ⟨[], ρ, [], by rw [show (gx N env γ.X γ.pv γ.H γ.s).K = K from e3]; exact rE, ⟨List.nodup_nil, rfl, fun n a o z => by simp at z⟩, by
    rw [hf]
    intro ι' H'' Gw Sm v rv
    have hn : ι' = [] := List.length_eq_zero_iff.mp Sm.len
    subst hn
    rw [show (gx N env γ.X γ.pv γ.H γ.s).K = K from e3] at rv
    exact ⟨fun a o z => Gw.keep a o z (by simp), rv⟩⟩
  have key2 : wpAny (model γ.X.prog γ.X.w) (γ.X.A.in1.deeper env) (eval e env) _ _ s := key
  rw [e1, e2] at key2
  refine wpAny_mono key2 (fun u s' ⟨⟨v, H'', I', rv, hk, rd⟩, kp⟩ => ?_) fun x s' z => z.1.elim
  refine h u v σg H'' s' I' (fun a o z => hk a o (G a o z)) (rE.tx hr.tt fun a xs z => hk a _ z) (hfl.trans fun a xs z => hk a _ z) (fun q hq => ?_) (hr.gone.trans kp.gone) rv rd
  obtain ⟨z1, z2⟩ := hr.igs q hq
  exact ⟨kp.gen _ _ z1 z2, z2⟩
end
end DL
namespace DL
open PySem L2
open PyProof.Rows hiding St
open Sem (wp)
section
variable {P : Program} {w : World} {K : PySem.W.Frag} {mg : Str → Option Value} {base : Heap} {k : Nat} {N : List Str} {env : Env} {ga : (Addr × Obj) × Nat}
theorem gunmark_none {L : Addr} {pv : List Addr} {H H' : Hp} {h : Heap} {b : Addr} (e : H' b = none) : gunmark L pv H h H' b = none := by
  unfold gunmark; split
  · rfl
  · exact e
/-- a generator goes to sleep -/
theorem gsleep {γ : Rs} {ip : List (Addr × Obj)} {ig : List (Nat × GenState)} {ρ : Ev} {s' : Shared} {σg : St} {H' Ht : Hp} {d : D} {vv : V} {u : Value} {rest : List D} {gd : Bool} {l : List Value} {kk : Resume → Sem PySem.Fin} {c : Code} {p : Pos} {fs : List Frame}
    (g : GEnv N env) (hγ : RsOk P w K mg base k env γ) (hga : GaOk ga ip ig) (I : Inv (gx N env γ.X γ.pv γ.H γ.s) ip σg H' s') (G : ∀ a o, gmark env.locals γ.pv γ.H γ.s.heap a = some o → H' a = some o) (rE : RepE K [] H' σg ρ) (hfl : Tx Ht H') (tρ : ttE ρ) (ips : ∀ p ∈ ip, p.1 ∈ γ.pv ∨ γ.s.heap.objs.size ≤ p.1)
    (igs : ∀ q ∈ ig, s'.gens[q.1]? = some q.2 ∧ asleep q.2 = true) (rv : RelV vv u) (rd : RepV K [] H' d vv) (td : tt d = true) (hq : (End.susp u gd l kk c p fs).quiet = true)
    (hk : ∀ γ' s'', RsOk P w K mg base k env γ' → GRun K N env γ' ip ig ρ Ht s'' → Sg (model P w) γ'.X.A.in1 (Goal P w K mg base k env ga rest γ') c (kk (.send .none)) fs s'') : Goal P w K mg base k env ga (d :: rest) γ (.susp u gd l kk c p fs) s' := by
  obtain ⟨lo, hlo, sl⟩ := Slots.of g I
  obtain ⟨I2, hsub, htx⟩ := gkeeps hγ.inv hγ.pv I G hγ.cons.fr
  have hpin : ∀ p ∈ ip, s'.heap.get? p.1 = some p.2 ∧ H' p.1 = none ∧ p.1 ≠ env.locals ∧ ∀ v, p.2.data ≠ .cell v := fun p hp => by
    obtain ⟨h1, h2, h3, _, h5⟩ := I.pin p (List.mem_append_right _ hp)
    exact ⟨h1, h2, h3, h5⟩
  refine ⟨hq, td, vv, gunmark env.locals γ.pv γ.H γ.s.heap H', (env.locals, lo) :: ip, ig, rv, I2, hsub, tt_grow td htx rd, ⟨fun p hp => ?_, igs, by simp⟩, ⟨List.mem_cons_of_mem _ hga.1, hga.2⟩, fun γ' hγ' tx hpv hobj hgen => ?_⟩
  · rcases List.mem_cons.mp hp with rfl | hp
    · exact ⟨hlo, sl.1, gunmark_none I.free, (hγ.pv _ hγ.loc).2⟩
    · obtain ⟨h1, h2, h3, h4⟩ := hpin p hp
      refine ⟨h1, h4, ?_⟩
      rcases ips p hp with z | z
      · exact ⟨gunmark_none h2, (hγ.pv _ z).2⟩
      · exact hγ.inv.fpOk z (gunmark_none h2)
  · have mem : ∀ p ∈ ip, p.1 ∈ γ'.pv := fun p hp => by rw [hpv]; exact List.mem_cons_of_mem _ (List.mem_map_of_mem hp)
    refine hk γ' γ'.s hγ' ⟨⟨σg, gmark env.locals γ'.pv γ'.H γ'.s.heap, gwake g hγ'.cons hγ'.inv (hobj (env.locals, lo) List.mem_cons_self) sl (hγ'.pv _ hγ'.loc) hγ'.loc (fun p hp => ?_), fun _ _ z => z, ?_, ?_⟩, tρ, fun p hp => .inl (mem p hp), fun q hq => ⟨hgen q hq, (igs q hq).2⟩, Gone.refl _⟩
    · obtain ⟨h1, h2, h3, h4⟩ := hpin p hp
      exact ⟨hobj p (List.mem_cons_of_mem _ hp), h4, hγ'.pv _ (mem p hp), mem p hp, h3⟩
    · exact rE.tx tρ ((htx.trans tx).trans fun a xs z => gmark_some z)
    · exact hfl.trans ((htx.trans tx).trans fun a xs z => gmark_some z)
def gYield (f : Ev → Sto → R D) : GM := fun ρ ys ρ' => ρ' = ρ ∧ ∃ d, ys = [d] ∧ tt d = true ∧ f ρ [] = .ok d []
theorem gs_yield {e : Expr} {f : Ev → Sto → R D} {yp pos : Pos} (g : GEnv N env) (he : GDE P w K mg base k N env e f) (hco : env.scope.isCoroutine = false := by rfl) (hi : interactive env = false := by rfl) :
    GS P w K mg base k N env ga (.Expr (.Yield (some e) yp) pos) (gYield f) := by
  intro γ ip ig ρ ys ρ' Ht rest c fs kk jj gd lv s hγ hga hp hr hB h
  obtain ⟨rfl, d, rfl, td, hf⟩ := hB
  rw [exec_Expr env _ pos hi rfl]
  show Sg _ _ _ c (.at pos fun _ => ((eval e env >>= fun v => (standAt yp >>= fun _ => yieldOut env v)) >>= fun x => dropValue (.Yield (some e) yp) pos x).wrap kk jj gd lv) fs s
  have hy : ∀ v, yieldOut env v = yieldValue v := fun v => by simp only [yieldOut, hco, Bool.false_eq_true, if_false]
  simp only [hy]
  refine sg_at ?_
  rw [Sem.bind_eq_wrap', Sem.bind_eq_wrap', Sem.wrap_wrap, Sem.wrap_wrap]
  refine sg_wrap ?_
  rw [hp.over]
  refine gde_run he hγ hr hf fun u v σg H' s' I G rE hfl igs gone rv rd => ?_
  refine sg_at (sg_yield hp.split fun p => ?_)
  refine gsleep g hγ hga I G rE hfl hr.tt hr.ips igs rv rd td ?_ fun γ' s'' hγ' hr' => ?_
  · have hg : gd false = false := hp.gd
    show (!(gd false || fs.any Frame.guarded)) = true
    rw [hg, hp.guard]; rfl
  · exact h γ' s'' hγ' hr'
def gLoop (T : Tg) (B : GM) : List D → GM
  | [] => gNil
  | d :: ds => fun ρ ys ρ' => ∃ ρ1 y1 ρ2 y2, T d ρ [] = some (ρ1, []) ∧ ttE ρ1 ∧ B ρ1 y1 ρ2 ∧ gLoop T B ds ρ2 y2 ρ' ∧ ys = y1 ++ y2
def GDG (P : Program) (w : World) (K : PySem.W.Frag) (mg : Str → Option Value) (base : Heap) (k : Nat) (N : List Str) (env : Env) (e : Expr) (T : Tg) : Prop := ∀ (X : Cx) (pv : List Addr) (H : Hp) (s : Shared), OfP P w K mg base X → Room k (X.A.in1.deeper env) → DG (gx N env X pv H s) e T
theorem gpos_loop {c c' : Code} {fs : List Frame} {gd : Bool → Bool} {kr : Result → Sem PySem.Fin} {l kp : List Value} {p : Pos} (g : GPos env c fs gd) (hw : c'.weight = 0) (hu : c'.cUnits = 0) : GPos env c' (.ret kr none (gd false) l c p kp :: fs) id where
  over := fun A => (GenW.over_loop hw hu).trans (g.over A)
  split := by
    show Option.map _ (splitAtGen fs) = none
    rw [g.split]; rfl
  guard := by
    show (gd false || fs.any Frame.guarded) = false
    rw [g.gd, g.guard]; rfl
  gd := rfl
/-- what a loop's code answers to an exception -/
def upNote (env : Env) (x : Value) : Sem Unit := do noteFrame x env; theTreesLotGoes x
/-- one turn of a for loop -/
theorem sg_forLoop {A : Around} {Φ : End → Shared → Prop} {tg : Expr} {it : Value} {body orelse : List Stmt} {fs : List Frame} {s : Shared}
    (h : wpAny (model P w) (A.over (.forLoop tg it body orelse env) fs) (pyNext it) (fun r s1 => match r with
      | none => Sg (model P w) A Φ (.forLoop tg it body orelse env) (.pure (.again (.block orelse env))) fs s1
      | some v => wpAny (model P w) (A.over (.forLoop tg it body orelse env) fs) (letOwnedTupleGo tg it v) (fun _ s2 => wpAny (model P w) (A.over (.forLoop tg it body orelse env) fs) (assign tg env v) (fun _ s3 =>
          ∀ kk jj, kk .next = .pure (.again (.forLoop tg it body orelse env)) → Sg (model P w) A Φ (.forLoop tg it body orelse env) ((execs body env).wrap kk jj id id) fs s3) (fun _ _ => False) s2) (fun _ _ => False) s1) (fun _ _ => False) s) :
    Sg (model P w) A Φ (.forLoop tg it body orelse env) ((model P w).den (.forLoop tg it body orelse env)) fs s := by
  show Sg _ A Φ _ ((forTurn tg it body orelse env).onRaise (upNote env)) fs s
  unfold forTurn
  rw [Sem.onRaise_eq_wrap]
  refine sg_bindw (wpAny_standAt ?_)
  refine sg_bindw (wpAny_onRaise (wpAny_mono h (fun r s1 h1 => ?_) fun _ _ z => z.elim))
  cases r with
  | none => exact h1
  | some v =>
    refine sg_bindw (wpAny_mono h1 (fun _ s2 h2 => ?_) fun _ _ z => z.elim)
    refine sg_bindw (wpAny_mono h2 (fun _ s3 h3 => ?_) fun _ _ z => z.elim)
    show Sg _ A Φ _ (Sem.wrap _ _ _ _ (execs body env >>= _)) fs s3
    rw [Sem.bind_eq_wrap', Sem.wrap_wrap]
    exact h3 _ _ rfl
end
end DL
namespace DL
open PySem L2
open PyProof.Rows hiding St
open Sem (wp)
/-- the items, as long as the tuples stand -/
def ItT (K : PySem.W.Frag) (J : It) (H : Hp) (ds : List D) : Prop := ∀ H1, Tx H H1 →
  (∀ i, ds.length ≤ i → J.stop i H1) ∧ ∀ i d, ds[i]? = some d → J.go i H1 ∧ ∀ x H2, J.yld i H1 x H2 → (∀ a o, H1 a = some o → H2 a = some o) ∧ RepV K [] H2 d x
theorem ItT.tx {K : PySem.W.Frag} {J : It} {H H' : Hp} {ds : List D} (h : ItT K J H ds) (t : Tx H H') : ItT K J H' ds := fun H1 t1 => h H1 (t.trans t1)
abbrev GSrc := Ev → List D → Prop
def rdJ (K : PySem.W.Frag) (f : GSrc) : TI := fun σ H Rr => ∃ ρ ds, RepE K [] H σ ρ ∧ f ρ ds ∧ ∀ J H', (∀ a o, H a = some o → H' a = some o) → ItT K J H' ds → Rr J H'
theorem sim_nil {K : PySem.W.Frag} {H : Hp} : Sim K [] H [] := ⟨List.nodup_nil, rfl, fun n a o z => by simp at z⟩
theorem sim_is_nil {K : PySem.W.Frag} {ι : List Addr} {H : Hp} (s : Sim K ι H []) : ι = [] := List.length_eq_zero_iff.mp s.len
theorem Grow.sub {H H' : Hp} (g : Grow [] H [] H') : ∀ a o, H a = some o → H' a = some o := fun a o e => g.keep a o e (by simp)
section
variable {X : Cx} {tg : Expr}
def jRng2 (g : Ev → Sto → R (List D)) : GSrc := fun ρ ds => ∃ i j : Int, g ρ [] = .ok [.int i, .int j] [] ∧ (-(2 ^ 62) ≤ i ∧ i < 2 ^ 62 ∧ -(2 ^ 62) ≤ j ∧ j < 2 ^ 62) ∧ ds = rangeD i (j - i).toNat
theorem itT_r {K : PySem.W.Frag} {H : Hp} {lo : Int} {n : Nat} : ItT K (Itr lo n) H (rangeD lo n) := fun H1 _ => by
  refine ⟨fun i hi => by rw [rangeD_len] at hi; exact hi, fun i d e => ?_⟩
  obtain ⟨hi, rfl⟩ := rangeD_get e
  refine ⟨hi, fun x H2 y => ?_⟩
  obtain ⟨rfl, rfl⟩ := y
  exact ⟨fun _ _ z => z, int_rep⟩
theorem dj_range2 {a b : Expr} {g : Ev → Sto → R (List D)} {p pos : Pos} (hg : Gl X "range") (hm : X.mg "range" = none) (ha : DA X W0 [a, b] g) (hs : starEach [a, b] X.env = [(false, eval a X.env), (false, eval b X.env)] := by rfl) (hs2 : starEach [b] X.env = [(false, eval b X.env)] := by rfl) :
    PI X tg (.Call (.Name "range" p) [a, b] [] pos) (rdJ X.K (jRng2 g)) := by
  refine PI.imp (pi_range2 hg hm ha hs hs2) fun σ H Rr ⟨ρ, ds, hE, hsr, q⟩ => ?_
  obtain ⟨i, j, hgv, hb, rfl⟩ := hsr
  refine ⟨[], ρ, [], hE, sim_nil, ?_⟩
  rw [hgv]
  intro ι1 H1 G1 s1 vs rs
  cases sim_is_nil s1
  obtain ⟨v, u, rfl, rv, ru⟩ := RepL.two_inv rs
  exact ⟨_, _, by rw [int_at rv, int_at ru], hb, q _ H1 G1.sub itT_r⟩
end
def GDJ (P : Program) (w : World) (K : PySem.W.Frag) (mg : Str → Option Value) (base : Heap) (k : Nat) (N : List Str) (env : Env) (tg e : Expr) (f : GSrc) : Prop := ∀ (X : Cx) (pv : List Addr) (H : Hp) (s : Shared), OfP P w K mg base X → Room k (X.A.in1.deeper env) → PI (gx N env X pv H s) tg e (rdJ K f)
theorem calm_pie {X : Cx} {pins : List (Addr × Obj)} {σ : St} {tg : Expr} {R : It → Hp → Prop} : Calm (PIE X pins σ tg R) := fun G b s v l ⟨it, fp, tn, J, H', e, I, T, st, f, r⟩ => ⟨it, fp, tn, J, H', e, inv_lk I l, T, by rw [l.heap]; exact st, f, r⟩
def gForJ (f : GSrc) (T : Tg) (B : GM) : GM := fun ρ ys ρ' => ∃ ds, f ρ ds ∧ gLoop T B ds ρ ys ρ'
section
variable {P : Program} {w : World} {K : PySem.W.Frag} {mg : Str → Option Value} {base : Heap} {k : Nat} {N : List Str} {env : Env} {ga : (Addr × Obj) × Nat}
/-- a target in a turn -/
theorem gdg_run {tg : Expr} {T : Tg} {γ : Rs} {ip : List (Addr × Obj)} {ig : List (Nat × GenState)} {ρ ρ1 : Ev} {s : Shared} {d : D} {v : V} {u : Value} {σg : St} {H' Ht : Hp} {Q : Unit → Shared → Prop} {E : Value → Shared → Prop} (hg : GDG P w K mg base k N env tg T) (hγ : RsOk P w K mg base k env γ)
    (I : Inv (gx N env γ.X γ.pv γ.H γ.s) ip σg H' s) (G : ∀ a o, gmark env.locals γ.pv γ.H γ.s.heap a = some o → H' a = some o) (rE : RepE K [] H' σg ρ) (hfl : Tx Ht H') (igs : ∀ q ∈ ig, s.gens[q.1]? = some q.2 ∧ asleep q.2 = true) (gone : Gone γ.s s) (ips : ∀ p ∈ ip, p.1 ∈ γ.pv ∨ γ.s.heap.objs.size ≤ p.1)
    (rv : RelV v u) (rd : RepV K [] H' d v) (hT : T d ρ [] = some (ρ1, [])) (t1 : ttE ρ1) (h : ∀ s', GRun K N env γ ip ig ρ1 Ht s' → Q () s') : wpAny (model P w) (γ.X.A.in1.deeper env) (assign tg env u) Q E s := by
  have hof := hγ.of
  obtain ⟨e1, e2, e3, e4, e5⟩ := hγ.of
  have key := pg_kept (X := gx N env γ.X γ.pv γ.H γ.s) (Q := fun σ' H'' => (∀ a o, H' a = some o → H'' a = some o) ∧ RepE K [] H'' σ' ρ1) calm_no (hg γ.X γ.pv γ.H γ.s hof hγ.inner) I rv ⟨[], ρ, [], d, ρ1, [], by rw [show (gx N env γ.X γ.pv γ.H γ.s).K = K from e3]; exact rE, sim_nil, by rw [show (gx N env γ.X γ.pv γ.H γ.s).K = K from e3]; exact rd, hT, by
    intro ι' H'' σ' Gw Sm hE
    cases sim_is_nil Sm
    rw [show (gx N env γ.X γ.pv γ.H γ.s).K = K from e3] at hE
    exact ⟨Gw.sub, hE⟩⟩
  have key2 : wpAny (model γ.X.prog γ.X.w) (γ.X.A.in1.deeper env) (assign tg env u) _ _ s := key
  rw [e1, e2] at key2
  refine wpAny_mono key2 (fun _ s' ⟨⟨σ', H'', I', hk, hE⟩, kp⟩ => ?_) fun x s' z => z.1.elim
  refine h s' ⟨⟨σ', H'', I', fun a o z => hk a o (G a o z), hE, hfl.trans fun a xs z => hk a _ z⟩, t1, ips, fun q hq => ?_, gone.trans kp.gone⟩
  obtain ⟨z1, z2⟩ := igs q hq
  exact ⟨kp.gen _ _ z1 z2, z2⟩
/-- the source's items, read off the frame -/
def rdPm (K : PySem.W.Frag) (Pm : St → Hp → Prop) (ds : List D) : TI := fun σ H Rr => Pm σ H ∧ ∀ J H', (∀ a o, H a = some o → H' a = some o) → ItT K J H' ds → Rr J H'
structure GRunP (K : PySem.W.Frag) (N : List Str) (env : Env) (Pm : St → Hp → Prop) (γ : Rs) (ip : List (Addr × Obj)) (ig : List (Nat × GenState)) (ρ : Ev) (Ht : Hp) (s' : Shared) : Prop where
  ex : ∃ σg H', Inv (gx N env γ.X γ.pv γ.H γ.s) ip σg H' s' ∧ (∀ a o, gmark env.locals γ.pv γ.H γ.s.heap a = some o → H' a = some o) ∧ RepE K [] H' σg ρ ∧ Tx Ht H' ∧ Pm σg H'
  tt : ttE ρ
  ips : ∀ p ∈ ip, p.1 ∈ γ.pv ∨ γ.s.heap.objs.size ≤ p.1
  igs : ∀ q ∈ ig, s'.gens[q.1]? = some q.2 ∧ asleep q.2 = true
  gone : Gone γ.s s'
theorem gs_forP {tg iter : Expr} {body : List Stmt} {Pm : St → Hp → Prop} {ds : List D} {T : Tg} {B : GM} {pos : Pos} (hi : ∀ (X : Cx) (pv : List Addr) (H : Hp) (s : Shared), OfP P w K mg base X → Room k (X.A.in1.deeper env) → PI (gx N env X pv H s) tg iter (rdPm K Pm ds)) (hg : GDG P w K mg base k N env tg T) (hb : GSs P w K mg base k N env ga body B)
    (hs : ∀ x, foldedSetIterable iter env x = pure x)
    (γ : Rs) (ip : List (Addr × Obj)) (ig : List (Nat × GenState)) (ρ : Ev) (ys : List D) (ρ' : Ev) (Ht : Hp) (rest : List D) (c : Code) (fs : List Frame) (kk : Flow → Sem PySem.Fin) (jj : Value → Sem PySem.Fin) (gd : Bool → Bool) (lv : List Value → List Value) (s : Shared)
    (hγ : RsOk P w K mg base k env γ) (hga : GaOk ga ip ig) (hp : GPos env c fs gd) (hr : GRunP K N env Pm γ ip ig ρ Ht s) (hL : gLoop T B ds ρ ys ρ')
    (h : ∀ γ' s', RsOk P w K mg base k env γ' → GRun K N env γ' ip ig ρ' Ht s' → Sg (model P w) γ'.X.A.in1 (Goal P w K mg base k env ga rest γ') c (kk .next) fs s') :
    Sg (model P w) γ.X.A.in1 (Goal P w K mg base k env ga (ys ++ rest) γ) c ((exec (.For tg iter body [] pos) env).wrap kk jj gd lv) fs s := by
  obtain ⟨σg, H', I, G, rE, hfl, hPm⟩ := hr.ex
  have hof := hγ.of
  obtain ⟨e1, e2, e3, e4, e5⟩ := hγ.of
  rw [exec_For]
  refine sg_bindw (wpAny_standAt ?_)
  refine sg_bindw ?_
  rw [hp.over]
  have key := wpAny_kept2 (fun _ => True) (Q := fun _ => PIE (gx N env γ.X γ.pv γ.H γ.s) ip σg tg fun J H'' => (∀ a o, H' a = some o → H'' a = some o) ∧ ItT K J H'' ds) (fun _ => calm_pie) calm_no (thn ((hi γ.X γ.pv γ.H γ.s hof hγ.inner).run ip (still s) σg H' _ (inv_still I) ⟨hPm, fun J H'' hk hJ => ⟨hk, hJ⟩⟩) fun _ _ z => ⟨trivial, z⟩)
  have key2 : wpAny (model γ.X.prog γ.X.w) (γ.X.A.in1.deeper env) (eval iter env) (fun a s1 => True ∧ wpAny (model γ.X.prog γ.X.w) (γ.X.A.in1.deeper env) (pyIter a) _ _ s1) _ s := key
  rw [e1, e2] at key2
  refine wpAny_mono key2 (fun v s1 ⟨_, h1⟩ => ?_) fun _ _ z => z.1.elim
  refine sg_bindw (wpAny_of_eq (hs v) ?_)
  refine sg_bindw (wpAny_standAt ?_)
  refine sg_bindw (wpAny_holding ?_)
  rw [hp.over]
  refine wpAny_mono h1 (fun itv s2 h2 => ?_) fun _ _ z => z.1.elim
  obtain ⟨⟨it, fp, tn, J, H2, rfl, I2, T2, st2, fp2, hk2, hJ2⟩, kp2⟩ := h2
  have TT : Turn P w K tg J fp it tn := by
    have z : Turn γ.X.prog γ.X.w γ.X.K tg J fp it tn := T2
    rw [e1, e2, e3] at z; exact z
  refine sg_call fun p => ?_
  have hsz : ∀ {γ' : Rs}, RsOk P w K mg base k env γ' → (hcut γ'.s.heap env.locals).objs.size = env.locals := fun {γ'} hγ' => by
    rw [hcut_size]
    exact Nat.min_eq_left (Nat.le_of_lt hγ'.lt)
  have hst : ∀ b ∈ fp, env.locals ≤ b ∧ ∀ p ∈ ip, p.1 ≠ b := fun b hb => by
    obtain ⟨_, _, _, z4, _, z6⟩ := fp2 b hb
    refine ⟨?_, fun p hp => z6 p (List.mem_append_right _ hp)⟩
    rcases z4 with z | z
    · cases z
    · have z' : (hcut γ.s.heap env.locals).objs.size ≤ b := z
      rw [hsz hγ] at z'; exact z'
  have hgp := fun (kr : Result → Sem PySem.Fin) => gpos_loop (env := env) (kr := kr) (c' := .forLoop tg (.ref it) body [] env) (l := lv []) (kp := []) (p := p) hp rfl rfl
  -- a turn's iterator is the generator's own
  have own : ∀ {γ' : Rs} {H3 : Hp} {s3 : Shared}, RsOk P w K mg base k env γ' → (∀ a o, gmark env.locals γ'.pv γ'.H γ'.s.heap a = some o → H3 a = some o) → Gone γ'.s s3 → ∀ b ∈ fp, H3 b = none → (∃ o, s3.heap.get? b = some o) → b ∈ γ'.pv ∨ γ'.s.heap.objs.size ≤ b := fun {γ' H3 s3} hγ' hm hgo b hb hn ho => by
    by_cases hlt : b < γ'.s.heap.objs.size
    · by_cases hpv : b ∈ γ'.pv
      · exact .inl hpv
      · exfalso
        cases hq : γ'.s.heap.get? b with
        | none =>
          obtain ⟨o, ho⟩ := ho
          rw [hgo.none b hlt hq] at ho; cases ho
        | some o =>
          cases hH : γ'.H b with
          | some u => rw [hm b u (gmark_some hH)] at hn; cases hn
          | none => rw [hm b _ (gmark_ext hH (hst b hb).1 hpv hq)] at hn; cases hn
    · exact .inr (Nat.le_of_not_lt hlt)
  have loop : ∀ (l : List D) (i : Nat) (ρ : Ev) (ys : List D) (γ : Rs) (s : Shared) (σg : St) (H1 : Hp), l = ds.drop i → RsOk P w K mg base k env γ → Inv (gx N env γ.X γ.pv γ.H γ.s) ip σg H1 s → (∀ a o, gmark env.locals γ.pv γ.H γ.s.heap a = some o → H1 a = some o) → RepE K [] H1 σg ρ → Tx H2 H1 → ttE ρ →
      (∀ p ∈ ip, p.1 ∈ γ.pv ∨ γ.s.heap.objs.size ≤ p.1) → (∀ q ∈ ig, s.gens[q.1]? = some q.2 ∧ asleep q.2 = true) → Gone γ.s s → tn i s.heap → (∀ b ∈ fp, FpOk (gx N env γ.X γ.pv γ.H γ.s) ip H1 b) → gLoop T B l ρ ys ρ' →
      Sg (model P w) γ.X.A.in1 (Goal P w K mg base k env ga (ys ++ rest) γ) (.forLoop tg (.ref it) body [] env) ((model P w).den (.forLoop tg (.ref it) body [] env))
        (.ret (fun r => ((match r with | .ok f => (.pure f : Sem Flow) | .error e => .raise e).onRaise (cameBack env)).wrap kk jj gd lv) none (gd false) (lv []) c p [] :: fs) s := by
    intro l
    induction l with
    | nil =>
      intro i ρ ys γ s σg H1 hl hγ I G rE hfl2 tρ ips igs gone st ff hL
      obtain ⟨rfl, rfl⟩ := hL
      obtain ⟨e1, e2, e3, e4, e5⟩ := hγ.of
      have hle : ds.length ≤ i := by
        have := congrArg List.length hl
        rw [List.length_drop] at this
        simp at this
        omega
      refine sg_forLoop ?_
      rw [(hgp _).over]
      have key := wpAny_kept (Q := fun r s1 => r = none ∧ Inv (gx N env γ.X γ.pv γ.H γ.s) ip σg H1 s1) (fun G b s a l ⟨z1, z2⟩ => ⟨z1, inv_lk z2 l⟩) calm_no (TT.done (gx N env γ.X γ.pv γ.H γ.s) e1 e2 e3 rfl i ip (still s) σg H1 (fun _ _ => False) (inv_still I) ff st ((hJ2.tx hfl2 H1 (Tx.refl _)).1 i hle))
      refine wpAny_mono key (fun r s1 ⟨⟨hr, I1⟩, kp⟩ => ?_) fun _ _ z => z.1
      subst hr
      refine sg_again rfl ?_
      show Sg _ _ _ _ (leafOf (.ok .next)) _ _
      refine sg_leaf (.ok .next) ?_
      refine h γ s1 hγ ⟨⟨σg, H1, I1, G, rE, hfl.trans (fun a xs z => hfl2 a xs (hk2 a _ z))⟩, tρ, ips, fun q hq => ?_, gone.trans kp.gone⟩
      obtain ⟨z1, z2⟩ := igs q hq
      exact ⟨kp.gen _ _ z1 z2, z2⟩
    | cons d l ih =>
      intro i ρ ys γ s σg H1 hl hγ I G rE hfl2 tρ ips igs gone st ff hL
      obtain ⟨ρ1, y1, ρ2, y2, hT, t1, b1, b2, rfl⟩ := hL
      obtain ⟨e1, e2, e3, e4, e5⟩ := hγ.of
      have hd : ds[i]? = some d := by
        have := congrArg List.head? hl
        rw [List.head?_drop] at this
        exact this.symm
      have hl' : l = ds.drop (i + 1) := by
        have := congrArg List.tail hl
        rw [List.tail_drop] at this
        exact this
      obtain ⟨go, yl⟩ := (hJ2.tx hfl2 H1 (Tx.refl _)).2 i d hd
      refine sg_forLoop ?_
      rw [(hgp _).over, List.append_assoc]
      have key := wpAny_kept2 (fun r => ∃ u, r = some u) (u := fun r => match r with | some v => letOwnedTupleGo tg (.ref it) v | none => (.unsupported "" : Sem Unit))
        (Q := fun r _ s2 => ∃ u, r = some u ∧ ∃ x H'', Inv (gx N env γ.X γ.pv γ.H γ.s) ip σg H'' s2 ∧ RelV x u ∧ J.yld i H1 x H'' ∧ tn (i + 1) s2.heap ∧ ∀ b ∈ fp, H'' b = none)
        (fun r G b s a l ⟨u, z0, x, H'', z1, z2, z3, z4, z5⟩ => ⟨u, z0, x, H'', inv_lk z1 l, z2, z3, by rw [l.heap]; exact z4, z5⟩) calm_no
        (wpAny_mono (TT.item (gx N env γ.X γ.pv γ.H γ.s) e1 e2 e3 rfl i ip (still s) σg H1 (fun _ _ => False) (inv_still I) ff st go) (fun r s1 ⟨u, hr, hu⟩ => by
          subst hr
          exact ⟨⟨u, rfl⟩, wpAny_mono hu (fun _ s2 z => ⟨u, rfl, z⟩) fun _ _ z => z⟩) fun _ _ z => z)
      refine wpAny_mono key (fun r s1 ⟨⟨u, hr⟩, h1⟩ => ?_) fun _ _ z => z.1
      subst hr
      ·
        refine wpAny_mono h1 (fun _ s5 ⟨⟨u', hu', x, H5, I5, r5, y5, st5, fr5⟩, kp⟩ => ?_) fun _ _ z => z.1
        cases hu'
        obtain ⟨hk5, rd5⟩ := yl x H5 y5
        have ff5 : ∀ b ∈ fp, FpOk (gx N env γ.X γ.pv γ.H γ.s) ip H5 b := fun b hb => ⟨fr5 b hb, (ff b hb).2⟩
        have I5' := I5.pinned ff5 (TT.obj _ _ st5)
        have gone5 : Gone γ.s s5 := gone.trans kp.gone
        have G5 : ∀ a o, gmark env.locals γ.pv γ.H γ.s.heap a = some o → H5 a = some o := fun a o z => hk5 a o (G a o z)
        have ips5 : ∀ p ∈ ip ++ pinsAt fp s5.heap, p.1 ∈ γ.pv ∨ γ.s.heap.objs.size ≤ p.1 := fun p hp => by
          rcases List.mem_append.mp hp with hp | hp
          · exact ips p hp
          · obtain ⟨hb, he⟩ := of_pinsAt hp
            exact own hγ G5 gone5 p.1 hb (fr5 _ hb) ⟨_, he⟩
        refine gdg_run (Ht := H2) (ig := ig) hg hγ I5' G5 (rE.tx tρ fun a xs z => hk5 a _ z) (hfl2.trans fun a xs z => hk5 a _ z) (fun q hq => ?_) gone5 ips5 r5 rd5 hT t1 fun s6 hr6 => ?_
        · obtain ⟨z1, z2⟩ := igs q hq
          exact ⟨kp.gen _ _ z1 z2, z2⟩
        intro kk2 jj2 hkk
        refine hb γ (ip ++ pinsAt fp s5.heap) ig ρ1 y1 ρ2 H2 (y2 ++ rest) _ _ kk2 jj2 id id s6 hγ ⟨List.mem_append_left _ hga.1, hga.2⟩ (hgp _) hr6 b1 fun γ' s7 hγ' hr7 => ?_
        rw [hkk]
        refine sg_again rfl ?_
        obtain ⟨σ7, H7, I7, G7, rE7, hfl7⟩ := hr7.ex
        have pin7 : ∀ b ∈ fp, ∀ o, s5.heap.get? b = some o → s7.heap.get? b = some o ∧ H7 b = none ∧ b ≠ env.locals ∧ b ∉ frs γ'.X.stack := fun b hb o e => by
          obtain ⟨z1, z2, z3, z4, _⟩ := I7.pin (b, o) (List.mem_append_right _ (List.mem_append_right _ (mem_pinsAt hb e)))
          exact ⟨z1, z2, z3, z4⟩
        refine ih (i + 1) ρ2 y2 γ' s7 σ7 H7 hl' hγ' I7.unpinned G7 rE7 hfl7 hr7.tt (fun p hp => hr7.ips p (List.mem_append_left _ hp)) hr7.igs hr7.gone (TT.keep _ _ _ st5 fun b hb o e => (pin7 b hb o e).1) (fun b hb => ?_) b2
        obtain ⟨o, e, _⟩ := TT.obj _ _ st5 b hb
        obtain ⟨_, z2, z3, z4⟩ := pin7 b hb o e
        refine ⟨z2, z3, z4, .inr ?_, fun x d e => ?_, fun q hq => ?_⟩
        · show (hcut γ'.s.heap env.locals).objs.size ≤ b
          rw [hsz hγ']; exact (hst b hb).1
        · have z := (ff b hb).2.2.2.2.1 x d e
          exact z
        · rcases List.mem_append.mp hq with z | z
          · cases z
          · exact (hst b hb).2 q z
  exact loop ds 0 ρ ys γ s2 σg H2 rfl hγ I2 (fun a o z => hk2 a o (G a o z)) (rE.tx hr.tt fun a xs z => hk2 a _ z) (Tx.refl _) hr.tt hr.ips (fun q hq => ⟨kp2.gen _ _ (hr.igs q hq).1 (hr.igs q hq).2, (hr.igs q hq).2⟩) (hr.gone.trans kp2.gone) st2 fp2 hL
theorem gs_forJ {tg iter : Expr} {body : List Stmt} {f : GSrc} {T : Tg} {B : GM} {pos : Pos} (hi : GDJ P w K mg base k N env tg iter f) (hg : GDG P w K mg base k N env tg T) (hb : GSs P w K mg base k N env ga body B)
    (hs : ∀ x, foldedSetIterable iter env x = pure x := by intro _; rfl) : GS P w K mg base k N env ga (.For tg iter body [] pos) (gForJ f T B) := by
  intro γ ip ig ρ ys ρ' Ht rest c fs kk jj gd lv s hγ hga hp hr hB h
  obtain ⟨ds, hf, hL⟩ := hB
  obtain ⟨σg, H', I, G, rE, hfl⟩ := hr.ex
  exact gs_forP (Pm := fun σ H => RepE K [] H σ ρ) (ds := ds) (fun X pv H s of room => PI.imp (hi X pv H s of room) fun σ H Rr ⟨rE, q⟩ => ⟨ρ, ds, rE, hf, q⟩) hg hb hs γ ip ig ρ ys ρ' Ht rest c fs kk jj gd lv s hγ hga hp ⟨⟨σg, H', I, G, rE, hfl, rE⟩, hr.tt, hr.ips, hr.igs, hr.gone⟩ hL h
end
end DL
namespace DL
open PySem L2
open PyProof.Rows hiding St
open Sem (wp)
/-- how a generator goes on from here -/
def SgOf (M : Model) (A : Around) (Φ : End → Shared → Prop) (st : GenState) (s : Shared) : Prop := match st with
  | .fresh c => Sg M A Φ c (M.den c) [] s
  | .suspended kk _ c _ fs _ => Sg M A Φ c (kk (.send .none)) fs s
  | _ => False
theorem wpAny_resumeS {M : Model} {A : Around} {Φ : End → Shared → Prop} {g : Nat} {st : GenState} {l : List Value} {α : Type} {kr : GenResult → Sem α} {Q : α → Shared → Prop} {E : Value → Shared → Prop} {s : Shared} (hg : s.gens[g]? = some st) (hgo : SgOf M A Φ st (s.setGen g .running))
    (hΦ : ∀ e s1, Φ e s1 → s.gens.size ≤ s1.gens.size → e.quiet = true ∧ wpAny M A (kr e.result) Q E (s1.setGen g e.genState)) : wpAny M A (.resume g (.send .none) l kr) Q E s := by
  intro Γ p hΓ
  rw [Sem.wp_resume]
  have fin : ∀ c p0 t fs, Sg M A Φ c t fs (s.setGen g .running) → ∃ e s1, Runs M (Γ.wake c p) p0 t fs (s.setGen g .running) e s1 ∧ e.quiet = true ∧ wp M Γ (kr e.result) (fun a _ z => Q a z) (fun a _ z => E a z) p (s1.setGen g e.genState) := by
    intro c p0 t fs h
    obtain ⟨e, s1, r, z⟩ := h (Γ.wake c p) p0 rfl (hΓ.wake c p)
    have hz := GenW.runs_gsz r
    rw [GenW.setGen_size] at hz
    obtain ⟨z1, z2⟩ := hΦ e s1 z hz
    exact ⟨e, s1, r, z1, z2 Γ p hΓ⟩
  cases st with
  | fresh c =>
    obtain ⟨e, s1, r, z1, z2⟩ := fin c p _ _ hgo
    exact ⟨_, _, by unfold Wakes; rw [hg]; exact ⟨e, s1, r, z1, rfl, rfl⟩, z2⟩
  | suspended kk l0 c p0 fs cl =>
    obtain ⟨e, s1, r, z1, z2⟩ := fin c p0 _ _ hgo
    exact ⟨_, _, by unfold Wakes; rw [hg]; exact ⟨e, s1, r, z1, rfl, rfl⟩, z2⟩
  | running => exact hgo.elim
  | finished => exact hgo.elim
section
variable (P : Program) (w : World) (K : PySem.W.Frag) (mg : Str → Option Value) (base : Heap) (k : Nat) (env : Env) (ga : (Addr × Obj) × Nat)
/-- asleep: xs will come -/
structure Slp (xs : List D) (st : GenState) (pvp : List (Addr × Obj)) (gs : List (Nat × GenState)) (pl : Option (Addr × HO)) (H : Hp) : Prop where
  bare : st.bare = true
  mem : ga.1 ∈ pvp
  ne : ∀ q ∈ gs, q.1 ≠ ga.2
  loc : env.locals ∈ pvp.map (·.1)
  go : ∀ γ : Rs, RsOk P w K mg base k env γ → Tx H γ.H → (∀ a u, pl = some (a, u) → γ.H a = some u) → γ.pv = pvp.map (·.1) → (∀ p ∈ pvp, γ.s.heap.get? p.1 = some p.2) → (∀ q ∈ gs, γ.s.gens[q.1]? = some q.2) →
    SgOf (model P w) γ.X.A.in1 (Goal P w K mg base k env ga xs γ) st γ.s
/-- the generator, seen by a consumer: it stands in the state -/
structure GAt (X : Cx) (pins : List (Addr × Obj)) (xs : List D) (st : GenState) (pvp : List (Addr × Obj)) (gs : List (Nat × GenState)) (H : Hp) (s : Shared) : Prop where
  slp : ∃ H0 pl, Tx H0 H ∧ (∀ a u, pl = some (a, u) → H a = some u) ∧ (pl = none ∨ ∃ c, st = .fresh c) ∧ Slp P w K mg base k env ga xs st pvp gs pl H0
  own : s.gens[ga.2]? = some st
  obj : ∀ p ∈ pvp, s.heap.get? p.1 = some p.2 ∧ (∀ v, p.2.data ≠ .cell v) ∧ FpOk X pins H p.1
  gen : ∀ q ∈ gs, s.gens[q.1]? = some q.2 ∧ asleep q.2 = true
end
section
variable {P : Program} {w : World} {K : PySem.W.Frag} {mg : Str → Option Value} {base : Heap} {k : Nat} {env : Env} {ga : (Addr × Obj) × Nat}
theorem allBare_set {s : Shared} {g : Nat} {x : GenState} (h : AllBare s.gens) (hx : x.bare = true) : AllBare (s.setGen g x).gens := L2.allBare_setGen h hx
theorem inv_gens {X : Cx} {pins : List (Addr × Obj)} {σ : St} {H : Hp} {s : Shared} {g : Nat} {x : GenState} (I : Inv X pins σ H s) (hx : x.bare = true) : Inv X pins σ H (s.setGen g x) :=
  ⟨I.ok, I.os, allBare_set I.bare hx, I.base, I.loc, I.cell, I.free, I.freeC, I.pin, I.hok, I.len⟩
theorem quiet_bare {e : End} (h : e.quiet = true) : e.genState.bare = true := End.bare_of_quiet h
def isGenO (ga : (Addr × Obj) × Nat) : Prop := ∃ nm qn, ga.1.2.cls = .type "generator" ∧ ga.1.2.data = .fields #[.int ga.2 0, nm, qn] ∧ ga.1.2.slots = #[]
theorem isGen_of {h : Heap} (z : isGenO ga) (e : h.get? ga.1.1 = some ga.1.2) : h.IsGen ga.1.1 ga.2 := by
  obtain ⟨nm, qn, h1, h2, h3⟩ := z
  exact ⟨_, nm, qn, e, h1, h2, h3⟩
/-- next(g) -/
theorem gnext {X : Cx} {pins : List (Addr × Obj)} {σ : St} {H : Hp} {s : Shared} {xs : List D} {st : GenState} {pvp : List (Addr × Obj)} {gs : List (Nat × GenState)} (zo : isGenO ga) (of : OfP P w K mg base X) (room : Room (k + 2) X.A) (cons : Cons env.locals X) (I : Inv X pins σ H s) (G : GAt P w K mg base k env ga X pins xs st pvp gs H s) :
    wpAny (model P w) X.A (pyNext (.ref ga.1.1)) (fun r s2 => (xs = [] ∧ r = none ∧ ∃ H2, Inv X pins σ H2 s2 ∧ ∀ a o, H a = some o → H2 a = some o) ∨
      ∃ x xs' u vv H2 st2 pvp2 gs2, xs = x :: xs' ∧ r = some u ∧ RelV vv u ∧ Inv X pins σ H2 s2 ∧ (∀ a o, H a = some o → H2 a = some o) ∧ tt x = true ∧ RepV K [] H2 x vv ∧ asleep st2 = true ∧ (∀ c, st2 ≠ .fresh c) ∧ GAt P w K mg base k env ga X pins xs' st2 pvp2 gs2 H2 s2) (fun _ _ => False) s := by
  obtain ⟨⟨H0, pl, tx0, hpl, _, sl⟩, own, obj, gen⟩ := G
  have hgo := isGen_of zo (obj ga.1 sl.mem).1
  have hlt : env.locals < s.heap.objs.size := by
    obtain ⟨p, hp, e⟩ := List.mem_map.mp sl.loc
    rw [← e]
    exact Heap.lt_size (obj p hp).1
  let γ : Rs := ⟨X, pins, σ, H, s.setGen ga.2 .running, pvp.map (·.1)⟩
  have hγ : RsOk P w K mg base k env γ := ⟨of, room, cons, inv_gens I rfl, fun b hb => by
    obtain ⟨p, hp, rfl⟩ := List.mem_map.mp hb
    exact (obj p hp).2.2, sl.loc, hlt⟩
  have run := sl.go γ hγ tx0 hpl rfl (fun p hp => (obj p hp).1) fun q hq => by
    show (s.gens.setIfInBounds ga.2 .running)[q.1]? = _
    rw [Array.getElem?_setIfInBounds_ne (Ne.symm (sl.ne q hq))]
    exact (gen q hq).1
  have hh : X.A.handled = none := room.hd
  have hd : X.A.depth < recursionLimit := room.depth
  have gsz : ga.2 < s.gens.size := (Array.getElem?_eq_some_iff.mp own).1
  unfold pyNext
  refine wpAny_bind (wpAny_attempt (wpAny_callSpecial?_slot (name := Str.ofString "__next__") hgo.typeIs slot_gen_next (wpAny_call_entry slot_gen_next hgo.typeIs entry_gen_next ?_ (args_gen_next _))))
  show wpAny _ X.A.in1 (Builtin.Generator.genWake (.ref ga.1.1) (.send .none)) _ _ s
  unfold Builtin.Generator.genWake
  refine wpAny_bind (wpAny_holding (wpAny_genNumber hgo (wpAny_bind (wpAny_genState own ?_))))
  cases st with
  | running => exact run.elim
  | finished => exact run.elim
  | _ =>
    refine wpAny_bind (wpAny_roomToWake I.nolimit hd ?_)
    show wpAny _ X.A.in1 (.resume ga.2 (.send .none) [] _) _ _ s
    refine wpAny_resumeS own run fun e s1 hΦ hsz => ?_
    cases xs with
    | nil =>
      cases e with
      | susp v gd l kk c p fs => exact hΦ.elim
      | ret r =>
        obtain ⟨rfl, H2, I2, sub⟩ := hΦ
        refine ⟨rfl, ?_⟩
        have I3 : Inv X pins σ H2 (s1.setGen ga.2 .finished) := inv_gens I2 rfl
        show wpAny _ X.A.in1 (newExc (.type "StopIteration") [] >>= fun _ => _) _ _ (s1.setGen ga.2 .finished)
        refine wpAny_bind ?_
        simp only [newExc, newTuple]
        refine wpAny_bind (wpAny_newObj_type (hd := by size_fits) ?_)
        refine wpAny_bind (m := firstArgMember _ _) (wpAny_of_eq (a := Value.none) (by first | (simp only [firstArgMember]; rfl) | rfl) ?_)
        refine wpAny_newObj_type (hd := by size_fits) ?_
        simp only [raiseNew]
        refine wpAny_bind (wpAny_bind (wpAny_handled ?_))
        rw [show X.A.in1.handled = none from hh]
        refine wpAny_throw ?_
        refine wpAny_bind (wpAny_isInstance (b := true) (T := "StopIteration") ⟨_, Heap.get?_push_size _ rfl, rfl⟩ isSubtype_stop ?_)
        refine wpAny_pure (.inl ⟨by trivial, by trivial, H2, ?_, sub⟩)
        exact I3.kept fun b o z => Heap.get?_push_of_some _ (Heap.get?_push_of_some _ z)
    | cons x xs =>
      cases e with
      | ret r => exact hΦ.elim
      | susp v gd l kk c p fs =>
        obtain ⟨hq, tx, vv, H2, pvp2, gs2, rv, I2, sub, rd, pk, ⟨hm, hne⟩, cont⟩ := hΦ
        refine ⟨hq, wpAny_pure ⟨v, rfl, wpAny_pure (.inr ⟨x, xs, v, vv, H2, (End.susp v gd l kk c p fs).genState, pvp2, gs2, rfl, rfl, rv, inv_gens I2 (quiet_bare hq), sub, tx, rd, ?_, (fun c z => by cases z), ?_⟩)⟩⟩
        · rfl
        · refine ⟨⟨H2, none, Tx.refl _, (fun _ _ z => by cases z), .inl rfl, ⟨quiet_bare hq, hm, hne, pk.loc, fun γ' h1 h2 _ h3 h4 h5 => cont γ' h1 h2 h3 h4 h5⟩⟩, ?_, pk.obj, fun q hq => ?_⟩
          · exact L2.setGen_at (Nat.lt_of_lt_of_le gsz hsz)
          · show (s1.gens.setIfInBounds ga.2 _)[q.1]? = _ ∧ _
            rw [Array.getElem?_setIfInBounds_ne (Ne.symm (hne q hq))]
            exact pk.gen q hq
theorem GAt.mem {X : Cx} {pins : List (Addr × Obj)} {xs : List D} {st : GenState} {pvp : List (Addr × Obj)} {gs : List (Nat × GenState)} {H : Hp} {s : Shared} (G : GAt P w K mg base k env ga X pins xs st pvp gs H s) : ga.1 ∈ pvp := let ⟨_, _, _, _, _, sl⟩ := G.slp; sl.mem
end
end DL
namespace DL
open PySem L2
open PyProof.Rows hiding St
open Sem (wp)
/-- what a call of a generator def gives -/
def GMk (P : Program) (w : World) (K : PySem.W.Frag) (mg : Str → Option Value) (base : Heap) (k : Nat) (X : Cx) (pins : List (Addr × Obj)) (σ : St) (H : Hp) (xs : List D) (u : Value) (s' : Shared) : Prop :=
  ∃ env ga c pvp, u = .ref ga.1.1 ∧ isGenO ga ∧ Inv X pins σ H s' ∧ Cons env.locals X ∧ GAt P w K mg base k env ga X pins xs (.fresh c) pvp [] H s'
/-- the generator def at f hands out what G says -/
def GnD (P : Program) (w : World) (K : PySem.W.Frag) (mg : Str → Option Value) (base : Heap) (k : Nat) (f : Addr) (G : List D → Option (List D)) : Prop :=
  ∀ (X : Cx) (pins : List (Addr × Obj)) (s : Shared) (σ : St) (H : Hp) (us : List Value) (vs : List V) (ds xs : List D), OfP P w K mg base X → Room (k + 2) X.A → X.calm = true → Inv X pins σ H s → Vals vs us → RepL K [] H ds vs → ttL ds = true → G ds = some xs →
    wpAny (model P w) X.A (call (.ref f) us) (GMk P w K mg base k X pins σ H xs) (fun _ _ => False) s
theorem cellsFrom_no : ∀ (names : List (Str × NameKind)) (n : Nat) (acc : List (Str × Addr)), (∀ y ∈ names, y.2 ≠ .cell) → cellsFrom n names acc = acc
  | [], _, _, _ => rfl
  | (x, kd) :: r, n, acc, h => by
    have h1 := h (x, kd) List.mem_cons_self
    have h2 : (kd == NameKind.cell) = false := by
      cases kd <;> first | rfl | exact absurd rfl h1
    unfold cellsFrom
    rw [h2]
    exact cellsFrom_no r n acc fun y hy => h y (List.mem_cons_of_mem _ hy)
theorem genv_of {N : List Str} {qual : Str} {sc : Scope} {L f : Addr} {cdv : Value} (hk : sc.kind = .function) (hn : ∀ y ∈ sc.names, y.2 ≠ .cell ∧ y.2 ≠ .free) : GEnv N (envOfC qual sc L f cdv) where
  kind := hk
  glob := rfl
  blt := rfl
  cells := fun x => by
    show (cellsFrom (L + 1) sc.names []).lookup x = none
    rw [cellsFrom_no _ _ _ fun y hy => (hn y hy).1]; rfl
  nocell := fun x => ⟨fun e => (hn _ (PySem.mem_of_lookup (show sc.names.lookup x = some .cell from e))).1 rfl, fun e => (hn _ (PySem.mem_of_lookup (show sc.names.lookup x = some .free from e))).2 rfl⟩
  frame := rfl
theorem startD_tt {n : Nat} {ds : List D} (h : ttL ds = true) : ttE (startD n ds) := by
  have get : ∀ (l : List D), ttL l = true → ∀ (i : Nat) d, l[i]? = some d → tt d = true := by
    intro l
    induction l with
    | nil => intro _ i d e; simp at e
    | cons x l ih =>
      intro h i d e
      rw [ttL, Bool.and_eq_true] at h
      cases i with
      | zero => simp at e; subst e; exact h.1
      | succ i => exact ih h.2 i d (by simpa using e)
  intro i d e
  unfold startD at e
  by_cases hi : i < ds.length
  · rw [List.getElem?_append_left (by simpa using hi), List.getElem?_map] at e
    cases q : ds[i]? with
    | none => rw [q] at e; cases e
    | some x => rw [q] at e; cases e; exact get ds h i _ q
  · rw [List.getElem?_append_right (by simpa using hi), List.getElem?_replicate] at e
    split at e <;> cases e
/-- the frame's code -/
theorem sg_func {P : Program} {w : World} {A : Around} {Φ : End → Shared → Prop} {body : List Stmt} {env : Env} {s : Shared}
    (h : ∀ kk jj, kk .next = .pure (.done (.ret .none)) → Sg (model P w) A Φ (.func body env) ((execs body env).wrap kk jj id id) [] s) : Sg (model P w) A Φ (.func body env) ((model P w).den (.func body env)) [] s := by
  show Sg _ A Φ _ (.point [] fun _ => ((execs body env).onRaise (leaving env)) >>= _) [] s
  refine sg_wrap (m := point) (k := fun _ => ((execs body env).onRaise (leaving env)) >>= _) (j := .raise) (gd := id) (lv := fun _ => []) (wpAny_point ?_)
  rw [Sem.onRaise_eq_wrap, Sem.bind_eq_wrap', Sem.wrap_wrap]
  exact h _ _ rfl
section
variable {P : Program} {w : World} {K : PySem.W.Frag} {mg : Str → Option Value} {base : Heap} {k : Nat} {f : Addr} {fd : FuncData} {N ps : List Str}
theorem gnD_of {x qual : Str} {st : Stmt} {B : GM} {G : List D → Option (List D)} (F : Fun K x qual st f fd) (sc : GScope N ps (defScope st)) (hn : ∀ y ∈ (defScope st).names, y.2 ≠ .cell ∧ y.2 ≠ .free) (hb : Binds K fd ps [])
    (hG : ∀ ds xs, G ds = some xs → ds.length = ps.length ∧ ∃ ρ', B (startD N.length ds) xs ρ')
    (hbody : ∀ (cdv : Value) (L : Addr) (ga : (Addr × Obj) × Nat), GSs P w K mg base k N (envOfC qual (defScope st) L f cdv) ga (defBody st) B) : GnD P w K mg base k f G := by
  intro X pins s σ H us vs ds xs of room calm I rv rl tds hxs
  obtain ⟨hlen, ρ', hB⟩ := hG ds xs hxs
  obtain ⟨oc, od, kV, doc, pm, an, cdv, ct, osl, efd, lk, hcd⟩ := F.ex
  have hof := of
  obtain ⟨e1, e2, e3, e4, e5⟩ := of
  have e0 := I.env0
  rw [e1, e2, e3, e4, e5] at e0
  have hl : vs.length = ps.length := by rw [← RepL.length _ _ rl]; exact hlen
  have hlu : us.length = ps.length := by rw [← rv.length]; exact hl
  have KX : K.In s.heap := e0.mod.kin.keeps fun b o e => (e0.bs b o e).1
  have bd := hb s us KX (by rw [List.append_nil]; exact hlu)
  rw [List.append_nil, efd] at bd
  rw [efd] at lk
  have hkind : ∀ y ∈ ps.zip us, (defScope st).names.lookup y.1 = some .local ∨ ((defScope st).names.lookup y.1 = some .cell ∧ ((cellsFrom (s.heap.objs.size + 1) (defScope st).names []).lookup y.1).isSome = true) := by
    rintro ⟨n, v⟩ hy
    exact (sc.par n (List.of_mem_zip hy).1).imp id fun q => ⟨q, PySem.W.cellsFrom_some _ _ _ (.inl q)⟩
  refine wpAny_call ?_
  refine codeAny_call_generator room.depth (KX _ _ lk) rfl sc.co sc.gen rfl (PySem.W.codeRec_of KX hcd) (bd _ _ _ _ ?_)
  refine wpAny_newFunctionEnv_cells sc.kind hkind fun env he s1 ic => ?_
  subst he
  have lim : s1.heap.NoLimit := (e0.mod.nolimit.keeps fun b o e => (e0.bs b o e).1).keeps ic.toInCall.keep
  refine ⟨lim, ?_⟩
  have I1 : Inv (gcxOf P w K mg base N qual (defScope st) f cdv X.A X.stack s H (fun _ _ _ => False) []) [] (start N vs) H s1 := inv_startG sc room.hd e0 hl rv ic
  obtain ⟨h1, tk, es1, hk1⟩ := ic.done
  have ge : GEnv N (envOfC qual (defScope st) s.heap.objs.size f cdv) := genv_of sc.kind hn
  have kp1 : ∀ b o, s.heap.get? b = some o → s1.heap.get? b = some o := ic.toInCall.keep
  have lt1 : s.heap.objs.size < s1.heap.objs.size := ic.toInCall.ns.lt
  obtain ⟨m, ⟨lo, des, dep, hlo, hld, hlk, hlm⟩, hloc⟩ := I1.loc
  have slots : Slots N (envOfC qual (defScope st) s.heap.objs.size f cdv) lo (start N vs) := by
    refine ⟨(fun v (z : lo.data = .cell v) => by rw [hld] at z; cases z), I1.len, m, fun h e => ⟨lo, des, dep, e, hld, hlk, hlm⟩, fun i y v q1 q2 q3 => ?_⟩
    obtain ⟨u, r, l⟩ := hloc i y v q1 q2 q3
    refine ⟨u, r, ?_⟩
    rcases l with l | ⟨z, _⟩
    · exact l
    · exact absurd z (fun z => z.elim (ge.nocell y).1 (ge.nocell y).2)
  have main : ∀ (go : Obj) (nm qn : Value) (tk2 : Nat), go.cls = .type "generator" → go.data = .fields #[.int s1.gens.size 0, nm, qn] → go.slots = #[] → (∀ h : Heap, (h.push go).get? h.objs.size = some go) →
      GMk P w K mg base k X pins σ H xs (.ref s1.heap.objs.size) { s1 with gens := s1.gens.push (.fresh (.func (defBody st) (envOfC qual (defScope st) s.heap.objs.size f cdv))), toks := tk2, heap := s1.heap.push go } := by
    intro go nm qn tk2 hc hdt hsl hpu
    have kp2 : ∀ b o, s.heap.get? b = some o → (s1.heap.push go).get? b = some o := fun b o e => Heap.get?_push_of_some _ (kp1 b o e)
    have os1 : s1.os = s.os := by rw [es1]
    have gn1 : s1.gens = s.gens := by rw [es1]
    have hbr : AllBare (s1.gens.push (.fresh (.func (defBody st) (envOfC qual (defScope st) s.heap.objs.size f cdv)))) := AllBare.push (by rw [gn1]; exact I.bare) rfl
    have I2 : Inv X pins σ H { s1 with gens := s1.gens.push (.fresh (.func (defBody st) (envOfC qual (defScope st) s.heap.objs.size f cdv))), toks := tk2, heap := s1.heap.push go } :=
      I.call' (ch := []) os1 (Un.kept kp2) (I.hok.kept kp2) hbr fun b z => by simp at z
    have cns : Cons s.heap.objs.size X := ⟨calm, fun b hb => by
      obtain ⟨_, o, ho, _⟩ := I.stack.mem hb
      exact Heap.lt_size ho, Nat.le_trans I.ok.bsz I.sz⟩
    have fpL : FpOk X pins H s.heap.objs.size := I.fpOk (Nat.le_refl _) (I.hok.fresh (Nat.le_refl _))
    have fpG : FpOk X pins H s1.heap.objs.size := I.fpOk (Nat.le_of_lt lt1) (I.hok.fresh (Nat.le_of_lt lt1))
    have hneL : s1.heap.objs.size ≠ s.heap.objs.size := Nat.ne_of_gt lt1
    refine ⟨envOfC qual (defScope st) s.heap.objs.size f cdv, ((s1.heap.objs.size, go), s1.gens.size), .func (defBody st) (envOfC qual (defScope st) s.heap.objs.size f cdv), [(s.heap.objs.size, lo), (s1.heap.objs.size, go)], rfl, ⟨nm, qn, hc, hdt, hsl⟩, I2, cns, ⟨H, none, Tx.refl _, (fun _ _ z => by cases z), .inl rfl, ⟨rfl, by simp, fun q hq => (by simp at hq), by simp [envOfC], fun γ hγ tx _ hpv hobj _ => ?_⟩⟩, ?_, fun p hp => ?_, fun q hq => (by simp at hq)⟩
    · show Sg _ _ _ _ _ _ _
      refine sg_func fun kk jj hkk => ?_
      have pos : GPos (envOfC qual (defScope st) s.heap.objs.size f cdv) (.func (defBody st) (envOfC qual (defScope st) s.heap.objs.size f cdv)) [] id := ⟨fun A => GenW.over_func, rfl, rfl, rfl⟩
      have hpvG : s1.heap.objs.size ∈ γ.pv := by rw [hpv]; simp
      have fpL' := hγ.pv _ hγ.loc
      have wk := gwake (ip := [(s1.heap.objs.size, go)]) ge hγ.cons hγ.inv (hobj (s.heap.objs.size, lo) (by simp)) slots fpL' hγ.loc (fun p hp => by
        rw [List.mem_singleton.mp hp]
        exact ⟨hobj (s1.heap.objs.size, go) (by simp), (fun v (z : go.data = .cell v) => by rw [hdt] at z; cases z), hγ.pv _ hpvG, hpvG, hneL⟩)
      have rE : RepE K [] (gmark s.heap.objs.size γ.pv γ.H γ.s.heap) (start N vs) (startD N.length ds) :=
        start_rep N (tt_moveL (ι := []) (ι' := []) (fun a ys _ z => ⟨by simp, gmark_some (tx a ys z)⟩) ds vs tds rl)
      have key := hbody cdv s.heap.objs.size ((s1.heap.objs.size, go), s1.gens.size) γ [(s1.heap.objs.size, go)] [] (startD N.length ds) xs ρ' H [] _ [] kk jj id id γ.s hγ ⟨by simp, fun q hq => (by simp at hq)⟩ pos
        ⟨⟨start N vs, _, wk, fun _ _ z => z, rE, fun a ys z => gmark_some (tx a ys z)⟩, startD_tt tds, fun p hp => .inl (by rw [List.mem_singleton.mp hp]; exact hpvG), fun q hq => (by simp at hq), Gone.refl _⟩ hB fun γ' s' hγ' hr' => ?_
      · rw [List.append_nil] at key; exact key
      · rw [hkk]
        obtain ⟨σ', H', I', G', _, _⟩ := hr'.ex
        obtain ⟨z1, z2, _⟩ := gkeeps hγ'.inv hγ'.pv I' G' hγ'.cons.fr
        exact sg_end (.ok (.ret .none)) ⟨rfl, _, z1, z2⟩
    · exact Array.getElem?_push_size ..
    · rcases List.mem_cons.mp hp with rfl | hp
      · exact ⟨Heap.get?_push_of_some _ hlo, slots.1, fpL⟩
      · rw [List.mem_singleton.mp hp]
        exact ⟨hpu _, (fun v (z : go.data = .cell v) => by rw [hdt] at z; cases z), fpG⟩
  exact main _ _ _ _ rfl rfl rfl fun h => Heap.get?_push_size _ rfl
end
end DL
namespace DL
open PySem L2
open PyProof.Rows hiding St
open Sem (wp)
/-- an expression whose value is a generator that has not begun -/
def PGx (X : Cx) (W : WX) (k : Nat) (e : Expr) (f : Ev → Sto → R (List D)) : Prop := ∀ (pins : List (Addr × Obj)) (s : Shared) (σ : St) (H : Hp) (ι : List Addr) (ρ : Ev) (S : Sto) (Q : List D → Sto → List Addr → Hp → Prop), Inv X pins σ H s → RepE X.K ι H σ ρ → Sim X.K ι H S → Post X.K W σ ι H (f ρ S) Q →
  wpAny (model X.prog X.w) X.A (eval e X.env) (fun u s' => ∃ H1 ι1 S1 xs, Grow ι H ι1 H1 ∧ Sim X.K ι1 H1 S1 ∧ Q xs S1 ι1 H1 ∧ GMk X.prog X.w X.K X.mg X.base k X pins σ H1 xs u s') X.xe s
open Classical in
noncomputable def eGen (G : List D → Option (List D)) (g : Ev → Sto → R (List D)) : Ev → Sto → R (List D) := fun ρ S => (g ρ S).bind fun ds S1 => if ttL ds = true then (match G ds with
  | some xs => .ok xs S1
  | none => .stuck) else .stuck
section
variable {X : Cx} {W : WX} {k : Nat}
theorem pgx_call {x : Str} {f : Addr} {p pos : Pos} {e : Expr} {es : List Expr} {G : List D → Option (List D)} {g : Ev → Sto → R (List D)} (hF : GnD X.prog X.w X.K X.mg X.base k f G) (hr : Room (k + 2) X.A) (hc : X.calm = true) (hm : X.mg x = some (.ref f)) (hk : PySem.W.keepIn X.K (.ref f) = true) (ha : DA X W (e :: es) g) (hg : Gl X x := by rfl) (hdb : (x == ("__debug__" : Str)) = false := by decide)
    (he : starEach (e :: es) X.env = (false, eval e X.env) :: starEach es X.env := by rfl) (hpl : (backTo pos (starEach es X.env)).any (·.1) = false := by rfl) : PGx X W k (.Call (.Name x p) (e :: es) [] pos) (eGen G g) := by
  intro pins s σ H ι ρ S Q I hE hS h
  refine wpAny_Call_Name_kw (ld_glob I hg hm ?_ hdb)
  have rd : rdA X.K W g σ H fun vs H1 => ∃ ι1 S1 ds xs, Grow ι H ι1 H1 ∧ Sim X.K ι1 H1 S1 ∧ RepL X.K ι1 H1 ds vs ∧ ttL ds = true ∧ G ds = some xs ∧ Q xs S1 ι1 H1 := ⟨ι, ρ, S, hE, hS, by
    refine (Post.bind h).mono fun ds S1 ι1 H1 G1 s1 h1 vs rs => ?_
    split at h1
    · rename_i tds
      cases hx : G ds with
      | none => rw [hx] at h1; exact h1.elim
      | some xs => rw [hx] at h1; exact ⟨ι1, S1, ds, xs, G1, s1, rs, tds, hx, h1.here s1⟩
    · exact h1.elim⟩
  refine PySem.W.callWith_K (h₀ := X.base) I.ok.mod.kin hk (thn (ha.run pos pins s σ H _ I rd) fun us s1 ⟨vs, H1, I1, r1, ι1, S1, ds, xs, G1, s1', rs, tds, hx, hq⟩ => ⟨I1.kIn, ?_⟩) he hpl
  exact wpAny_mono (hF X pins s1 σ H1 us vs ds xs ⟨rfl, rfl, rfl, rfl, rfl⟩ hr hc I1 r1 (tt_outL tds rs) tds hx) (fun u s2 z => ⟨H1, ι1, S1, xs, G1, s1', hq, z⟩) fun _ _ z => z.elim
noncomputable def sForG (f : Ev → Sto → R (List D)) (T : Tg) (B Z : Ev → Sto → SR) : Ev → Sto → SR := fun ρ S => (f ρ S).toS ρ fun xs S1 => forD yes T B Z xs ρ S1
theorem tx_of {K : PySem.W.Frag} {ι ι' : List Addr} {H H' : Hp} {S : Sto} (s : Sim K ι H S) (g : Grow ι H ι' H') : Tx H H' := fun a xs e => g.keep a _ e (s.noTup e)
theorem gat_step {P : Program} {w : World} {K : PySem.W.Frag} {mg : Str → Option Value} {base : Heap} {env : Env} {ga : (Addr × Obj) × Nat} {pins : List (Addr × Obj)} {xs : List D} {st : GenState} {pvp : List (Addr × Obj)} {gs : List (Nat × GenState)} {σ' : St} {H H' : Hp} {s s' : Shared}
    (G : GAt P w K mg base k env ga X pins xs st pvp gs H s) (ha : asleep st = true) (nf : ∀ c, st ≠ .fresh c) (I : Inv X (pins ++ pvp) σ' H' s') (kp : Kept s s') (t : Tx H H') : GAt P w K mg base k env ga X pins xs st pvp gs H' s' := by
  obtain ⟨⟨H0, pl, t0, hp, hf, sl⟩, own, obj, gen⟩ := G
  obtain rfl : pl = none := hf.elim id fun ⟨c, z⟩ => absurd z (nf c)
  refine ⟨⟨H0, none, t0.trans t, (fun _ _ z => by cases z), .inl rfl, sl⟩, kp.gen _ _ own ha, fun p hp => ?_, fun q hq => ⟨kp.gen _ _ (gen q hq).1 (gen q hq).2, (gen q hq).2⟩⟩
  obtain ⟨z1, z2, _, _, _⟩ := I.pin p (List.mem_append_right _ (List.mem_append_right _ hp))
  obtain ⟨_, o2, o3⟩ := obj p hp
  exact ⟨z1, o2, z2, o3.2⟩
theorem gat_pin {P : Program} {w : World} {K : PySem.W.Frag} {mg : Str → Option Value} {base : Heap} {env : Env} {ga : (Addr × Obj) × Nat} {pins : List (Addr × Obj)} {xs : List D} {st : GenState} {pvp : List (Addr × Obj)} {gs : List (Nat × GenState)} {σ : St} {H : Hp} {s : Shared}
    (G : GAt P w K mg base k env ga X pins xs st pvp gs H s) (I : Inv X pins σ H s) : Inv X (pins ++ pvp) σ H s := I.pins_of fun p hp => by
  rcases List.mem_append.mp hp with z | z
  · exact I.pin p (List.mem_append_right _ z)
  · obtain ⟨z1, z2, z3⟩ := G.obj p z
    exact ⟨z1, z3.1, z3.2.1, z3.2.2.1, z2⟩
/-- the step ahead of the store is nothing for a generator -/
theorem go_gen {M : Model} {A : Around} {E : Value → Shared → Prop} {s : Shared} {tg : Expr} {ga : (Addr × Obj) × Nat} {u : Value} {Q : Unit → Shared → Prop} (z : isGenO ga) (ho : s.heap.get? ga.1.1 = some ga.1.2) (h : Q () s) : wpAny M A (letOwnedTupleGo tg (.ref ga.1.1) u) Q E s := by
  obtain ⟨nm, qn, h1, h2, h3⟩ := z
  exact go_of ho h1 h2 (by decide) h
theorem ds_forG {tg iter : Expr} {body orelse : List Stmt} {f : Ev → Sto → R (List D)} {T : Tg} {B Z : Ev → Sto → SR} {pos : Pos} (hp : PassesOwn (model X.prog X.w) X.A X.env X.xe) (hx : Calm X.xe) (hr : Room (k + 2) X.A) (hi : PGx X W k iter f) (hg : DG X tg T) (hb : DSs X W body B) (ho : DSs X W orelse Z)
    (hs : ∀ x, foldedSetIterable iter X.env x = pure x := by intro _; rfl) : DS X W (.For tg iter body orelse pos) (sForG f T B Z) := by
  refine ⟨fun pins s σ H E I ⟨ι, ρ, S, hE, hS, h⟩ => ?_⟩
  refine wpAny_For (thn (hi pins s σ H ι ρ S _ I hE hS (PostS.bind h hE)) fun v s1 h1 => ?_) hs
  obtain ⟨H1, ι1, S1, xs, G1, sm1, hq, env, ga, c0, pvp, rfl, zo, I1, cns, gat⟩ := h1
  refine wpAny_pyIter_gen (isGen_of zo (gat.obj ga.1 gat.mem).1) ?_
  refine codeAny_forLoop_any (fun n s' => ∃ (xs : List D) (st : GenState) (pvp : List (Addr × Obj)) (gs : List (Nat × GenState)) (ι' : List Addr) (ρ' : Ev) (S' : Sto) (σ' : St) (H' : Hp), n = xs.length ∧ Inv X pins σ' H' s' ∧ GAt X.prog X.w X.K X.mg X.base k env ga X pins xs st pvp gs H' s' ∧
    RepE X.K ι' H' σ' ρ' ∧ Sim X.K ι' H' S' ∧ PostS X.K W E ι' H' (forD yes T B Z xs ρ' S')) ?_ xs.length ⟨xs, _, pvp, [], ι1, ρ, S1, σ, H1, rfl, I1, gat, hE.grow G1, sm1, hq⟩
  rintro n s3 ⟨xs, st, pvp, gs, ι3, ρ3, S3, σ3, H3, rfl, I3, gat3, e3, sm3, h3⟩
  refine wpAny_passesOwn hp (wpAny_mono (gnext zo ⟨rfl, rfl, rfl, rfl, rfl⟩ hr cns I3 gat3) (fun r s4 h4 => ?_) fun _ _ z => z.elim)
  rcases h4 with ⟨rfl, rfl, H4, I4, sub⟩ | ⟨x, xs', u, vv, H4, st4, pvp4, gs4, rfl, rfl, rv, I4, sub, tx, rd, as4, nf4, gat4⟩
  · unfold forD at h3
    rw [if_pos (show yes S3 from trivial)] at h3
    exact wpAny_passesOwn hp (thn (ho.run pins s4 σ3 H4 E I4 ⟨ι3, ρ3, S3, e3.grow (Grow.all sub), sm3.all sub, PostS.grow h3 (Grow.all sub)⟩) fun fl s5 q5 => q5)
  · unfold forD at h3
    rw [if_pos (show yes S3 from trivial)] at h3
    have sm4 := sm3.all sub
    have e4 := e3.grow (Grow.all (ι := ι3) sub)
    refine go_gen zo (gat4.obj ga.1 gat4.mem).1 ?_
    cases hT : T x ρ3 S3 with
    | none => simp only [hT] at h3; exact h3.elim
    | some q =>
      obtain ⟨ρ1, S2⟩ := q
      simp only [hT] at h3
      refine wpAny_passesOwn hp (wpAny_mono (pg_kept (Q := fun σ' H' => ∃ ι', Grow ι3 H4 ι' H' ∧ Sim X.K ι' H' S2 ∧ RepE X.K ι' H' σ' ρ1) hx hg (gat_pin gat4 I4) rv ⟨ι3, ρ3, S3, x, ρ1, S2, e4, sm4, tt_in sm4 tx rd, hT, fun ι' H' σ' g' s' e' => ⟨ι', g', s', e'⟩⟩) (fun _ s6 h6 => ?_) fun _ _ z => z.1)
      obtain ⟨⟨σ6, H6, I6, ι6, g6, sm6, e6⟩, kp6⟩ := h6
      have gat6 := gat_step gat4 as4 nf4 I6 kp6 (tx_of sm4 g6)
      have h6 := PostS.grow (PostS.grow h3 (Grow.all sub)) g6
      have nxt : ∀ (ρ2 : Ev) (S5 : Sto), PostS X.K W E ι6 H6 (forD yes T B Z xs' ρ2 S5) → ∀ {σ7 : St} {H7 : Hp} {s7 : Shared} {ι7 : List Addr}, Inv X (pins ++ pvp4) σ7 H7 s7 → Kept s6 s7 → Grow ι6 H6 ι7 H7 → Sim X.K ι7 H7 S5 → RepE X.K ι7 H7 σ7 ρ2 →
          ∃ m, m < (x :: xs').length ∧ ∃ (xs : List D) (st : GenState) (pvp : List (Addr × Obj)) (gs : List (Nat × GenState)) (ι' : List Addr) (ρ' : Ev) (S' : Sto) (σ' : St) (H' : Hp), m = xs.length ∧ Inv X pins σ' H' s7 ∧ GAt X.prog X.w X.K X.mg X.base k env ga X pins xs st pvp gs H' s7 ∧
            RepE X.K ι' H' σ' ρ' ∧ Sim X.K ι' H' S' ∧ PostS X.K W E ι' H' (forD yes T B Z xs ρ' S') := by
        intro ρ2 S5 hps σ7 H7 s7 ι7 I7 kp7 g7 sm7 e7
        exact ⟨xs'.length, by simp, xs', st4, pvp4, gs4, ι7, ρ2, S5, σ7, H7, rfl, I7.unpinned, gat_step gat6 as4 nf4 I7 kp7 (tx_of sm6 g7), e7, sm7, PostS.grow hps g7⟩
      cases hB : B ρ1 S2 with
      | stuck => simp only [hB] at h6; exact h6.elim
      | nx ρ2 S5 =>
        simp only [hB] at h6
        refine wpAny_passesOwn hp (wpAny_mono (pss_kept (E := { nx := fun σ' H' => ∃ ι', Grow ι6 H6 ι' H' ∧ Sim X.K ι' H' S5 ∧ RepE X.K ι' H' σ' ρ2, rt := fun _ _ => False }) hx hb I6 ⟨ι6, ρ1, S2, e6, sm6, by rw [hB]; exact fun ι' H' σ' g' s' e' => ⟨ι', g', s', e'⟩⟩) (fun fl s7 h7 => ?_) fun _ _ z => z.1)
        obtain ⟨h7, kp7⟩ := h7
        cases fl with
        | next => obtain ⟨σ7, H7, I7, ι7, g7, sm7, e7⟩ := h7; exact nxt ρ2 S5 h6 I7 kp7 g7 sm7 e7
        | cont => obtain ⟨_, _, _, z⟩ := h7; exact z.elim
        | brk => obtain ⟨_, _, _, z⟩ := h7; exact z.elim
        | ret v => obtain ⟨_, _, _, _, _, z⟩ := h7; exact z.elim
      | ct ρ2 S5 =>
        simp only [hB] at h6
        refine wpAny_passesOwn hp (wpAny_mono (pss_kept (E := { nx := fun _ _ => False, rt := fun _ _ => False, ct := fun σ' H' => ∃ ι', Grow ι6 H6 ι' H' ∧ Sim X.K ι' H' S5 ∧ RepE X.K ι' H' σ' ρ2 }) hx hb I6 ⟨ι6, ρ1, S2, e6, sm6, by rw [hB]; exact fun ι' H' σ' g' s' e' => ⟨ι', g', s', e'⟩⟩) (fun fl s7 h7 => ?_) fun _ _ z => z.1)
        obtain ⟨h7, kp7⟩ := h7
        cases fl with
        | cont => obtain ⟨σ7, H7, I7, ι7, g7, sm7, e7⟩ := h7; exact nxt ρ2 S5 h6 I7 kp7 g7 sm7 e7
        | next => obtain ⟨_, _, _, z⟩ := h7; exact z.elim
        | brk => obtain ⟨_, _, _, z⟩ := h7; exact z.elim
        | ret v => obtain ⟨_, _, _, _, _, z⟩ := h7; exact z.elim
      | bk ρ2 S5 =>
        simp only [hB] at h6
        refine wpAny_passesOwn hp (thn (hb.run _ s6 σ6 H6 { nx := fun _ _ => False, rt := fun _ _ => False, bk := E.nx } I6 ⟨ι6, ρ1, S2, e6, sm6, by rw [hB]; exact h6⟩) fun fl s7 h7 => ?_)
        cases fl with
        | brk => obtain ⟨σ7, H7, I7, q7⟩ := h7; exact ⟨σ7, H7, I7.unpinned, q7⟩
        | next => obtain ⟨_, _, _, z⟩ := h7; exact z.elim
        | cont => obtain ⟨_, _, _, z⟩ := h7; exact z.elim
        | ret v => obtain ⟨_, _, _, _, _, z⟩ := h7; exact z.elim
      | rt d S5 =>
        simp only [hB] at h6
        refine wpAny_passesOwn hp (thn (hb.run _ s6 σ6 H6 { nx := fun _ _ => False, rt := E.rt } I6 ⟨ι6, ρ1, S2, e6, sm6, by rw [hB]; exact h6⟩) fun fl s7 h7 => ?_)
        cases fl with
        | ret v => obtain ⟨x7, σ7, H7, I7, r7, q7⟩ := h7; exact ⟨x7, σ7, H7, I7.unpinned, r7, q7⟩
        | next => obtain ⟨_, _, _, z⟩ := h7; exact z.elim
        | cont => obtain ⟨_, _, _, z⟩ := h7; exact z.elim
        | brk => obtain ⟨_, _, _, z⟩ := h7; exact z.elim
      | er x ρ2 S5 =>
        simp only [hB] at h6
        refine wpAny_passesOwn hp (thn (hb.run _ s6 σ6 H6 { nx := fun _ _ => False, rt := fun _ _ => False } I6 ⟨ι6, ρ1, S2, e6, sm6, by rw [hB]; exact h6⟩) fun fl s7 h7 => ?_)
        cases fl with
        | ret v => obtain ⟨_, _, _, _, _, z⟩ := h7; exact z.elim
        | next => obtain ⟨_, _, _, z⟩ := h7; exact z.elim
        | cont => obtain ⟨_, _, _, z⟩ := h7; exact z.elim
        | brk => obtain ⟨_, _, _, z⟩ := h7; exact z.elim
end
/-- a def's context looks at no generator -/
theorem calm_cx {P : Program} {w : World} {K : PySem.W.Frag} {mg : Str → Option Value} {base : Heap} {N : List Str} {qual : Str} {scope : Scope} {f : Addr} {cd : Value} {A : Around} {outer : List Env} {s : Shared} {H : Hp} {E : XK} : Calm (cxOf (L2.CX P w) P w K mg base N qual scope f cd A outer s H E).xe := by
  have hc : ∀ e, Calm (fun (_ : Unit) s'' => L2.CX P w outer H s E e s'') := fun e G b z _ l ⟨a, B, H', cls, d, z1, z2, z3, z4, z5, z6, z7, z8⟩ => ⟨a, B, H', cls, d, z1, by rw [l.heap]; exact z2, z3, by rw [l.heap]; exact z4, z5, by rw [l.os]; exact z6, l.bare z7, z8⟩
  have hd : Calm (fun e s'' => L2.CX P w outer H s E e s'') := fun G b z e l q => hc e G b z () l q
  exact calm_wpAny hc hd
end DL
namespace DL
open PySem L2
open PyProof.Rows hiding St
open Sem (wp)
end DL
namespace DL
open PySem PySem.Spec L2
open PyProof.Rows hiding St
def getI (S : Sto) (d : D) : Option (Str × List (Str × D)) := match d with
  | .loc n => (match S[n]? with
    | some (.ins c fs) => some (c, fs)
    | _ => none)
  | _ => none
section
variable {K : PySem.W.Frag} {ι : List Addr} {H : Hp}
def putD (f : Str) (d : D) : List (Str × D) → List (Str × D)
  | [] => [(f, d)]
  | (g, x) :: r => if g = f then (g, d) :: r else (g, x) :: putD f d r
theorem RepF.put {f : Str} {d : D} {v : V} (rv : RepV K ι H d v) : ∀ {fs : List (Str × D)} {vs : List (Str × V)}, RepF K ι H fs vs → RepF K ι H (putD f d fs) (putF f v vs)
  | [], _, r => by
    rw [RepF] at r
    subst r
    exact RepF.one rv
  | (k, x) :: fs, _, r => by
    rw [RepF] at r
    obtain ⟨u, vs, rfl, rx, rr⟩ := r
    unfold putD putF
    by_cases h : k = f
    · rw [if_pos h, if_pos h, RepF]
      exact ⟨v, vs, rfl, rv, rr⟩
    · rw [if_neg h, if_neg h, RepF]
      exact ⟨u, _, rfl, rx, RepF.put rv rr⟩
theorem RepF.len : ∀ {fs : List (Str × D)} {vs : List (Str × V)}, RepF K ι H fs vs → fs.length = vs.length
  | [], _, r => by rw [RepF] at r; subst r; rfl
  | (k, x) :: fs, _, r => by
    rw [RepF] at r
    obtain ⟨v, vs, rfl, rx, rr⟩ := r
    simp [RepF.len rr]
end
def dFld (cs : List Str) (f : Str) (d : D) (S : Sto) : R D := match getI S d with
  | some (c, fs) => if cs.contains c = true then (match fs.lookup f with
    | some v => .ok v S
    | none => .stuck) else .stuck
  | none => .stuck
def eFld (cs : List Str) (f : Str) (g : Ev → Sto → R D) : Ev → Sto → R D := fun ρ S => (g ρ S).bind fun d S1 => dFld cs f d S1
def setI (cs : List Str) (f : Str) (o v : D) (S : Sto) : Option Sto := match o with
  | .loc n => (match S[n]? with
    | some (.ins c fs) => if cs.contains c = true ∧ fs.length < 1000 then some (S.set n (.ins c (putD f v fs))) else none
    | _ => none)
  | _ => none
def tAttr (cs : List Str) (f : Str) (g : Ev → Sto → R D) : Tg := fun v ρ S => match g ρ S with
  | .ok o S1 => (setI cs f o v S1).map fun S2 => (ρ, S2)
  | _ => none
/-- the def that a method's name means at an instance -/
def mthOf (m : Str) (tbl : List (Str × Fn)) (d : D) (S : Sto) : Option Fn := match getI S d with
  | some (c, fs) => (match fs.lookup m with
    | none => tbl.lookup c
    | some _ => none)
  | none => none
def eMth (m : Str) (tbl : List (Str × Fn)) (o : Ev → Sto → R D) (g : Ev → Sto → R (List D)) : Ev → Sto → R D := fun ρ S => (o ρ S).bind fun d S1 => match mthOf m tbl d S1 with
  | some F => (g ρ S1).bind fun ds S2 => F (d :: ds) S2
  | none => .stuck
def eNew (c : Str) (F : Fn) (g : Ev → Sto → R (List D)) : Ev → Sto → R D := fun ρ S => (g ρ S).bind fun ds S1 => match F (.loc S1.length :: ds) (S1 ++ [.ins c []]) with
  | .ok .non S2 => .ok (.loc S1.length) S2
  | .er e S2 => .er e S2
  | _ => .stuck
end DL
namespace DL
open PySem PySem.Spec L2
open PyProof.Rows hiding St
structure PCs (X : Cx) (cases : List MatchCase) (t : V → TS) : Prop where
  run : ∀ (first : Bool) (pins : List (Addr × Obj)) (s : Shared) (σ : L2.St) (H : Hp) (v : V) (u : Value) (D : Ends), Inv X pins σ H s → RelV v u → t v D σ H → wpAny (model X.prog X.w) X.A (matchCases cases X.env u first) (SP X pins D) X.xe s
abbrev CF := D → Ev → Sto → SR
def rdC (K : PySem.W.Frag) (W : WX) (F : CF) : V → TS := fun v E σ H => ∃ ι ρ S d, RepE K ι H σ ρ ∧ Sim K ι H S ∧ RepV K ι H d v ∧ PostS K W E ι H (F d ρ S)
abbrev DCs (X : Cx) (W : WX) (cases : List MatchCase) (F : CF) : Prop := PCs X cases (rdC X.K W F)
section
variable {X : Cx} {W : WX}
def cNil : CF := fun _ ρ S => .nx ρ S
def cAny (B : Ev → Sto → SR) : CF := fun _ ρ S => B ρ S
theorem dcs_any {body : List Stmt} {rest : List MatchCase} {p : Pos} {B : Ev → Sto → SR} (hb : DSs X W body B) : DCs X W (⟨.MatchAs none none p, none, body⟩ :: rest) (cAny B) := ⟨fun first pins s σ H v u E I r ⟨ι, ρ, S, d, hE, hS, rv, h⟩ =>
  wpAny_matchCases_cons (wpAny_matchPattern_Capture (wpAny_assignInOrder_none (hb.run pins s σ H E I ⟨ι, ρ, S, hE, hS, h⟩)))⟩
def cText (x : Str) (B : Ev → Sto → SR) (G : CF) : CF := fun d ρ S => match d with
  | .str y => if y = x then B ρ S else G d ρ S
  | _ => .stuck
theorem dcs_text {x : Str} {j : Nat} {p1 p2 : Pos} {body : List Stmt} {rest : List MatchCase} {B : Ev → Sto → SR} {G : CF} (hb : DSs X W body B) (hr : DCs X W rest G) : DCs X W (⟨.MatchValue (.Constant (.str x) j p1) p2, none, body⟩ :: rest) (cText x B G) := by
  refine ⟨fun first pins s σ H v u E I r ⟨ι, ρ, S, d, hE, hS, rv, h⟩ => ?_⟩
  cases d with
  | str y =>
    have hv := str_at rv
    subst hv
    replace h : PostS X.K W E ι H (if y = x then B ρ S else G (.str y) ρ S) := h
    refine wpAny_matchCases_cons (wpAny_matchPattern_Value (thn ((pe_str (X := X) (x := x) (j := j) (pos := p1)).run pins s σ H (fun w H' => w = .str x ∧ H' = H) I ⟨rfl, rfl⟩) fun u2 s2 ⟨w, H2, I2, r2, e1, e2⟩ => ?_))
    subst e1 e2
    refine thn (op_eq pins s2 σ H2 (.str y) (.str x) u u2 (fun w H' => w = .bl (decide (V.str y = V.str x)) ∧ H' = H2) I2 r r2 ⟨rfl, rfl, rfl⟩) fun u3 s3 ⟨w, H3, I3, r3, e3, e4⟩ => ?_
    subst e3 e4
    cases r3
    refine wpAny_truthy_bool ?_
    by_cases e : y = x
    · subst e
      rw [if_pos rfl] at h
      simp only [decide_true, if_true]
      exact wpAny_assignInOrder_none (hb.run pins s3 σ H3 E I3 ⟨ι, ρ, S, hE, hS, h⟩)
    · rw [if_neg e] at h
      have e' : decide (V.str y = V.str x) = false := decide_eq_false fun z => e (V.str.inj z)
      simp only [e', Bool.false_eq_true, if_false]
      exact hr.run false pins s3 σ H3 (.str y) u E I3 r ⟨ι, ρ, S, .str y, hE, hS, rv, h⟩
  | _ => exact (show False from h).elim
def sMatch (f : Ev → Sto → R D) (F : CF) : Ev → Sto → SR := fun ρ S => (f ρ S).toS ρ fun d S1 => F d ρ S1
theorem ds_match {e : Expr} {cases : List MatchCase} {pos : Pos} {f : Ev → Sto → R D} {F : CF} (he : DE X W e f) (hc : DCs X W cases F) : DS X W (.Match e cases pos) (sMatch f F) := by
  refine ⟨fun pins s σ H E I ⟨ι, ρ, S, hE, hS, h⟩ => ?_⟩
  have rd : rdE X.K W f σ H fun v H1 => rdC X.K W F v E σ H1 := ⟨ι, ρ, S, hE, hS, (PostS.bind h hE).mono fun d S1 ι1 H1 G1 s1 h1 v rv => ⟨ι1, ρ, S1, d, hE.grow G1, s1, rv, h1⟩⟩
  exact wpAny_Match (thn (he.run pins s σ H _ I rd) fun u s1 ⟨v, H1, I1, r, q⟩ => hc.run true pins s1 σ H1 v u E I1 r q)
end
end DL
namespace DL
open PySem PySem.Spec L2
open PyProof.Rows hiding St
end DL
namespace DL
open PySem PySem.Spec L2
open PyProof.Rows hiding St
def putKD (kvs : List (Key × D)) (k : Key) (v : D) : List (Key × D) :=
  if (kvs.any fun kv => decide (kv.1 = k)) = true then kvs.map (fun kv => if kv.1 = k then (kv.1, v) else kv) else kvs ++ [(k, v)]
theorem RepK.any {K : PySem.W.Frag} {ι : List Addr} {H : Hp} {k : Key} : ∀ {kvs : List (Key × D)} {vs : List (Key × V)}, RepK K ι H kvs vs → (vs.any fun kv => decide (kv.1 = k)) = (kvs.any fun kv => decide (kv.1 = k))
  | [], _, h => by rw [RepK] at h; subst h; rfl
  | (j, x) :: kvs, _, h => by
    rw [RepK] at h
    obtain ⟨v, r, rfl, a, b⟩ := h
    rw [List.any_cons, List.any_cons, RepK.any b]
theorem RepK.repl {K : PySem.W.Frag} {ι : List Addr} {H : Hp} {k : Key} {d : D} {v : V} (rv : RepV K ι H d v) : ∀ {kvs : List (Key × D)} {vs : List (Key × V)}, RepK K ι H kvs vs → RepK K ι H (kvs.map fun kv => if kv.1 = k then (kv.1, d) else kv) (vs.map fun kv => if kv.1 = k then (kv.1, v) else kv)
  | [], _, h => by rw [RepK] at h; subst h; rw [List.map_nil, RepK]; rfl
  | (j, x) :: kvs, _, h => by
    rw [RepK] at h
    obtain ⟨w, r, rfl, a, b⟩ := h
    rw [List.map_cons, List.map_cons]
    by_cases hj : j = k
    · simp only [hj, if_true]
      rw [RepK]
      exact ⟨v, _, rfl, rv, RepK.repl rv b⟩
    · simp only [hj, if_false]
      rw [RepK]
      exact ⟨w, _, rfl, a, RepK.repl rv b⟩
theorem RepK.snoc {K : PySem.W.Frag} {ι : List Addr} {H : Hp} {k : Key} {d : D} {v : V} (rv : RepV K ι H d v) : ∀ {kvs : List (Key × D)} {vs : List (Key × V)}, RepK K ι H kvs vs → RepK K ι H (kvs ++ [(k, d)]) (vs ++ [(k, v)])
  | [], _, h => by rw [RepK] at h; subst h; rw [List.nil_append, RepK]; exact ⟨v, [], rfl, rv, by rw [RepK]⟩
  | (j, x) :: kvs, _, h => by
    rw [RepK] at h
    obtain ⟨w, r, rfl, a, b⟩ := h
    rw [List.cons_append, RepK]
    exact ⟨w, _, rfl, a, RepK.snoc rv b⟩
theorem RepK.put {K : PySem.W.Frag} {ι : List Addr} {H : Hp} {k : Key} {d : D} {v : V} {kvs : List (Key × D)} {vs : List (Key × V)} (h : RepK K ι H kvs vs) (rv : RepV K ι H d v) : RepK K ι H (putKD kvs k d) (putK vs k v) := by
  unfold putKD putK
  rw [RepK.any h]
  split
  · exact RepK.repl rv h
  · exact RepK.snoc rv h
theorem RepK.len {K : PySem.W.Frag} {ι : List Addr} {H : Hp} {kvs : List (Key × D)} {vs : List (Key × V)} (h : RepK K ι H kvs vs) : vs.length = kvs.length := by
  have := congrArg List.length (RepK.keys h)
  simpa using this
end DL
namespace DL
open PySem PySem.Spec L2
open PyProof.Rows hiding St
end DL
namespace DL
open PySem PySem.Spec L2
open PyProof.Rows hiding St
end DL
namespace DL
open PySem PySem.Spec L2
open PyProof.Rows hiding St
end DL
namespace DL
open PySem PySem.Spec L2
open PyProof.Rows hiding St
end DL
namespace DL
open PySem PySem.Spec L2
open PyProof.Rows hiding St
end DL
namespace DL
open PySem PySem.Spec L2 PySem.W
open PyProof.Rows hiding St
end DL
namespace DL
open PySem PySem.Spec L2 ClX
open PyProof.Rows hiding St
end DL
namespace DL
open PySem PySem.Spec L2
open PyProof.Rows hiding St
end DL
namespace DL
open PySem PySem.Spec L2 ClX
open PyProof.Rows hiding St
end DL
namespace DL
open PySem PySem.Spec L2
open PyProof.Rows hiding St
end DL
namespace DL
open PySem PySem.Spec L2
open PyProof.Rows hiding St
/-- the def at f does what F says, the last values handed by the names ks -/
def FnK (gd : Bool) (P : Program) (w : World) (K : PySem.W.Frag) (mg : Str → Option Value) (base : Heap) (k : Nat) (f : Addr) (ks : List Str) (F : Fn) : Prop :=
  ∀ (A : Around) (outer : List Env) (s : Shared) (H : Hp) (us ws : List Value) (vs zs : List V) (Q : VK) (E : XK), Room k A → (gd = true → A.guards = some []) → Env0 P w K mg base A outer s H → Vals vs us → Vals zs ws → ws.length = ks.length → spD K F (vs ++ zs) H Q E →
    codeAny (model P w) A (.call (.ref f) ⟨us, ks.zip ws⟩) (CR (L2.CX P w) outer P w H s Q E) s
def DK (X : Cx) (W : WX) (kws : List Keyword) (g : Ev → Sto → R (List D)) : Prop := PK X kws (rdA X.K W g)
section
variable {X : Cx} {W : WX} {gd : Bool} {k : Nat} {m : Str} {f : Addr}
theorem dk_nil : DK X W [] aNil := by
  unfold DK
  refine ⟨fun pos pins s σ H Q I h => ?_⟩
  obtain ⟨ι, ρ, S, hE, hS, h⟩ := h
  exact pk_nil.run pos pins s σ H Q I (h.here hS [] RepL.nil)
theorem dk_cons {nm : Option Str} {e : Expr} {kpos : Pos} {kws : List Keyword} {fe : Ev → Sto → R D} {g : Ev → Sto → R (List D)} (he : DE X W e fe) (hr : DK X W kws g) : DK X W (⟨nm, e, kpos⟩ :: kws) (aCons fe g) := by
  unfold DK at *
  have base := pk_cons (nm := nm) (kpos := kpos) he hr
  refine ⟨fun pos pins s σ H Q I ⟨ι, ρ, S, hE, hS, h⟩ => base.run pos pins s σ H Q I ⟨ι, ρ, S, hE, hS, (Post.bind h).mono fun d S1 ι1 H1 G1 s1 h1 v rv => ?_⟩⟩
  refine ⟨ι1, ρ, S1, hE.grow G1, s1, (Post.bind h1).mono fun ds S2 ι2 H2 G2 s2 h2 vs rs => ?_⟩
  exact h2.here s2 _ (RepL.cons (RepV.grow G2 d v rv) rs)
end
section
variable {X : Cx} {W : WX} {gd : Bool} {k : Nat} {m : Str} {f : Addr} {F : Fn} {ks : List Str} {tbl : List (Str × Fn)} {o e : Expr} {es : List Expr} {kws : List Keyword} {og : Ev → Sto → R D} {g gk : Ev → Sto → R (List D)} {pos apos : Pos}
theorem run_fnK {pins : List (Addr × Obj)} {σ : St} {H : Hp} {s : Shared} {Q : VK} {us ws : List Value} {vs zs : List V} (hF : FnK gd X.prog X.w X.K X.mg X.base k f ks F) (hr : Room k X.A) (hG : gd = true → X.A.guards = some []) (tk : Takes X W)
    (I : Inv X pins σ H s) (r : Vals vs us) (rz : Vals zs ws) (hl : ws.length = ks.length) (h : spD X.K F (vs ++ zs) H Q (WE W σ)) : wpAny (model X.prog X.w) X.A (call (.ref f) us (ks.zip ws)) (EP X pins σ Q) X.xe s := by
  refine wpAny_call (codeAny_mono (hF X.A X.stack s H us ws vs zs Q (WE W σ) hr hG I.env0 r rz hl h) fun res s' hq => ?_)
  cases res with
  | error er => exact passAt tk σ pins H s er s' I hq
  | ok fl =>
    cases fl with
    | ret u => exact I.after hq
    | next => exact False.elim hq
    | brk => exact False.elim hq
    | cont => exact False.elim hq
end
end DL
namespace DL
open PySem PySem.Spec L2
open PyProof.Rows hiding St
end DL
namespace DL
open PySem PySem.Spec L2
open PyProof.Rows hiding St
end DL
namespace DL
open PySem PySem.Spec L2
open PyProof.Rows hiding St
end DL
namespace DL
open PySem PySem.Spec L2
open PyProof.Rows hiding St
section
variable {X : Cx} {W : WX} {pos : Pos}
def keyD : Key → D
  | .inl i => .int i
  | .inr x => .str x
theorem rep_key {K : PySem.W.Frag} {ι : List Addr} {H : Hp} : ∀ k : Key, RepV K ι H (keyD k) (kV k)
  | .inl _ => int_rep
  | .inr _ => str_rep
def itemsD (kvs : List (Key × D)) : List D := kvs.map fun q => .tup [keyD q.1, q.2]
theorem RepK.at {K : PySem.W.Frag} {ι : List Addr} {H : Hp} : ∀ {kvs : List (Key × D)} {ws : List (Key × V)}, RepK K ι H kvs ws → kvs.length = ws.length ∧ ∀ (i : Nat) (q : Key × D), kvs[i]? = some q → ∃ v, ws[i]? = some (q.1, v) ∧ RepV K ι H q.2 v
  | [], _, h => by rw [RepK] at h; subst h; exact ⟨rfl, fun i q e => by simp at e⟩
  | (k, d) :: r, _, h => by
    rw [RepK] at h
    obtain ⟨v, ws, rfl, a, b⟩ := h
    obtain ⟨h1, h2⟩ := RepK.at b
    refine ⟨by simp [h1], fun i q e => ?_⟩
    cases i with
    | zero => simp at e; subst e; exact ⟨v, rfl, a⟩
    | succ i => exact h2 i q (by simpa using e)
def iItemsD (f : Ev → Sto → R D) : Ev → Sto → R Src := fun ρ S => (f ρ S).bind fun d S1 => match d with
  | .loc n => (match S1[n]? with
    | some (.dtt kvs) => .ok (itemsD kvs, yes) S1
    | _ => .stuck)
  | _ => .stuck
theorem di_items {e : Expr} {f : Ev → Sto → R D} {apos cpos tpos : Pos} {elts : List Expr} {kk : Nat} (he : DE X W e f) (hbase : attributeBase e "items" X.env (eval e X.env) = eval e X.env := by rfl) (hline : (apos.endLine == cpos.line) = true := by rfl) :
    DI X W (.Tuple elts kk tpos) (.Call (.Attribute e "items" apos) [] [] cpos) (iItemsD f) := by
  refine PI.imp (pi_items he hbase hline) fun σ H Rr ⟨ι, ρ, S, hE, hS, q⟩ => ⟨ι, ρ, S, hE, hS, (Post.bind q).mono fun d S1 ι1 H1 G1 s1 h1 v rv => ?_⟩
  cases d with
  | loc n =>
    dsimp only at h1
    cases hq : S1[n]? with
    | none => rw [hq] at h1; exact h1.elim
    | some o =>
      rw [hq] at h1
      cases o with
      | dtt kvs =>
        rw [RepV] at rv
        obtain ⟨a, ea, rfl⟩ := rv
        obtain ⟨od, ks, h3, h4⟩ := s1.ob _ _ _ ea hq
        refine ⟨a, od, ks, rfl, h3, h1.here s1 _ fun ι2 H2 S2 G2 s2 _ => ?_⟩
        have h5 := G2.frz _ _ _ h3
        obtain ⟨hl, hat⟩ := RepK.at (RepK.grow G2 _ _ h4)
        refine ⟨fun i hi => ⟨h5, by unfold itemsD at hi; rw [List.length_map] at hi; omega⟩, fun i d hd => ?_⟩
        unfold itemsD at hd
        rw [List.getElem?_map] at hd
        obtain ⟨p, hp, rfl⟩ := Option.map_eq_some_iff.mp hd
        obtain ⟨v, hv, rv⟩ := hat i p hp
        refine ⟨⟨h5, (List.getElem?_eq_some_iff.mp hv).1⟩, fun x H3 hy => ?_⟩
        obtain ⟨T, k, w, e1, rfl, hT, rfl⟩ := hy
        rw [hv] at e1
        cases e1
        exact ⟨Grow.upd hT, s2.upd hT, rep_tup s2 hT (RepL.cons (rep_key _) (RepL.one rv))⟩
      | _ => exact h1.elim
  | _ => exact h1.elim
end
end DL
namespace DL
open PySem PySem.Spec L2 PySem.W
open PyProof.Rows hiding St
section
variable {prog : Program} {w : World} {A : Around} {E : Value → Shared → Prop}
theorem kw_nsSet {s : Shared} {D : Addr} {es : List DictEntry} {n : Nat} {k : Str} {v : Value} {Q : Unit → Shared → Prop} (hD : s.heap.get? D = some (dictOf es n)) (hs : ∀ e ∈ es, e.key.isStr k = false) (hr : ∀ e ∈ es, e.refKey = false)
    (h : ∀ h', h'.get? D = some (dictOf (es ++ [⟨PyData.keyHash w.params k, .str k s.toks, v⟩]) (n + 1)) → (∀ b, b ≠ D → h'.get? b = s.heap.get? b) → h'.objs.size = s.heap.objs.size → Q () { s with heap := h', toks := s.toks + 1 }) :
    wpAny (model prog w) A (nsSet D k v) Q E s := by
  have e1 : es.any (·.key.isStr k) = false := by
    cases q : es.any (·.key.isStr k) with
    | false => rfl
    | true => obtain ⟨e, he, z⟩ := List.any_eq_true.mp q; rw [hs e he] at z; cases z
  have e2 : es.any (·.refKey) = false := by
    cases q : es.any (·.refKey) with
    | false => rfl
    | true => obtain ⟨e, he, z⟩ := List.any_eq_true.mp q; rw [hr e he] at z; cases z
  have e : Obj.putName k (PyData.keyHash w.params k) (.str k s.toks) v (dictOf es n) = dictOf (es ++ [⟨PyData.keyHash w.params k, .str k s.toks, v⟩]) (n + 1) := by
    rw [putName_dict, putL_new hs]
    show dictOf _ (if es.any (·.key.isStr k) then n else n + 1) = _
    rw [e1, if_neg Bool.false_ne_true]
  have c : aRefKeyMayBeTheName k es.toArray = false := by
    rw [aRefKeyMayBeTheName_at, ← Array.any_toList, ← Array.any_toList]
    show (!es.any (·.key.isStr k) && es.any (·.refKey)) = false
    rw [e2, Bool.and_false]
  unfold nsSet
  refine wpAny_bind (wpAny_bind (wpAny_askSetting (wpAny_pure (wpAny_bind (wpAny_mkText (wpAny_bind (wpAny_loadPart hD ?_)))))))
  dsimp only
  rw [c]
  refine wpAny_updatePart hD (h _ ?_ (fun b hb => ?_) ?_)
  · rw [← e]
    exact Heap.get?_update_self _ hD (by show (Obj.putName k (PyData.keyHash w.params k) (.str k s.toks) v (dictOf es n)).isFreed = false; rw [e]; rfl)
  · exact Heap.get?_update_other _ _ (Ne.symm hb)
  · exact Heap.size_update _ _ _
theorem kw_fill {D : Addr} {Q : PUnit → Shared → Prop} : ∀ (ex : List (Str × Value)) (s : Shared) (es : List DictEntry) (n : Nat), s.heap.get? D = some (dictOf es n) →
    (∀ e ∈ es, ∀ x ∈ ex, e.key.isStr x.1 = false) → (∀ e ∈ es, e.refKey = false) → (ex.map (·.1)).Nodup →
    (∀ h', h'.get? D = some (dictOf (es ++ kwEs w.params s.toks ex) (n + ex.length)) → (∀ b, b ≠ D → h'.get? b = s.heap.get? b) → h'.objs.size = s.heap.objs.size → Q ⟨⟩ { s with heap := h', toks := s.toks + ex.length }) →
    wpAny (model prog w) A (forIn ex PUnit.unit fun x _ => (nsSet D x.1 x.2 >>= fun _ => pure (ForInStep.yield PUnit.unit))) Q E s
  | [], s, es, n, hD, _, _, _, h => by
    rw [List.forIn_nil]
    refine wpAny_pure (h s.heap ?_ (fun _ _ => rfl) rfl)
    show s.heap.get? D = some (dictOf (es ++ []) n)
    rw [List.append_nil]
    exact hD
  | x :: r, s, es, n, hD, hs, hr, hn, h => by
    obtain ⟨hn1, hn2⟩ := List.nodup_cons.mp (show (x.1 :: r.map (·.1)).Nodup from hn)
    rw [List.forIn_cons]
    refine wpAny_bind (wpAny_bind (kw_nsSet hD (fun e he => hs e he x (.head _)) hr fun h' hD' ho hz => wpAny_pure ?_))
    show wpAny (model prog w) A (forIn r PUnit.unit fun x _ => (nsSet D x.1 x.2 >>= fun _ => pure (ForInStep.yield PUnit.unit))) Q E { s with heap := h', toks := s.toks + 1 }
    refine kw_fill r { s with heap := h', toks := s.toks + 1 } _ _ hD' (fun e he y hy => ?_) (fun e he => ?_) hn2 fun h'' hD'' ho' hz' => ?_
    · rcases List.mem_append.mp he with he | he
      · exact hs e he y (.tail _ hy)
      · obtain rfl := List.mem_singleton.mp he
        show (x.1 == y.1) = false
        exact beq_eq_false_iff_ne.mpr fun q => hn1 (by rw [q]; exact List.mem_map_of_mem hy)
    · rcases List.mem_append.mp he with he | he
      · exact hr e he
      · obtain rfl := List.mem_singleton.mp he
        rfl
    · have t1 : s.toks + 1 + r.length = s.toks + (r.length + 1) := by omega
      have t2 : n + 1 + r.length = n + (r.length + 1) := by omega
      show Q ⟨⟩ { s with heap := h'', toks := s.toks + 1 + r.length }
      rw [t1]
      refine h h'' ?_ (fun b hb => (ho' b hb).trans (ho b hb)) (hz'.trans hz)
      rw [t2, List.append_assoc] at hD''
      exact hD''
def inr2 (ex : List (Str × Value)) : List (Key × Value) := ex.map fun x => (Sum.inr x.1, x.2)
theorem kwEs_mix : ∀ (ex : List (Str × Value)) (t : Tok), Pairs (mixKind prog w) (kwEs w.params t ex) (inr2 ex)
  | [], _ => Pairs.nil
  | x :: r, t => Pairs.cons (mixKind_str prog w x.1 t) rfl (kwEs_mix r (t + 1))
theorem kw_isDict {ex : List (Str × Value)} (t : Tok) (n : Nat) (hn : (ex.map (·.1)).Nodup) : (dictOf (kwEs w.params t ex) n).IsDictOf (mixKind prog w) (inr2 ex) :=
  ⟨(kwEs w.params t ex).toArray, n, ⟨rfl, rfl, rfl⟩, rfl, fun e he => by
    obtain ⟨k, u, hk, hh⟩ := kwEs_key ex t e (List.mem_toArray.mp he)
    exact ⟨.inr k, by rw [hk]; exact mixKind_str prog w k u, hh.trans rfl⟩, kwEs_mix ex t, by
    unfold inr2
    rw [List.map_map]
    have : ((fun x : Key × Value => x.1) ∘ fun x : Str × Value => ((Sum.inr x.1, x.2) : Key × Value)) = (Sum.inr : Str → Key) ∘ fun x : Str × Value => x.1 := rfl
    rw [this, ← List.map_map]
    exact List.Pairwise.map (Sum.inr : Str → Key) (fun a b (hne : a ≠ b) e => hne (Sum.inr.inj e)) hn⟩
end
section
variable {P : Program} {w : World} {K : PySem.W.Frag} {mg : Str → Option Value} {base : Heap} {A : Around} {outer : List Env} {s : Shared} {H : Hp}
theorem env0_laid' {h' : Heap} {tk : Nat} {u : HO} (e0 : Env0 P w K mg base A outer s H) (kp : ∀ b x, s.heap.get? b = some x → h'.get? b = some x) (hz : s.heap.objs.size ≤ h'.objs.size) (new : ObjOk P w (upd H s.heap.objs.size u) h' s.heap.objs.size u) :
    Env0 P w K mg base A outer { s with heap := h', toks := tk } (upd H s.heap.objs.size u) := by
  refine ⟨e0.frames, e0.mod, fun b x e => ⟨kp b x (e0.bs b x e).1, ?_⟩, ?_, Heap.FunFrames.of_keeps (fun b x e _ => ⟨x, kp b x e, rfl⟩) e0.funs, fun b hb => ?_, e0.hok.laid kp (Nat.le_refl _) new, e0.bare⟩
  · rw [upd_ne (Nat.ne_of_lt (Heap.lt_size (e0.bs b x e).1))]
    exact (e0.bs b x e).2
  · show base.objs.size ≤ h'.objs.size
    exact Nat.le_trans e0.bsz hz
  · obtain ⟨_, x, hx, _⟩ := e0.funs.mem hb
    rw [upd_ne (Nat.ne_of_lt (Heap.lt_size hx))]
    exact e0.frf b hb
end
def kwV (ks : List Str) (zs : List V) : List (Key × V) := (ks.map Sum.inr).zip zs
def kwD (ks : List Str) (zs : List D) : List (Key × D) := (ks.map Sum.inr).zip zs
theorem kw_rep {K : PySem.W.Frag} {ι : List Addr} {H : Hp} : ∀ (ks : List Str) {ds : List D} {vs : List V}, RepL K ι H ds vs → RepK K ι H (kwD ks ds) (kwV ks vs)
  | [], _, _, _ => by show RepK K ι H [] []; rw [RepK]
  | k :: ks, [], _, h => by rw [RepL] at h; subst h; show RepK K ι H [] []; rw [RepK]
  | k :: ks, d :: ds, _, h => by
    rw [RepL] at h
    obtain ⟨v, r, rfl, a, b⟩ := h
    show RepK K ι H ((Sum.inr k, d) :: kwD ks ds) _
    rw [RepK]
    exact ⟨v, kwV ks r, rfl, a, kw_rep ks b⟩
theorem kw_kv : ∀ (ks : List Str) {zs : List V} {ws : List Value}, Vals zs ws → KV (kwV ks zs) (inr2 (ks.zip ws))
  | [], _, _, _ => .nil
  | k :: ks, _, _, .nil => .nil
  | k :: ks, _, _, .cons r t => .cons ⟨rfl, r⟩ (kw_kv ks t)
theorem kw_names {ks : List Str} {ws : List Value} (h : ws.length = ks.length) : (ks.zip ws).map (·.1) = ks := by
  rw [List.map_fst_zip]
  omega
section
variable {gd : Bool} {P : Program} {w : World} {K : PySem.W.Frag} {mg : Str → Option Value} {base : Heap} {k : Nat} {f : Addr} {fd : FuncData} {N : List Str}
/-- what def f(a, **kw) does for given names -/
noncomputable def fnKw (cl : Sto → D → Sto → R D) (n : Nat) (ks : List Str) (B : Ev → Sto → SR) : Fn := fun ds S => match ds with
  | r :: zs => if zs.length = ks.length then fnC cl n 2 B [r, .loc S.length] (S ++ [.dtt (kwD ks zs)]) else .stuck
  | [] => .stuck
theorem fnKw_of {x qual p0 pk : Str} {st : Stmt} {ks : List Str} {cl : Sto → D → Sto → R D} {B : Ev → Sto → SR} {fd : FuncData} (F : Fun K x qual st f fd) (sc : FnScope N [p0, pk] (defScope st)) (hcl : ClOk cl) (hks : ks.Nodup) (hk15 : ks.length ≤ 15)
    (hb : ∀ (kV doc pm : Value) (an : Option Addr) (cdv ct u : Value) (ws : List Value), ws.length = ks.length → bindArgs (PySem.W.fnOf x qual (defArgs st) (defBody st) (defScope st) .none kV doc pm an cdv ct) ⟨[u], ks.zip ws⟩ =
      ((alloc (dictOf [] 0) : Sem Addr) >>= fun D => (forIn (ks.zip ws) PUnit.unit fun x _ => (nsSet D x.1 x.2 >>= fun _ => pure (ForInStep.yield PUnit.unit))) >>= fun _ => pure [(p0, u), (pk, Value.ref D)]))
    (hbody : ∀ (cdv : Value) (A : Around) (outer : List Env) (s : Shared) (H : Hp) (E : XK), Room k (A.deeper (envOfC qual (defScope st) s.heap.objs.size f cdv)) → (gd = true → A.guards = some []) →
      Takes (cxOf (L2.CX P w) P w K mg base N qual (defScope st) f cdv A outer s H E) (fun cls d _ H' => E cls d H') →
      PassesOwn (model P w) (A.deeper (envOfC qual (defScope st) s.heap.objs.size f cdv)) (envOfC qual (defScope st) s.heap.objs.size f cdv) (cxOf (L2.CX P w) P w K mg base N qual (defScope st) f cdv A outer s H E).xe →
      DSs (cxOf (L2.CX P w) P w K mg base N qual (defScope st) f cdv A outer s H E) (fun cls d _ H' => E cls d H') (defBody st) B) :
    FnK gd P w K mg base (k + 1) f ks (fnKw cl N.length ks B) := by
  intro A outer s H us ws vs zs Q E hr hgd e0 rv rw_ hw ⟨ι, S, ds, rl, hS, h⟩
  obtain ⟨oc, od, kV, doc, pm, an, cdv, ct, osl, efd, lk, hcd⟩ := F.ex
  rw [efd] at lk
  cases ds with
  | nil => exact h.elim
  | cons d0 dz =>
    replace h : PostX K E ι H (if dz.length = ks.length then fnC cl N.length 2 B [d0, .loc S.length] (S ++ [.dtt (kwD ks dz)]) else .stuck) Q := h
    by_cases hz : dz.length = ks.length
    · rw [if_pos hz] at h
      have hzl : zs.length = ks.length := by rw [← hw]; exact rw_.length
      have hlen : (vs ++ zs).length = 1 + ks.length := by rw [← RepL.length _ _ rl, List.length_cons, hz]; omega
      have hv1 : vs.length = 1 := by rw [List.length_append, hzl] at hlen; omega
      obtain ⟨v0, rfl⟩ : ∃ v0, vs = [v0] := List.length_eq_one_iff.mp hv1
      have hu1 : us.length = 1 := by rw [← rv.length]; rfl
      obtain ⟨u0, rfl⟩ : ∃ u0, us = [u0] := List.length_eq_one_iff.mp hu1
      obtain ⟨rl0, rlz⟩ : RepV K ι H d0 v0 ∧ RepL K ι H dz zs := by
        rw [List.singleton_append, RepL] at rl
        obtain ⟨v, r, e, a, b⟩ := rl
        cases e
        exact ⟨a, b⟩
      have hn : H s.heap.objs.size = Option.none := e0.hok.fresh (Nat.le_refl _)
      refine StX.run_bnd lk hcd sc hr e0 (G := fun xs H2 => ∃ p od, H p = Option.none ∧ xs = [v0, V.ref p] ∧ H2 = upd H p (.frz od (.dK (kwV ks zs)))) (fun A' Ex Q' hh => ?_) fun s2 H2 xs ⟨p, od2, hp, ex, eH⟩ hr' => ?_
      · rw [hb kV doc pm an cdv ct u0 ws hw]
        refine wpAny_bind (wpAny_alloc (wpAny_bind (kw_fill (ks.zip ws) _ [] 0 (Heap.get?_push_size _ rfl) (fun _ z => nomatch z) (fun _ z => nomatch z) (by rw [kw_names hw]; exact hks) fun h' hD ho hsz => wpAny_pure ?_)))
        have kp : ∀ b o, s.heap.get? b = some o → h'.get? b = some o := fun b o e => by
          rw [ho b (Nat.ne_of_lt (Heap.lt_size e))]
          exact Heap.get?_push_of_some _ e
        have hszl : s.heap.objs.size ≤ h'.objs.size := by
          rw [hsz]
          show s.heap.objs.size ≤ (s.heap.push _).objs.size
          rw [Heap.size_push]; omega
        have isd := kw_isDict (prog := P) (w := w) (ex := ks.zip ws) s.toks (0 + (ks.zip ws).length) (by rw [kw_names hw]; exact hks)
        have dd : h'.DictOf (mixKind P w) s.heap.objs.size (inr2 (ks.zip ws)) := Heap.dictOf_iff.mpr ⟨_, hD, isd⟩
        have kl : (kwV ks zs).length ≤ sizeLine := by
          unfold kwV
          rw [List.length_zip, List.length_map, sizeLine_eq]
          omega
        have new : ObjOk P w (upd H s.heap.objs.size (.frz (dictOf ([] ++ kwEs w.params s.toks (ks.zip ws)) (0 + (ks.zip ws).length)) (.dK (kwV ks zs)))) h' s.heap.objs.size (.frz (dictOf ([] ++ kwEs w.params s.toks (ks.zip ws)) (0 + (ks.zip ws).length)) (.dK (kwV ks zs))) :=
          ⟨hD, dk_new kl (beq_eq_false_iff_ne.mpr (Ne.symm (Nat.ne_of_lt (StX.env0_big e0)))) (kw_kv ks rw_) dd⟩
        have e2 := env0_laid' (tk := s.toks + (ks.zip ws).length) e0 kp hszl new
        have un : Un (frs outer) [] H (upd H s.heap.objs.size (.frz (dictOf ([] ++ kwEs w.params s.toks (ks.zip ws)) (0 + (ks.zip ws).length)) (.dK (kwV ks zs)))) s.heap h' := Un.laid kp (Nat.le_refl _) hn
        exact hh _ _ [v0, V.ref s.heap.objs.size] [u0, Value.ref s.heap.objs.size] e2 un rfl (fun e s' => StX.cxUp outer s H _ _ E e s' un kp rfl) (by
          cases rv with
          | cons r _ => exact .cons r (.cons rfl .nil)) rfl ⟨_, _, hn, rfl, rfl⟩
      · subst ex eH
        have G0 : Grow ι H (ι ++ [p]) (upd H p (.frz od2 (.dK (kwV ks zs)))) := Grow.push hp
        have sm : Sim K (ι ++ [p]) (upd H p (.frz od2 (.dK (kwV ks zs)))) (S ++ [.dtt (kwD ks dz)]) := hS.push hp ⟨od2, kwV ks zs, upd_same, RepK.grow G0 _ _ (kw_rep ks rlz)⟩
        have rl2 : RepL K (ι ++ [p]) (upd H p (.frz od2 (.dK (kwV ks zs)))) [d0, .loc S.length] [v0, .ref p] := RepL.cons (RepV.grow G0 _ _ rl0) (RepL.one (by rw [RepV]; exact ⟨p, by rw [← hS.len]; simp, rfl⟩))
        have sp2 : spD K (fnC cl N.length 2 B) [v0, .ref p] (upd H p (.frz od2 (.dK (kwV ks zs)))) Q E := by
          refine ⟨ι ++ [p], S ++ [.dtt (kwD ks dz)], [d0, .loc S.length], rl2, sm, ?_⟩
          cases hr2 : fnC cl N.length 2 B [d0, .loc S.length] (S ++ [.dtt (kwD ks dz)]) with
          | ok d S' => rw [hr2] at h; exact fun ι' H' v G s' r => h ι' H' v (G0.trans G) s' r
          | er e S' => rw [hr2] at h; exact fun ι' H' cls dd G s' r => h ι' H' cls dd (G0.trans G) s' r
          | stuck => rw [hr2] at h; exact h
        obtain ⟨hl, rd⟩ := body_read (N := N) hcl sp2
        exact ⟨_, hbody cdv A outer s2 _ E hr' hgd (takes_of rfl rfl rfl rfl) (passes_of rfl), rd⟩
    · rw [if_neg hz] at h; exact h.elim
theorem fnD_ofK {F : Fn} (h : FnK gd P w K mg base k f [] F) : FnD gd P w K mg base k f F := by
  intro A outer s H us vs Q E hr hgd e0 rv hsp
  exact h A outer s H us [] vs [] Q E hr hgd e0 rv .nil rfl (by rw [List.append_nil]; exact hsp)
end
section
variable {X : Cx} {W : WX} {gd : Bool} {k : Nat} {x : Str} {f : Addr} {F : Fn} {ks : List Str} {e : Expr} {es : List Expr} {kws : List Keyword} {g gk : Ev → Sto → R (List D)} {p pos : Pos}
def eCallK (n1 : Nat) (F : Fn) (g gk : Ev → Sto → R (List D)) : Ev → Sto → R D := fun ρ S => (g ρ S).bind fun ds S1 => (gk ρ S1).bind fun zs S2 => if zs.length = n1 then F (ds ++ zs) S2 else .stuck
theorem de_callK (hF : FnK gd X.prog X.w X.K X.mg X.base k f ks F) (hr : Room k X.A) (hG : gd = true → X.A.guards = some []) (tk : Takes X W) (hm : X.mg x = some (.ref f)) (hk : PySem.W.keepIn X.K (.ref f) = true) (ha : DA X W (e :: es) g) (hkw : DK X W kws gk) (hg : Gl X x := by rfl) (hdb : (x == ("__debug__" : Str)) = false := by decide)
    (hks : (backToKw pos (keywordEach kws X.env)).filterMap (·.1) = ks := by rfl) (hall : ((backToKw pos (keywordEach kws X.env)).all fun x => x.1.isSome) = true := by rfl)
    (he : starEach (e :: es) X.env = (false, eval e X.env) :: starEach es X.env := by rfl) (hpl : ((backTo pos (starEach (e :: es) X.env)).any (·.1) || (backToKw pos (keywordEach kws X.env)).any (·.1.isNone)) = false := by rfl) : DE X W (.Call (.Name x p) (e :: es) kws pos) (eCallK ks.length F g gk) := by
  refine ⟨fun pins s σ H Q I ⟨ι, ρ, S, hE, hS, h⟩ => ?_⟩
  refine wpAny_Call_Name_kw (ld_glob I hg hm ?_ hdb)
  have rd : rdA X.K W g σ H fun us H2 => rdA X.K W gk σ H2 fun zs H3 => zs.length = ks.length ∧ spD X.K F (us ++ zs) H3 Q (WE W σ) := by
    refine ⟨ι, ρ, S, hE, hS, (Post.bind h).mono fun ds S2 ι2 H2 G2 s2 h2 us rs => ?_⟩
    refine ⟨ι2, ρ, S2, hE.grow G2, s2, (Post.bind h2).mono fun zs S3 ι3 H3 G3 s3 h3 ws rz => ?_⟩
    split at h3
    · rename_i hz
      exact ⟨by rw [← RepL.length _ _ rz]; exact hz, ι3, S3, ds ++ zs, RepL.app _ _ (RepL.grow G3 _ _ rs) _ _ rz, s3, PostX.of h3⟩
    · exact h3.elim
  refine PySem.W.callWith_KW (first := []) (h₀ := X.base) I.ok.mod.kin hk hall (thn (ha.run pos pins s σ H _ I rd) fun us s2 ⟨ws, H2, I2, r, q2⟩ => ?_) hpl he
  refine thn (hkw.run pos pins s2 σ H2 _ I2 q2) fun ks' s3 ⟨zs, H3, I3, r3, hz, q3⟩ => ⟨I3.kIn, ?_⟩
  rw [hks]
  exact run_fnK hF hr hG tk I3 r r3 (by rw [← r3.length]; exact hz) q3
/-- for k in d -/
def keysD (kvs : List (Key × D)) : List D := kvs.map fun q => keyD q.1
def iKeysD (f : Ev → Sto → R D) : Ev → Sto → R Src := fun ρ S => (f ρ S).bind fun d S1 => match d with
  | .loc n => (match S1[n]? with
    | some (.dtt kvs) => .ok (keysD kvs, yes) S1
    | _ => .stuck)
  | _ => .stuck
theorem di_keys {tg e : Expr} {f : Ev → Sto → R D} (he : DE X W e f) : DI X W tg e (iKeysD f) := by
  refine PI.imp (pi_keys he) fun σ H Rr ⟨ι, ρ, S, hE, hS, q⟩ => ⟨ι, ρ, S, hE, hS, (Post.bind q).mono fun d S1 ι1 H1 G1 s1 h1 v rv => ?_⟩
  cases d with
  | loc n =>
    dsimp only at h1
    cases hq : S1[n]? with
    | none => rw [hq] at h1; exact h1.elim
    | some o =>
      rw [hq] at h1
      cases o with
      | dtt kvs =>
        rw [RepV] at rv
        obtain ⟨a, ea, rfl⟩ := rv
        obtain ⟨od, ks, h3, h4⟩ := s1.ob _ _ _ ea hq
        refine ⟨a, od, rfl, .inl ⟨ks, h3, h1.here s1 _ fun ι2 H2 S2 G2 s2 _ => ?_⟩⟩
        have h5 := G2.frz _ _ _ h3
        obtain ⟨hl, hat⟩ := RepK.at (RepK.grow G2 _ _ h4)
        refine ⟨fun i hi => ⟨h5, by unfold keysD at hi; rw [List.length_map] at hi; omega⟩, fun i d hd => ?_⟩
        unfold keysD at hd
        rw [List.getElem?_map] at hd
        obtain ⟨p, hp, rfl⟩ := Option.map_eq_some_iff.mp hd
        obtain ⟨v, hv, rv⟩ := hat i p hp
        refine ⟨⟨h5, (List.getElem?_eq_some_iff.mp hv).1⟩, fun x H3 hy => ?_⟩
        obtain ⟨rfl, k, w, e1, rfl⟩ := hy
        rw [hv] at e1
        cases e1
        exact ⟨Grow.refl _ _, s2, rep_key _⟩
      | _ => exact h1.elim
  | _ => exact h1.elim
end
end DL
namespace DL
open PySem PySem.Spec L2 GenW
open PyProof.Rows hiding St
open Sem (wp)
end DL
namespace DL
open PySem PySem.Spec L2
open PyProof.Rows hiding St
noncomputable def B_check_place : Ev → Sto → SR :=
  (sIf (eNot (eT (eCall F_is_integer (aCons (eVar 1) (aCons (eC (.int 0)) (aCons (eOp dSub (eCall bLen (aCons (eVar 0) aNil)) (eC (.int 1))) aNil)))))) (sRaise1 "NoPlace" "value" (aCons (eVar 1) aNil)) sNil)
noncomputable def F_check_place : Fn := fnC close 2 2 B_check_place
noncomputable def B_turned : Ev → Sto → SR :=
  (sSeq (sExp (eCall F_check_place (aCons (eVar 0) (aCons (eVar 1) aNil))))
    (sRet (eTup (aStar (eSl mkFl (eVar 0) (oSome (eVar 1)) oNone) (aStar (eSl mkFl (eVar 0) oNone (oSome (eVar 1))) aNil)))))
noncomputable def F_turned : Fn := fnC close 2 2 B_turned
noncomputable def B_need : Ev → Sto → SR :=
  (sRet (eCall F_need_of (aCons (eCall F_turned (aCons (eVar 0) (aCons (eVar 1) aNil))) aNil)))
noncomputable def F_need : Fn := fnC close 2 2 B_need
theorem srcOf_tup (ds : List D) (S : Sto) : srcOf (.tup ds) S = .ok (ds, yes) S := rfl
theorem srcOf_fl (ds : List D) (S : Sto) : srcOf (.fl ds) S = .ok (ds, yes) S := rfl
theorem srcOf_kl (ds : List D) (S : Sto) : srcOf (.kl ds) S = .ok (ds, yes) S := rfl
theorem srcOf_ti (l : List Int) (S : Sto) : srcOf (ti l) S = .ok (l.map D.int, yes) S := rfl
theorem forD_pure {T : Tg} {B Z : Ev → Sto → SR} {S : Sto} (I : Ev → Prop) : ∀ (ds : List D) (ρ : Ev), I ρ → (∀ d ∈ ds, ∀ ρ, I ρ → ∃ ρ1 ρ2, T d ρ S = some (ρ1, S) ∧ (B ρ1 S = .nx ρ2 S ∨ B ρ1 S = .ct ρ2 S) ∧ I ρ2) →
    ∃ ρ', I ρ' ∧ forD yes T B Z ds ρ S = Z ρ' S
  | [], ρ, h, _ => ⟨ρ, h, forD_nil trivial⟩
  | d :: ds, ρ, h, step => by
    obtain ⟨ρ1, ρ2, hT, hB, h2⟩ := step d List.mem_cons_self ρ h
    obtain ⟨ρ', h3, e⟩ := forD_pure I ds ρ2 h2 fun d' hd => step d' (List.mem_cons_of_mem _ hd)
    refine ⟨ρ', h3, ?_⟩
    rw [forD, if_pos (show yes S from trivial), hT]
    rcases hB with hB | hB <;> (simp only [hB]; exact e)
theorem forD_strm {T : Tg} {B Z : Ev → Sto → SR} {rest : Sto} (I : Ev → Prop) (cost : Nat) : ∀ (ds : List D) (ρ : Ev) (S : Sto) (n : Nat), I ρ → Strm S n rest → n + ds.length * cost < 2 ^ 60 →
    (∀ d ∈ ds, ∀ ρ S n, I ρ → Strm S n rest → n + cost < 2 ^ 60 → ∃ ρ1 ρ2 S2, T d ρ S = some (ρ1, S) ∧ (B ρ1 S = .nx ρ2 S2 ∨ B ρ1 S = .ct ρ2 S2) ∧ I ρ2 ∧ Strm S2 (n + cost) rest) →
    ∃ ρ' S', I ρ' ∧ Strm S' (n + ds.length * cost) rest ∧ forD yes T B Z ds ρ S = Z ρ' S'
  | [], ρ, S, n, h, hs, _, _ => ⟨ρ, S, h, by simpa using hs, forD_nil trivial⟩
  | d :: ds, ρ, S, n, h, hs, hn, step => by
    have e1 : n + (d :: ds).length * cost = n + cost + ds.length * cost := by simp [Nat.add_mul]; omega
    rw [e1] at hn ⊢
    obtain ⟨ρ1, ρ2, S2, hT, hB, h2, s2⟩ := step d List.mem_cons_self ρ S n h hs (by omega)
    obtain ⟨ρ', S', h3, s3, e⟩ := forD_strm I cost ds ρ2 S2 (n + cost) h2 s2 hn fun d' hd => step d' (List.mem_cons_of_mem _ hd)
    refine ⟨ρ', S', h3, s3, ?_⟩
    rw [forD, if_pos (show yes S from trivial), hT]
    rcases hB with hB | hB <;> (simp only [hB]; exact e)
theorem fnC_er {n m : Nat} {B : Ev → Sto → SR} {ds : List D} {S S' : Sto} {ρ : Ev} {e : Ex} (hm : ds.length = m) (h : B (startD n ds) S = .er e ρ S') (hc : S'.length = S.length) : fnC close n m B ds S = .er e S' := by
  unfold fnC
  rw [if_pos hm, h]
  show closeE S e S' = _
  unfold closeE
  rw [if_pos hc]
theorem fnC_nx {n m : Nat} {B : Ev → Sto → SR} {ds : List D} {S S' : Sto} {ρ : Ev} (hm : ds.length = m) (h : B (startD n ds) S = .nx ρ S') (hc : S'.length = S.length) : fnC close n m B ds S = .ok .non S' := by
  unfold fnC
  rw [if_pos hm, h]
  exact close_same hc
def pl : D → Bool
  | .non => true
  | .bl _ => true
  | .int _ => true
  | .str _ => true
  | .tup _ => true
  | .fl _ => true
  | .fd _ => true
  | _ => false
def isI (v : D) (lo hi : Int) : Bool := match v with
  | .int i => decide (lo ≤ i ∧ i ≤ hi)
  | _ => false
theorem kt1 : kitB "NoneType" "int" = some false := by decide +kernel
theorem kt2 : kitB "bool" "int" = some true := by decide +kernel
theorem kt3 : kitB "int" "int" = some true := by decide +kernel
theorem kt4 : kitB "str" "int" = some false := by decide +kernel
theorem kt5 : kitB "tuple" "int" = some false := by decide +kernel
theorem kt6 : kitB "list" "int" = some false := by decide +kernel
theorem kt7 : kitB "dict" "int" = some false := by decide +kernel
theorem ku2 : kitB "bool" "bool" = some true := by decide +kernel
theorem ku3 : kitB "int" "bool" = some false := by decide +kernel
def isInt0 : D → Bool
  | .int _ => true
  | .bl _ => true
  | _ => false
def isBl : D → Bool
  | .bl _ => true
  | _ => false
theorem isi_int {v : D} (h : pl v = true) (S : Sto) : bIsi [v, .ty "int"] S = .ok (.bl (isInt0 v)) S := by
  cases v <;> first | (simp [pl] at h; done) | (simp only [bIsi, tyOf, kt1, kt2, kt3, kt4, kt5, kt6, kt7, isInt0])
theorem isi_bool {v : D} (h : isInt0 v = true) (S : Sto) : bIsi [v, .ty "bool"] S = .ok (.bl (isBl v)) S := by
  cases v <;> first | (simp [isInt0] at h; done) | (simp only [bIsi, tyOf, ku2, ku3, isBl])
theorem is_int_any {v : D} (h : pl v = true) (lo hi : Int) (S : Sto) : F_is_integer [v, .int lo, .int hi] S = .ok (.bl (isI v lo hi)) S := by
  refine fnC_rt rfl ?_ rfl
  unfold B_is_integer
  cases v with
  | int i =>
    have h1 := isi_int (v := .int i) rfl S
    have h2 := isi_bool (v := .int i) rfl S
    by_cases h3 : lo ≤ i
    · by_cases h4 : i ≤ hi
      · simp only [eVar, eC, eOp, eT, eAnd, eOr, eNot, eIf, eAndV, eOrV, eNotV, eCall, aNil, aCons, aStar, sOf, eTup, eFl, eLoc, eSl, oNone, oSome, iOf, eNeg, eChain, eMt, bOf, eDict0, eRev, eListRg, iZipD, sRaise1, sRaise0, eCallV, List.lookup, R.bind_ok, R.bind_er, R.bind_stuck, R.toS_ok, R.toS_er, R.toS_stuck, SR.next_nx, SR.next_rt, SR.next_er, SR.next_bk, SR.next_ct, SR.next_stuck, sNil, sSeq, sBrk, sCnt, sExp, sRet, sRetN, sIf, sSet, sAsg, sAug, sPar2, sPar3, tN, DL.tTup, DL.tNil, DL.tCons, DL.tSub, iSeq, srcOf, iRange1, iRange2, sFor, startD, List.map_cons, List.map_nil, List.length_cons, List.length_nil, List.replicate, List.cons_append, List.nil_append, List.getElem?_cons_zero, List.getElem?_cons_succ, List.set_cons_zero, List.set_cons_succ, dSub_int, dFdiv_int, dMod_int, dLt_int, dLe_int, dGt_int, dGe_int, dAddI_int, dSubI_int, dIsN_non, isN, dAdd_int, ll0, ll1, ll2, ll3, ll4, ll5, ll6, ll7, ll8, ll9, ll10, ll11, ll12, ll13, ll14, ll15, ll16, ll17, ll18, ll19, ll20, ll21, ll22, ll23, ll24, ll25, ll26, ll27, ll28, ll29, ll30, ll31, ll32, ll33, ll34, ll35, ll36, ll37, ll38, ll39, ll40, Nat.reduceSub, Nat.reduceAdd, Nat.reduceEqDiff, if_true, if_false, ifp_t, ifp_f, reduceIte, Bool.true_eq_false, Bool.false_eq_true, Option.map_some, Option.map_none, Option.bind_some, Option.bind_none, h1, h2, isInt0, isBl, h3, h4, decide_true, Bool.not_false, isI, and_self]
      · simp only [eVar, eC, eOp, eT, eAnd, eOr, eNot, eIf, eAndV, eOrV, eNotV, eCall, aNil, aCons, aStar, sOf, eTup, eFl, eLoc, eSl, oNone, oSome, iOf, eNeg, eChain, eMt, bOf, eDict0, eRev, eListRg, iZipD, sRaise1, sRaise0, eCallV, List.lookup, R.bind_ok, R.bind_er, R.bind_stuck, R.toS_ok, R.toS_er, R.toS_stuck, SR.next_nx, SR.next_rt, SR.next_er, SR.next_bk, SR.next_ct, SR.next_stuck, sNil, sSeq, sBrk, sCnt, sExp, sRet, sRetN, sIf, sSet, sAsg, sAug, sPar2, sPar3, tN, DL.tTup, DL.tNil, DL.tCons, DL.tSub, iSeq, srcOf, iRange1, iRange2, sFor, startD, List.map_cons, List.map_nil, List.length_cons, List.length_nil, List.replicate, List.cons_append, List.nil_append, List.getElem?_cons_zero, List.getElem?_cons_succ, List.set_cons_zero, List.set_cons_succ, dSub_int, dFdiv_int, dMod_int, dLt_int, dLe_int, dGt_int, dGe_int, dAddI_int, dSubI_int, dIsN_non, isN, dAdd_int, ll0, ll1, ll2, ll3, ll4, ll5, ll6, ll7, ll8, ll9, ll10, ll11, ll12, ll13, ll14, ll15, ll16, ll17, ll18, ll19, ll20, ll21, ll22, ll23, ll24, ll25, ll26, ll27, ll28, ll29, ll30, ll31, ll32, ll33, ll34, ll35, ll36, ll37, ll38, ll39, ll40, Nat.reduceSub, Nat.reduceAdd, Nat.reduceEqDiff, if_true, if_false, ifp_t, ifp_f, reduceIte, Bool.true_eq_false, Bool.false_eq_true, Option.map_some, Option.map_none, Option.bind_some, Option.bind_none, h1, h2, isInt0, isBl, h3, h4, decide_true, decide_false, Bool.not_false, isI, and_false]
    · simp only [eVar, eC, eOp, eT, eAnd, eOr, eNot, eIf, eAndV, eOrV, eNotV, eCall, aNil, aCons, aStar, sOf, eTup, eFl, eLoc, eSl, oNone, oSome, iOf, eNeg, eChain, eMt, bOf, eDict0, eRev, eListRg, iZipD, sRaise1, sRaise0, eCallV, List.lookup, R.bind_ok, R.bind_er, R.bind_stuck, R.toS_ok, R.toS_er, R.toS_stuck, SR.next_nx, SR.next_rt, SR.next_er, SR.next_bk, SR.next_ct, SR.next_stuck, sNil, sSeq, sBrk, sCnt, sExp, sRet, sRetN, sIf, sSet, sAsg, sAug, sPar2, sPar3, tN, DL.tTup, DL.tNil, DL.tCons, DL.tSub, iSeq, srcOf, iRange1, iRange2, sFor, startD, List.map_cons, List.map_nil, List.length_cons, List.length_nil, List.replicate, List.cons_append, List.nil_append, List.getElem?_cons_zero, List.getElem?_cons_succ, List.set_cons_zero, List.set_cons_succ, dSub_int, dFdiv_int, dMod_int, dLt_int, dLe_int, dGt_int, dGe_int, dAddI_int, dSubI_int, dIsN_non, isN, dAdd_int, ll0, ll1, ll2, ll3, ll4, ll5, ll6, ll7, ll8, ll9, ll10, ll11, ll12, ll13, ll14, ll15, ll16, ll17, ll18, ll19, ll20, ll21, ll22, ll23, ll24, ll25, ll26, ll27, ll28, ll29, ll30, ll31, ll32, ll33, ll34, ll35, ll36, ll37, ll38, ll39, ll40, Nat.reduceSub, Nat.reduceAdd, Nat.reduceEqDiff, if_true, if_false, ifp_t, ifp_f, reduceIte, Bool.true_eq_false, Bool.false_eq_true, Option.map_some, Option.map_none, Option.bind_some, Option.bind_none, h1, h2, isInt0, isBl, h3, decide_false, Bool.not_false, isI, false_and]
  | bl b =>
    have h1 := isi_int (v := .bl b) rfl S
    have h2 := isi_bool (v := .bl b) rfl S
    simp only [eVar, eC, eOp, eT, eAnd, eOr, eNot, eIf, eAndV, eOrV, eNotV, eCall, aNil, aCons, aStar, sOf, eTup, eFl, eLoc, eSl, oNone, oSome, iOf, eNeg, eChain, eMt, bOf, eDict0, eRev, eListRg, iZipD, sRaise1, sRaise0, eCallV, List.lookup, R.bind_ok, R.bind_er, R.bind_stuck, R.toS_ok, R.toS_er, R.toS_stuck, SR.next_nx, SR.next_rt, SR.next_er, SR.next_bk, SR.next_ct, SR.next_stuck, sNil, sSeq, sBrk, sCnt, sExp, sRet, sRetN, sIf, sSet, sAsg, sAug, sPar2, sPar3, tN, DL.tTup, DL.tNil, DL.tCons, DL.tSub, iSeq, srcOf, iRange1, iRange2, sFor, startD, List.map_cons, List.map_nil, List.length_cons, List.length_nil, List.replicate, List.cons_append, List.nil_append, List.getElem?_cons_zero, List.getElem?_cons_succ, List.set_cons_zero, List.set_cons_succ, dSub_int, dFdiv_int, dMod_int, dLt_int, dLe_int, dGt_int, dGe_int, dAddI_int, dSubI_int, dIsN_non, isN, dAdd_int, ll0, ll1, ll2, ll3, ll4, ll5, ll6, ll7, ll8, ll9, ll10, ll11, ll12, ll13, ll14, ll15, ll16, ll17, ll18, ll19, ll20, ll21, ll22, ll23, ll24, ll25, ll26, ll27, ll28, ll29, ll30, ll31, ll32, ll33, ll34, ll35, ll36, ll37, ll38, ll39, ll40, Nat.reduceSub, Nat.reduceAdd, Nat.reduceEqDiff, if_true, if_false, ifp_t, ifp_f, reduceIte, Bool.true_eq_false, Bool.false_eq_true, Option.map_some, Option.map_none, Option.bind_some, Option.bind_none, h1, h2, isInt0, isBl, Bool.not_true, isI]
  | non => simp only [eVar, eC, eOp, eT, eAnd, eOr, eNot, eIf, eAndV, eOrV, eNotV, eCall, aNil, aCons, aStar, sOf, eTup, eFl, eLoc, eSl, oNone, oSome, iOf, eNeg, eChain, eMt, bOf, eDict0, eRev, eListRg, iZipD, sRaise1, sRaise0, eCallV, List.lookup, R.bind_ok, R.bind_er, R.bind_stuck, R.toS_ok, R.toS_er, R.toS_stuck, SR.next_nx, SR.next_rt, SR.next_er, SR.next_bk, SR.next_ct, SR.next_stuck, sNil, sSeq, sBrk, sCnt, sExp, sRet, sRetN, sIf, sSet, sAsg, sAug, sPar2, sPar3, tN, DL.tTup, DL.tNil, DL.tCons, DL.tSub, iSeq, srcOf, iRange1, iRange2, sFor, startD, List.map_cons, List.map_nil, List.length_cons, List.length_nil, List.replicate, List.cons_append, List.nil_append, List.getElem?_cons_zero, List.getElem?_cons_succ, List.set_cons_zero, List.set_cons_succ, dSub_int, dFdiv_int, dMod_int, dLt_int, dLe_int, dGt_int, dGe_int, dAddI_int, dSubI_int, dIsN_non, isN, dAdd_int, ll0, ll1, ll2, ll3, ll4, ll5, ll6, ll7, ll8, ll9, ll10, ll11, ll12, ll13, ll14, ll15, ll16, ll17, ll18, ll19, ll20, ll21, ll22, ll23, ll24, ll25, ll26, ll27, ll28, ll29, ll30, ll31, ll32, ll33, ll34, ll35, ll36, ll37, ll38, ll39, ll40, Nat.reduceSub, Nat.reduceAdd, Nat.reduceEqDiff, if_true, if_false, ifp_t, ifp_f, reduceIte, Bool.true_eq_false, Bool.false_eq_true, Option.map_some, Option.map_none, Option.bind_some, Option.bind_none, isi_int (v := .non) rfl, isInt0, isI]
  | str x => simp only [eVar, eC, eOp, eT, eAnd, eOr, eNot, eIf, eAndV, eOrV, eNotV, eCall, aNil, aCons, aStar, sOf, eTup, eFl, eLoc, eSl, oNone, oSome, iOf, eNeg, eChain, eMt, bOf, eDict0, eRev, eListRg, iZipD, sRaise1, sRaise0, eCallV, List.lookup, R.bind_ok, R.bind_er, R.bind_stuck, R.toS_ok, R.toS_er, R.toS_stuck, SR.next_nx, SR.next_rt, SR.next_er, SR.next_bk, SR.next_ct, SR.next_stuck, sNil, sSeq, sBrk, sCnt, sExp, sRet, sRetN, sIf, sSet, sAsg, sAug, sPar2, sPar3, tN, DL.tTup, DL.tNil, DL.tCons, DL.tSub, iSeq, srcOf, iRange1, iRange2, sFor, startD, List.map_cons, List.map_nil, List.length_cons, List.length_nil, List.replicate, List.cons_append, List.nil_append, List.getElem?_cons_zero, List.getElem?_cons_succ, List.set_cons_zero, List.set_cons_succ, dSub_int, dFdiv_int, dMod_int, dLt_int, dLe_int, dGt_int, dGe_int, dAddI_int, dSubI_int, dIsN_non, isN, dAdd_int, ll0, ll1, ll2, ll3, ll4, ll5, ll6, ll7, ll8, ll9, ll10, ll11, ll12, ll13, ll14, ll15, ll16, ll17, ll18, ll19, ll20, ll21, ll22, ll23, ll24, ll25, ll26, ll27, ll28, ll29, ll30, ll31, ll32, ll33, ll34, ll35, ll36, ll37, ll38, ll39, ll40, Nat.reduceSub, Nat.reduceAdd, Nat.reduceEqDiff, if_true, if_false, ifp_t, ifp_f, reduceIte, Bool.true_eq_false, Bool.false_eq_true, Option.map_some, Option.map_none, Option.bind_some, Option.bind_none, isi_int (v := .str x) rfl, isInt0, isI]
  | tup x => simp only [eVar, eC, eOp, eT, eAnd, eOr, eNot, eIf, eAndV, eOrV, eNotV, eCall, aNil, aCons, aStar, sOf, eTup, eFl, eLoc, eSl, oNone, oSome, iOf, eNeg, eChain, eMt, bOf, eDict0, eRev, eListRg, iZipD, sRaise1, sRaise0, eCallV, List.lookup, R.bind_ok, R.bind_er, R.bind_stuck, R.toS_ok, R.toS_er, R.toS_stuck, SR.next_nx, SR.next_rt, SR.next_er, SR.next_bk, SR.next_ct, SR.next_stuck, sNil, sSeq, sBrk, sCnt, sExp, sRet, sRetN, sIf, sSet, sAsg, sAug, sPar2, sPar3, tN, DL.tTup, DL.tNil, DL.tCons, DL.tSub, iSeq, srcOf, iRange1, iRange2, sFor, startD, List.map_cons, List.map_nil, List.length_cons, List.length_nil, List.replicate, List.cons_append, List.nil_append, List.getElem?_cons_zero, List.getElem?_cons_succ, List.set_cons_zero, List.set_cons_succ, dSub_int, dFdiv_int, dMod_int, dLt_int, dLe_int, dGt_int, dGe_int, dAddI_int, dSubI_int, dIsN_non, isN, dAdd_int, ll0, ll1, ll2, ll3, ll4, ll5, ll6, ll7, ll8, ll9, ll10, ll11, ll12, ll13, ll14, ll15, ll16, ll17, ll18, ll19, ll20, ll21, ll22, ll23, ll24, ll25, ll26, ll27, ll28, ll29, ll30, ll31, ll32, ll33, ll34, ll35, ll36, ll37, ll38, ll39, ll40, Nat.reduceSub, Nat.reduceAdd, Nat.reduceEqDiff, if_true, if_false, ifp_t, ifp_f, reduceIte, Bool.true_eq_false, Bool.false_eq_true, Option.map_some, Option.map_none, Option.bind_some, Option.bind_none, isi_int (v := .tup x) rfl, isInt0, isI]
  | fl x => simp only [eVar, eC, eOp, eT, eAnd, eOr, eNot, eIf, eAndV, eOrV, eNotV, eCall, aNil, aCons, aStar, sOf, eTup, eFl, eLoc, eSl, oNone, oSome, iOf, eNeg, eChain, eMt, bOf, eDict0, eRev, eListRg, iZipD, sRaise1, sRaise0, eCallV, List.lookup, R.bind_ok, R.bind_er, R.bind_stuck, R.toS_ok, R.toS_er, R.toS_stuck, SR.next_nx, SR.next_rt, SR.next_er, SR.next_bk, SR.next_ct, SR.next_stuck, sNil, sSeq, sBrk, sCnt, sExp, sRet, sRetN, sIf, sSet, sAsg, sAug, sPar2, sPar3, tN, DL.tTup, DL.tNil, DL.tCons, DL.tSub, iSeq, srcOf, iRange1, iRange2, sFor, startD, List.map_cons, List.map_nil, List.length_cons, List.length_nil, List.replicate, List.cons_append, List.nil_append, List.getElem?_cons_zero, List.getElem?_cons_succ, List.set_cons_zero, List.set_cons_succ, dSub_int, dFdiv_int, dMod_int, dLt_int, dLe_int, dGt_int, dGe_int, dAddI_int, dSubI_int, dIsN_non, isN, dAdd_int, ll0, ll1, ll2, ll3, ll4, ll5, ll6, ll7, ll8, ll9, ll10, ll11, ll12, ll13, ll14, ll15, ll16, ll17, ll18, ll19, ll20, ll21, ll22, ll23, ll24, ll25, ll26, ll27, ll28, ll29, ll30, ll31, ll32, ll33, ll34, ll35, ll36, ll37, ll38, ll39, ll40, Nat.reduceSub, Nat.reduceAdd, Nat.reduceEqDiff, if_true, if_false, ifp_t, ifp_f, reduceIte, Bool.true_eq_false, Bool.false_eq_true, Option.map_some, Option.map_none, Option.bind_some, Option.bind_none, isi_int (v := .fl x) rfl, isInt0, isI]
  | fd x => simp only [eVar, eC, eOp, eT, eAnd, eOr, eNot, eIf, eAndV, eOrV, eNotV, eCall, aNil, aCons, aStar, sOf, eTup, eFl, eLoc, eSl, oNone, oSome, iOf, eNeg, eChain, eMt, bOf, eDict0, eRev, eListRg, iZipD, sRaise1, sRaise0, eCallV, List.lookup, R.bind_ok, R.bind_er, R.bind_stuck, R.toS_ok, R.toS_er, R.toS_stuck, SR.next_nx, SR.next_rt, SR.next_er, SR.next_bk, SR.next_ct, SR.next_stuck, sNil, sSeq, sBrk, sCnt, sExp, sRet, sRetN, sIf, sSet, sAsg, sAug, sPar2, sPar3, tN, DL.tTup, DL.tNil, DL.tCons, DL.tSub, iSeq, srcOf, iRange1, iRange2, sFor, startD, List.map_cons, List.map_nil, List.length_cons, List.length_nil, List.replicate, List.cons_append, List.nil_append, List.getElem?_cons_zero, List.getElem?_cons_succ, List.set_cons_zero, List.set_cons_succ, dSub_int, dFdiv_int, dMod_int, dLt_int, dLe_int, dGt_int, dGe_int, dAddI_int, dSubI_int, dIsN_non, isN, dAdd_int, ll0, ll1, ll2, ll3, ll4, ll5, ll6, ll7, ll8, ll9, ll10, ll11, ll12, ll13, ll14, ll15, ll16, ll17, ll18, ll19, ll20, ll21, ll22, ll23, ll24, ll25, ll26, ll27, ll28, ll29, ll30, ll31, ll32, ll33, ll34, ll35, ll36, ll37, ll38, ll39, ll40, Nat.reduceSub, Nat.reduceAdd, Nat.reduceEqDiff, if_true, if_false, ifp_t, ifp_f, reduceIte, Bool.true_eq_false, Bool.false_eq_true, Option.map_some, Option.map_none, Option.bind_some, Option.bind_none, isi_int (v := .fd x) rfl, isInt0, isI]
  | _ => simp [pl] at h
/-- the place that a value is -/
def plc (n : Nat) (v : D) : Option Nat := match v with
  | .int i => if 0 ≤ i ∧ i < n then some i.toNat else none
  | _ => none
def noPlace (v : D) : Ex := ⟨.own "NoPlace", [("value", v)]⟩
theorem plc_int {n p : Nat} (h : p < n) : plc n (.int p) = some p := by
  show (if 0 ≤ (p : Int) ∧ (p : Int) < n then some (p : Int).toNat else none) = some p
  rw [if_pos (by omega)]
  simp
theorem plc_some {n : Nat} {v : D} {p : Nat} (h : plc n v = some p) : v = .int p ∧ p < n := by
  cases v with
  | int i =>
    simp only [plc] at h
    split at h
    · rename_i hh
      cases h
      refine ⟨?_, by omega⟩
      congr 1
      omega
    · cases h
  | _ => cases h
theorem isI_plc (n : Nat) (v : D) : isI v 0 ((n : Int) - 1) = (plc n v).isSome := by
  cases v with
  | int i =>
    simp only [isI, plc]
    by_cases h : 0 ≤ i ∧ i < n
    · rw [if_pos h, decide_eq_true (by omega)]; rfl
    · rw [if_neg h, decide_eq_false (by omega)]; rfl
  | _ => rfl
theorem check_any (l : List Int) {v : D} (h : pl v = true) (S : Sto) : F_check_place [ti l, v] S = (match plc l.length v with
    | some _ => .ok .non S
    | none => .er (noPlace v) S) := by
  have hi := is_int_any h 0 ((l.length : Int) - 1) S
  rw [isI_plc] at hi
  cases e : plc l.length v with
  | some p =>
    rw [e] at hi
    refine fnC_nx rfl (ρ := [some (ti l), some v]) ?_ rfl
    unfold B_check_place
    simp only [eVar, eC, eOp, eT, eAnd, eOr, eNot, eIf, eAndV, eOrV, eNotV, eCall, aNil, aCons, aStar, sOf, eTup, eFl, eLoc, eSl, oNone, oSome, iOf, eNeg, eChain, eMt, bOf, eDict0, eRev, eListRg, iZipD, sRaise1, sRaise0, eCallV, List.lookup, R.bind_ok, R.bind_er, R.bind_stuck, R.toS_ok, R.toS_er, R.toS_stuck, SR.next_nx, SR.next_rt, SR.next_er, SR.next_bk, SR.next_ct, SR.next_stuck, sNil, sSeq, sBrk, sCnt, sExp, sRet, sRetN, sIf, sSet, sAsg, sAug, sPar2, sPar3, tN, DL.tTup, DL.tNil, DL.tCons, DL.tSub, iSeq, srcOf, iRange1, iRange2, sFor, startD, List.map_cons, List.map_nil, List.length_cons, List.length_nil, List.replicate, List.cons_append, List.nil_append, List.getElem?_cons_zero, List.getElem?_cons_succ, List.set_cons_zero, List.set_cons_succ, dSub_int, dFdiv_int, dMod_int, dLt_int, dLe_int, dGt_int, dGe_int, dAddI_int, dSubI_int, dIsN_non, isN, dAdd_int, ll0, ll1, ll2, ll3, ll4, ll5, ll6, ll7, ll8, ll9, ll10, ll11, ll12, ll13, ll14, ll15, ll16, ll17, ll18, ll19, ll20, ll21, ll22, ll23, ll24, ll25, ll26, ll27, ll28, ll29, ll30, ll31, ll32, ll33, ll34, ll35, ll36, ll37, ll38, ll39, ll40, Nat.reduceSub, Nat.reduceAdd, Nat.reduceEqDiff, if_true, if_false, ifp_t, ifp_f, reduceIte, Bool.true_eq_false, Bool.false_eq_true, Option.map_some, Option.map_none, Option.bind_some, Option.bind_none, ti_len, hi, Option.isSome_some, Bool.not_true]
  | none =>
    rw [e] at hi
    refine fnC_er rfl (ρ := [some (ti l), some v]) ?_ rfl
    unfold B_check_place
    simp only [eVar, eC, eOp, eT, eAnd, eOr, eNot, eIf, eAndV, eOrV, eNotV, eCall, aNil, aCons, aStar, sOf, eTup, eFl, eLoc, eSl, oNone, oSome, iOf, eNeg, eChain, eMt, bOf, eDict0, eRev, eListRg, iZipD, sRaise1, sRaise0, eCallV, List.lookup, R.bind_ok, R.bind_er, R.bind_stuck, R.toS_ok, R.toS_er, R.toS_stuck, SR.next_nx, SR.next_rt, SR.next_er, SR.next_bk, SR.next_ct, SR.next_stuck, sNil, sSeq, sBrk, sCnt, sExp, sRet, sRetN, sIf, sSet, sAsg, sAug, sPar2, sPar3, tN, DL.tTup, DL.tNil, DL.tCons, DL.tSub, iSeq, srcOf, iRange1, iRange2, sFor, startD, List.map_cons, List.map_nil, List.length_cons, List.length_nil, List.replicate, List.cons_append, List.nil_append, List.getElem?_cons_zero, List.getElem?_cons_succ, List.set_cons_zero, List.set_cons_succ, dSub_int, dFdiv_int, dMod_int, dLt_int, dLe_int, dGt_int, dGe_int, dAddI_int, dSubI_int, dIsN_non, isN, dAdd_int, ll0, ll1, ll2, ll3, ll4, ll5, ll6, ll7, ll8, ll9, ll10, ll11, ll12, ll13, ll14, ll15, ll16, ll17, ll18, ll19, ll20, ll21, ll22, ll23, ll24, ll25, ll26, ll27, ll28, ll29, ll30, ll31, ll32, ll33, ll34, ll35, ll36, ll37, ll38, ll39, ll40, Nat.reduceSub, Nat.reduceAdd, Nat.reduceEqDiff, if_true, if_false, ifp_t, ifp_f, reduceIte, Bool.true_eq_false, Bool.false_eq_true, Option.map_some, Option.map_none, Option.bind_some, Option.bind_none, ti_len, hi, Option.isSome_none, Bool.not_false]
    rfl
theorem turned_any (l : List Int) {v : D} (h : pl v = true) (hl : l.length < 10 ^ 6) (S : Sto) : F_turned [ti l, v] S = (match plc l.length v with
    | some p => .ok (ti (rot l p)) S
    | none => .er (noPlace v) S) := by
  have hc := check_any l h S
  cases e : plc l.length v with
  | some p =>
    rw [e] at hc
    obtain ⟨rfl, hp⟩ := plc_some e
    refine fnC_rt rfl ?_ rfl
    unfold B_turned
    have so : ∀ (l : List Int) S, seqOf S (ti l) = some (l.map D.int) := fun l S => rfl
    have hlen : ((l.drop p).map D.int ++ (l.take p).map D.int).length ≤ sizeLine := by
      rw [List.length_append, List.length_map, List.length_map, List.length_drop, List.length_take]
      exact Nat.le_trans (show l.length - p + min p l.length ≤ 10 ^ 6 by omega) (by decide)
    simp only [eVar, eC, eOp, eT, eAnd, eOr, eNot, eIf, eAndV, eOrV, eNotV, eCall, aNil, aCons, aStar, sOf, eTup, eFl, eLoc, eSl, oNone, oSome, iOf, eNeg, eChain, eMt, bOf, eDict0, eRev, eListRg, iZipD, sRaise1, sRaise0, eCallV, List.lookup, R.bind_ok, R.bind_er, R.bind_stuck, R.toS_ok, R.toS_er, R.toS_stuck, SR.next_nx, SR.next_rt, SR.next_er, SR.next_bk, SR.next_ct, SR.next_stuck, sNil, sSeq, sBrk, sCnt, sExp, sRet, sRetN, sIf, sSet, sAsg, sAug, sPar2, sPar3, tN, DL.tTup, DL.tNil, DL.tCons, DL.tSub, iSeq, srcOf, iRange1, iRange2, sFor, startD, List.map_cons, List.map_nil, List.length_cons, List.length_nil, List.replicate, List.cons_append, List.nil_append, List.getElem?_cons_zero, List.getElem?_cons_succ, List.set_cons_zero, List.set_cons_succ, dSub_int, dFdiv_int, dMod_int, dLt_int, dLe_int, dGt_int, dGe_int, dAddI_int, dSubI_int, dIsN_non, isN, dAdd_int, ll0, ll1, ll2, ll3, ll4, ll5, ll6, ll7, ll8, ll9, ll10, ll11, ll12, ll13, ll14, ll15, ll16, ll17, ll18, ll19, ll20, ll21, ll22, ll23, ll24, ll25, ll26, ll27, ll28, ll29, ll30, ll31, ll32, ll33, ll34, ll35, ll36, ll37, ll38, ll39, ll40, Nat.reduceSub, Nat.reduceAdd, Nat.reduceEqDiff, if_true, if_false, ifp_t, ifp_f, reduceIte, Bool.true_eq_false, Bool.false_eq_true, Option.map_some, Option.map_none, Option.bind_some, Option.bind_none, hc, sl_from, sl_to, so, List.append_nil]
    rw [ifp_pos hlen, R.toS_ok, ← List.map_append]
    rfl
  | none =>
    rw [e] at hc
    refine fnC_er rfl (ρ := [some (ti l), some v]) ?_ rfl
    unfold B_turned
    simp only [eVar, eC, eOp, eT, eAnd, eOr, eNot, eIf, eAndV, eOrV, eNotV, eCall, aNil, aCons, aStar, sOf, eTup, eFl, eLoc, eSl, oNone, oSome, iOf, eNeg, eChain, eMt, bOf, eDict0, eRev, eListRg, iZipD, sRaise1, sRaise0, eCallV, List.lookup, R.bind_ok, R.bind_er, R.bind_stuck, R.toS_ok, R.toS_er, R.toS_stuck, SR.next_nx, SR.next_rt, SR.next_er, SR.next_bk, SR.next_ct, SR.next_stuck, sNil, sSeq, sBrk, sCnt, sExp, sRet, sRetN, sIf, sSet, sAsg, sAug, sPar2, sPar3, tN, DL.tTup, DL.tNil, DL.tCons, DL.tSub, iSeq, srcOf, iRange1, iRange2, sFor, startD, List.map_cons, List.map_nil, List.length_cons, List.length_nil, List.replicate, List.cons_append, List.nil_append, List.getElem?_cons_zero, List.getElem?_cons_succ, List.set_cons_zero, List.set_cons_succ, dSub_int, dFdiv_int, dMod_int, dLt_int, dLe_int, dGt_int, dGe_int, dAddI_int, dSubI_int, dIsN_non, isN, dAdd_int, ll0, ll1, ll2, ll3, ll4, ll5, ll6, ll7, ll8, ll9, ll10, ll11, ll12, ll13, ll14, ll15, ll16, ll17, ll18, ll19, ll20, ll21, ll22, ll23, ll24, ll25, ll26, ll27, ll28, ll29, ll30, ll31, ll32, ll33, ll34, ll35, ll36, ll37, ll38, ll39, ll40, Nat.reduceSub, Nat.reduceAdd, Nat.reduceEqDiff, if_true, if_false, ifp_t, ifp_f, reduceIte, Bool.true_eq_false, Bool.false_eq_true, Option.map_some, Option.map_none, Option.bind_some, Option.bind_none, hc]
theorem need_any (l : List Int) {v : D} (h : pl v = true) (hl : l.length < 10 ^ 6) (S : Sto) : F_need [ti l, v] S = (match plc l.length v with
    | some p => .ok (.int (ne (rot l p))) S
    | none => .er (noPlace v) S) := by
  have hc := turned_any l h hl S
  cases e : plc l.length v with
  | some p =>
    rw [e] at hc
    obtain ⟨rfl, hp⟩ := plc_some e
    refine fnC_rt rfl ?_ rfl
    unfold B_need
    simp only [eVar, eC, eOp, eT, eAnd, eOr, eNot, eIf, eAndV, eOrV, eNotV, eCall, aNil, aCons, aStar, sOf, eTup, eFl, eLoc, eSl, oNone, oSome, iOf, eNeg, eChain, eMt, bOf, eDict0, eRev, eListRg, iZipD, sRaise1, sRaise0, eCallV, List.lookup, R.bind_ok, R.bind_er, R.bind_stuck, R.toS_ok, R.toS_er, R.toS_stuck, SR.next_nx, SR.next_rt, SR.next_er, SR.next_bk, SR.next_ct, SR.next_stuck, sNil, sSeq, sBrk, sCnt, sExp, sRet, sRetN, sIf, sSet, sAsg, sAug, sPar2, sPar3, tN, DL.tTup, DL.tNil, DL.tCons, DL.tSub, iSeq, srcOf, iRange1, iRange2, sFor, startD, List.map_cons, List.map_nil, List.length_cons, List.length_nil, List.replicate, List.cons_append, List.nil_append, List.getElem?_cons_zero, List.getElem?_cons_succ, List.set_cons_zero, List.set_cons_succ, dSub_int, dFdiv_int, dMod_int, dLt_int, dLe_int, dGt_int, dGe_int, dAddI_int, dSubI_int, dIsN_non, isN, dAdd_int, ll0, ll1, ll2, ll3, ll4, ll5, ll6, ll7, ll8, ll9, ll10, ll11, ll12, ll13, ll14, ll15, ll16, ll17, ll18, ll19, ll20, ll21, ll22, ll23, ll24, ll25, ll26, ll27, ll28, ll29, ll30, ll31, ll32, ll33, ll34, ll35, ll36, ll37, ll38, ll39, ll40, Nat.reduceSub, Nat.reduceAdd, Nat.reduceEqDiff, if_true, if_false, ifp_t, ifp_f, reduceIte, Bool.true_eq_false, Bool.false_eq_true, Option.map_some, Option.map_none, Option.bind_some, Option.bind_none, hc, need_of_ok (rot l p) (by rw [DL.rot_length l p (by omega)]; exact hl)]
  | none =>
    rw [e] at hc
    refine fnC_er rfl (ρ := [some (ti l), some v]) ?_ rfl
    unfold B_need
    simp only [eVar, eC, eOp, eT, eAnd, eOr, eNot, eIf, eAndV, eOrV, eNotV, eCall, aNil, aCons, aStar, sOf, eTup, eFl, eLoc, eSl, oNone, oSome, iOf, eNeg, eChain, eMt, bOf, eDict0, eRev, eListRg, iZipD, sRaise1, sRaise0, eCallV, List.lookup, R.bind_ok, R.bind_er, R.bind_stuck, R.toS_ok, R.toS_er, R.toS_stuck, SR.next_nx, SR.next_rt, SR.next_er, SR.next_bk, SR.next_ct, SR.next_stuck, sNil, sSeq, sBrk, sCnt, sExp, sRet, sRetN, sIf, sSet, sAsg, sAug, sPar2, sPar3, tN, DL.tTup, DL.tNil, DL.tCons, DL.tSub, iSeq, srcOf, iRange1, iRange2, sFor, startD, List.map_cons, List.map_nil, List.length_cons, List.length_nil, List.replicate, List.cons_append, List.nil_append, List.getElem?_cons_zero, List.getElem?_cons_succ, List.set_cons_zero, List.set_cons_succ, dSub_int, dFdiv_int, dMod_int, dLt_int, dLe_int, dGt_int, dGe_int, dAddI_int, dSubI_int, dIsN_non, isN, dAdd_int, ll0, ll1, ll2, ll3, ll4, ll5, ll6, ll7, ll8, ll9, ll10, ll11, ll12, ll13, ll14, ll15, ll16, ll17, ll18, ll19, ll20, ll21, ll22, ll23, ll24, ll25, ll26, ll27, ll28, ll29, ll30, ll31, ll32, ll33, ll34, ll35, ll36, ll37, ll38, ll39, ll40, Nat.reduceSub, Nat.reduceAdd, Nat.reduceEqDiff, if_true, if_false, ifp_t, ifp_f, reduceIte, Bool.true_eq_false, Bool.false_eq_true, Option.map_some, Option.map_none, Option.bind_some, Option.bind_none, hc]
theorem need_ok (l : List Int) (p : Nat) (hp : p < l.length) (hl : l.length < 10 ^ 6) (S : Sto) : F_need [ti l, .int p] S = .ok (.int (ne (rot l p))) S := by
  have := need_any l (v := .int p) rfl hl S
  rw [plc_int hp] at this
  exact this
theorem bMax_two (i j : Int) (S : Sto) : bMax [.int i, .int j] S = .ok (.int (max i j)) S := rfl
structure Shw (b k : Nat) (d : D) : Prop where
  ok : rok d = true
  bulk : bulkD d ≤ b
  dep : depD d ≤ k
theorem Shw.mono {b b' k k' : Nat} {d : D} (h : Shw b k d) (hb : b ≤ b') (hk : k ≤ k') : Shw b' k' d := ⟨h.ok, Nat.le_trans h.bulk hb, Nat.le_trans h.dep hk⟩
theorem repr_s {b k : Nat} {d : D} (h : Shw b k d) (hb : b ≤ 8000) (hk : k ≤ 60) (S : Sto) : bRepr [d] S = .ok (.str (shD d)) S := repr_d h.ok (Nat.le_trans h.bulk hb) (Nat.le_trans h.dep hk) S
theorem shwL {b k : Nat} : ∀ {ds : List D}, (∀ d ∈ ds, Shw b k d) → rokL ds = true ∧ bulkL ds ≤ ds.length * (b + 1) ∧ depL ds ≤ k
  | [], _ => ⟨rfl, by simp [bulkL], by simp [depL]⟩
  | d :: ds, h => by
    obtain ⟨h1, h2, h3⟩ := shwL (ds := ds) fun x hx => h x (List.mem_cons_of_mem _ hx)
    have hd := h d List.mem_cons_self
    refine ⟨by rw [rokL, hd.ok, h1]; rfl, ?_, ?_⟩
    · rw [bulkL, List.length_cons, Nat.add_mul]
      have := hd.bulk
      omega
    · rw [depL]
      exact Nat.max_le.mpr ⟨hd.dep, h3⟩
theorem shw_tup {b k : Nat} {ds : List D} (h : ∀ d ∈ ds, Shw b k d) : Shw (ds.length * (b + 1)) (k + 1) (.tup ds) := by
  obtain ⟨h1, h2, h3⟩ := shwL h
  exact ⟨by rw [rok]; exact h1, by rw [bulkD]; exact h2, by rw [depD]; omega⟩
theorem shw_int {i : Int} (h : i.natAbs < 2 ^ 1000) : Shw 0 0 (.int i) := ⟨rok_int 1000 h (by decide) (by decide), by simp [bulkD], by simp [depD]⟩
theorem big9 : (10 ^ 9 : Nat) < 2 ^ 1000 := by decide
theorem shw_nat {i : Int} (h0 : -(10 ^ 9) < i) (h : i < 10 ^ 9) : Shw 0 0 (.int i) := shw_int (by have := big9; omega)
theorem shw_ti {l : List Int} (h : ∀ t ∈ l, -(10 ^ 9) < t ∧ t < 10 ^ 9) : Shw l.length 1 (ti l) := by
  unfold ti
  have := shw_tup (b := 0) (k := 0) (ds := l.map D.int) fun d hd => by
    obtain ⟨t, ht, rfl⟩ := List.mem_map.mp hd
    exact shw_nat (h t ht).1 (h t ht).2
  rw [List.length_map] at this
  simpa using this.mono (Nat.le_of_eq (Nat.mul_one _)) (Nat.le_refl _)
theorem ni_eq (l : List Nat) : ni l = (l.map fun k : Nat => (k : Int)).map D.int := by unfold ni; rw [List.map_map]; rfl
theorem shw_ni {l : List Nat} (h : ∀ t ∈ l, t < 10 ^ 9) : Shw l.length 1 (.tup (ni l)) := by
  rw [ni_eq]
  have := shw_ti (l := l.map fun k : Nat => (k : Int)) fun t ht => by
    obtain ⟨k, hk, rfl⟩ := List.mem_map.mp ht
    have := h k hk
    omega
  rw [List.length_map] at this
  exact this
end DL
namespace DL
open PySem PySem.Spec L2
open PyProof.Rows hiding St
theorem add_fl (xs ys : List D) (h : xs.length + ys.length ≤ 10 ^ 6) (S : Sto) : dAdd (.fl xs) (.fl ys) S = .ok (.fl (xs ++ ys)) S := by
  show ifp (xs.length + ys.length ≤ sizeLine) (R.ok (D.fl (xs ++ ys)) S) .stuck = _
  exact ifp_pos (Nat.le_trans h (by decide))
theorem ti_ix (l : List Int) (i : Int) (h0 : 0 ≤ i) (h1 : i < l.length) (S : Sto) : dIx (ti l) (.int i) S = .ok (.int ((l[i.toNat]?).getD 0)) S := by
  refine dIx_tup ?_
  rw [atI_nn h0 (by simpa using h1), List.getElem?_map, List.getElem?_eq_getElem (by omega)]
  rfl
theorem shw_ring {l : List Int} (hr : ∀ t ∈ l, Arity t) (hl : l.length ≤ 24) : Shw 24 1 (ti l) := (shw_ti fun t ht => by have := hr t ht; unfold Arity at this; omega).mono (by omega) (by omega)
theorem repr_ring {l : List Int} (hr : ∀ t ∈ l, Arity t) (hl : l.length ≤ 24) (S : Sto) : bRepr [ti l] S = .ok (.str (shD (ti l))) S := repr_s (shw_ring hr hl) (by decide) (by decide) S
theorem mem_cast (x : Nat) (bs : List Nat) : ((x : Int) ∈ bs.map fun k : Nat => (k : Int)) ↔ x ∈ bs := by
  rw [List.mem_map]
  constructor
  · rintro ⟨a, h, e⟩
    have : a = x := by omega
    rw [← this]; exact h
  · exact fun h => ⟨x, h, rfl⟩
theorem in_seq_ni (neg : Bool) (x : Nat) (bs : List Nat) {d : D} (S : Sto) (h : seqOf S d = some (ni bs)) : dIn neg (.int x) d S = .ok (.bl (if neg then !decide (x ∈ bs) else decide (x ∈ bs))) S := by
  have h1 : (seqOf S d).bind fVs = some ((bs.map fun k : Nat => (k : Int)).map V.int) := by
    rw [h]
    show fVs (ni bs) = _
    rw [ni_eq, fVs_ints]
  have e : dIn neg (.int x) d S = (match fV (.int x), (seqOf S d).bind fVs with
    | some x, some ys => R.ok (D.bl (if neg then !inV x ys else inV x ys)) S
    | _, _ => .stuck) := by
    cases d <;> rfl
  rw [e, h1]
  simp only [fV, inV_ints, mem_cast]
theorem in_fl_ni (neg : Bool) (x : Nat) (bs : List Nat) (S : Sto) : dIn neg (.int x) (.fl (ni bs)) S = .ok (.bl (if neg then !decide (x ∈ bs) else decide (x ∈ bs))) S := in_seq_ni neg x bs S rfl
theorem mem_begs {l : List Int} {x : Nat} : x ∈ begs l ↔ x < l.length ∧ ne (rot l x) = 0 := by
  unfold begs
  rw [List.mem_filter, List.mem_range]
  simp
end DL
namespace DL
open PySem PySem.Spec L2
open PyProof.Rows hiding St
def jn (s e : Int × Int) : Int × Int := (s.1 + max 0 (e.1 - s.2), e.2 + max 0 (s.2 - e.1))
def rp (e : Int × Int) (n : Int) : Int × Int := if n = 0 then (0, 0) else if 0 ≤ (n - 1) * (e.2 - e.1) then (e.1, e.2 + (n - 1) * (e.2 - e.1)) else (e.1 - (n - 1) * (e.2 - e.1), e.2)
def Ok2 (e : Int × Int) : Prop := 0 ≤ e.1 ∧ 0 ≤ e.2
def dp (e : Int × Int) : D := .tup [.int e.1, .int e.2]
theorem jn_zero {e : Int × Int} (h : Ok2 e) : jn (0, 0) e = e := by
  obtain ⟨h1, h2⟩ := h
  unfold jn
  ext <;> simp <;> omega
theorem rp_pos {e : Int × Int} {n : Int} (hn : 0 < n) : rp e n = (if e.1 ≤ e.2 then (e.1, e.2 + (n - 1) * (e.2 - e.1)) else (e.1 + (n - 1) * (e.1 - e.2), e.2)) := by
  unfold rp
  rw [if_neg (by omega)]
  by_cases h : e.1 ≤ e.2
  · rw [if_pos h, if_pos (Int.mul_nonneg (by omega) (by omega))]
  · rw [if_neg h]
    by_cases h1 : n = 1
    · subst h1; simp
    · have : (n - 1) * (e.2 - e.1) < 0 := Int.mul_neg_of_pos_of_neg (by omega) (by omega)
      rw [if_neg (by omega)]
      have e1 : (n - 1) * (e.1 - e.2) = -((n - 1) * (e.2 - e.1)) := by rw [← Int.mul_neg]; congr 1; omega
      rw [e1]
      ext <;> simp <;> omega
theorem jn_rp {e : Int × Int} (h : Ok2 e) {m n : Int} (hm : 0 ≤ m) (hn : 0 ≤ n) : jn (rp e m) (rp e n) = rp e (m + n) := by
  obtain ⟨h1, h2⟩ := h
  by_cases m0 : m = 0
  · subst m0
    have e0 : rp e 0 = (0, 0) := by unfold rp; simp
    rw [e0, Int.zero_add]
    by_cases n0 : n = 0
    · subst n0; rw [e0]; rfl
    · refine jn_zero ?_
      rw [rp_pos (by omega)]
      have hp : 0 ≤ (n - 1) * (e.2 - e.1) ∨ e.2 < e.1 := by
        by_cases h : e.1 ≤ e.2
        · exact .inl (Int.mul_nonneg (by omega) (by omega))
        · exact .inr (by omega)
      have hq : 0 ≤ (n - 1) * (e.1 - e.2) ∨ e.1 ≤ e.2 := by
        by_cases h : e.1 ≤ e.2
        · exact .inr h
        · exact .inl (Int.mul_nonneg (by omega) (by omega))
      split
      · exact ⟨by simpa using h1, by simp; omega⟩
      · exact ⟨by simp; omega, by simpa using h2⟩
  · by_cases n0 : n = 0
    · subst n0
      have e0 : rp e 0 = (0, 0) := by unfold rp; simp
      rw [e0, Int.add_zero, rp_pos (by omega)]
      unfold jn
      by_cases h : e.1 ≤ e.2
      · have := Int.mul_nonneg (show (0 : Int) ≤ m - 1 by omega) (show (0 : Int) ≤ e.2 - e.1 by omega)
        rw [if_pos h]
        ext <;> simp <;> omega
      · rw [if_neg h]
        ext <;> simp <;> omega
    · rw [rp_pos (by omega), rp_pos (by omega), rp_pos (by omega)]
      unfold jn
      by_cases h : e.1 ≤ e.2
      · have a := Int.mul_nonneg (show (0 : Int) ≤ m - 1 by omega) (show (0 : Int) ≤ e.2 - e.1 by omega)
        have b := Int.mul_nonneg (show (0 : Int) ≤ n - 1 by omega) (show (0 : Int) ≤ e.2 - e.1 by omega)
        have c : (m + n - 1) * (e.2 - e.1) = (m - 1) * (e.2 - e.1) + (n - 1) * (e.2 - e.1) + (e.2 - e.1) := by
          have : m + n - 1 = (m - 1) + (n - 1) + 1 := by omega
          rw [this, Int.add_mul, Int.add_mul, Int.one_mul]
        rw [if_pos h, if_pos h, if_pos h, c]
        ext <;> simp <;> omega
      · have a := Int.mul_nonneg (show (0 : Int) ≤ m - 1 by omega) (show (0 : Int) ≤ e.1 - e.2 by omega)
        have b := Int.mul_nonneg (show (0 : Int) ≤ n - 1 by omega) (show (0 : Int) ≤ e.1 - e.2 by omega)
        have c : (m + n - 1) * (e.1 - e.2) = (m - 1) * (e.1 - e.2) + (n - 1) * (e.1 - e.2) + (e.1 - e.2) := by
          have : m + n - 1 = (m - 1) + (n - 1) + 1 := by omega
          rw [this, Int.add_mul, Int.add_mul, Int.one_mul]
        rw [if_neg h, if_neg h, if_neg h, c]
        ext <;> simp <;> omega
theorem rp_one (e : Int × Int) : rp e 1 = e := by unfold rp; simp
theorem jn_rep {e : Int × Int} (h : Ok2 e) (n : Nat) : (List.replicate n e).foldl jn (0, 0) = rp e n := by
  induction n with
  | zero => simp [rp]
  | succ n ih =>
    rw [List.replicate_succ', List.foldl_append, ih]
    show jn (rp e n) e = _
    conv => lhs; rw [← rp_one e]
    have : jn (rp (rp e 1) n) (rp e 1) = rp e ((n : Int) + 1) := by
      rw [rp_one]
      have := jn_rp h (m := n) (n := 1) (by omega) (by omega)
      rw [rp_one] at this
      exact this
    rw [this]; simp
def wh (v : D) : Bool := match v with
  | .int i => decide (0 ≤ i)
  | _ => false
end DL
namespace DL
open PySem PySem.Spec L2
open PyProof.Rows hiding St
end DL
namespace DL
open PySem PySem.Spec L2
open PyProof.Rows hiding St
/-- beginnings with their gaps; f is the first of all -/
def un (n f : Nat) : List Nat → List (Nat × Nat)
  | [] => []
  | [b] => [(b, n + f - b)]
  | b :: c :: r => (b, c - b) :: un n f (c :: r)
theorem compD_g {g : Sto → Prop} {T : Tg} {c : Ev → Sto → R Bool} {f : Ev → Sto → R D} {ρ : Ev} (ρd : D → Ev) (p : D → Bool) (e : D → D) (S : Sto) (hg : ∀ acc, g (S ++ [.lst acc])) : ∀ (ds acc : List D),
    (∀ d ∈ ds, ∀ S', T d ρ S' = some (ρd d, S') ∧ c (ρd d) S' = .ok (p d) S' ∧ (p d = true → f (ρd d) S' = .ok (e d) S')) → acc.length + ds.length ≤ sizeLine →
    compD g T c f S.length ρ ds (S ++ [.lst acc]) = some (S ++ [.lst (acc ++ (ds.filter p).map e)])
  | [], acc, _, _ => by rw [compD, if_pos (hg _)]; simp
  | d :: ds, acc, h, hl => by
    obtain ⟨h1, h2, h3⟩ := h d List.mem_cons_self (S ++ [.lst acc])
    have hl' : acc.length + (ds.length + 1) ≤ sizeLine := hl
    rw [compD, if_pos (hg _), h1]
    simp only [h2]
    cases hp : p d with
    | false =>
      rw [if_neg (by decide)]
      rw [compD_g ρd p e S hg ds acc (fun x hx => h x (List.mem_cons_of_mem _ hx)) (by omega)]
      simp [List.filter, hp]
    | true =>
      rw [if_pos rfl]
      simp only [h3 hp, getL_end]
      rw [ifp_pos (by omega), set_end]
      rw [compD_g ρd p e S hg ds (acc ++ [e d]) (fun x hx => h x (List.mem_cons_of_mem _ hx)) (by simp; omega)]
      simp [List.filter, hp]
theorem eLc_loc {n : Nat} {T : Tg} {vs : List Nat} {c : Ev → Sto → R Bool} {f : Ev → Sto → R D} {ρ : Ev} {S : Sto} {i : Nat} (ds : List D) (ρd : D → Ev) (p : D → Bool) (e : D → D) (hi : ρ[i]? = some (some (.loc n))) (hs : getQ S n = some ds)
    (h : ∀ d ∈ ds, ∀ S', T d (wipeD ρ vs) S' = some (ρd d, S') ∧ c (ρd d) S' = .ok (p d) S' ∧ (p d = true → f (ρd d) S' = .ok (e d) S')) (hl : ds.length ≤ sizeLine) (hlow : ∀ d ∈ ds, p d = true → low S.length (e d) = true) :
    eLc finFl (iSeq (eVar i)) T vs c f ρ S = .ok (.fl ((ds.filter p).map e)) S := by
  unfold eLc
  have hsrc : iSeq (eVar i) ρ S = .ok (ds, fun S => getQ S n = some ds) S := by
    unfold iSeq eVar
    simp only [hi, R.bind_ok, srcOf, hs]
  rw [hsrc]
  show (match compD (fun S => getQ S n = some ds) T c f S.length (wipeD ρ vs) ds (S ++ [Ob.lst []]) with
    | some S2 => finFl S S2
    | none => .stuck) = _
  have hg : ∀ acc, getQ (S ++ [.lst acc]) n = some ds := fun acc => by
    have hn : n < S.length := by
      rcases Nat.lt_or_ge n S.length with h | h
      · exact h
      · unfold getQ at hs
        rw [List.getElem?_eq_none h] at hs
        simp at hs
    unfold getQ at hs ⊢
    rw [List.getElem?_append_left hn]; exact hs
  rw [compD_g ρd p e S hg ds [] h (by simpa using hl)]
  simp only [List.nil_append]
  refine finFl_end (lowL_of fun d hd => ?_)
  obtain ⟨x, hx, rfl⟩ := List.mem_map.mp hd
  obtain ⟨h1, h2⟩ := List.mem_filter.mp hx
  exact hlow x h1 h2
theorem forD_grow {T : Tg} {B Z : Ev → Sto → SR} (I : Ev → Prop) (cost : Nat) : ∀ (ds : List D) (ρ : Ev) (S : Sto) (n : Nat) (rest : Sto), I ρ → Strm S n rest → n + ds.length * cost < 2 ^ 60 →
    (∀ d ∈ ds, ∀ ρ S n rest, I ρ → Strm S n rest → n + cost < 2 ^ 60 → ∃ ρ1 ρ2 S2 rest2, T d ρ S = some (ρ1, S) ∧ (B ρ1 S = .nx ρ2 S2 ∨ B ρ1 S = .ct ρ2 S2) ∧ I ρ2 ∧ Strm S2 (n + cost) rest2) →
    ∃ ρ' S' rest', I ρ' ∧ Strm S' (n + ds.length * cost) rest' ∧ forD yes T B Z ds ρ S = Z ρ' S'
  | [], ρ, S, n, rest, h, hs, _, _ => ⟨ρ, S, rest, h, by simpa using hs, forD_nil trivial⟩
  | d :: ds, ρ, S, n, rest, h, hs, hn, step => by
    have e1 : n + (d :: ds).length * cost = n + cost + ds.length * cost := by simp [Nat.add_mul]; omega
    rw [e1] at hn ⊢
    obtain ⟨ρ1, ρ2, S2, rest2, hT, hB, h2, s2⟩ := step d List.mem_cons_self ρ S n rest h hs (by omega)
    obtain ⟨ρ', S', rest', h3, s3, e⟩ := forD_grow I cost ds ρ2 S2 (n + cost) rest2 h2 s2 hn fun d' hd => step d' (List.mem_cons_of_mem _ hd)
    refine ⟨ρ', S', rest', h3, s3, ?_⟩
    rw [forD, if_pos (show yes S from trivial), hT]
    rcases hB with hB | hB <;> (simp only [hB]; exact e)
theorem law_grow {m N cost : Nat} {L : Ev → Sto → SR} (I : Option D → Ev → Prop) (hm : 2 ≤ m) (hN : (N : Int) < 2 ^ 62) (h0 : ∀ sc, I sc (sc :: some (.loc 1) :: List.replicate (m - 2) none)) (hc : N * cost < 2 ^ 60)
    (step : ∀ sc d ρ S n rest, I sc ρ → Strm S n rest → n + cost < 2 ^ 60 → ∃ ρ2 S2 rest2, L (ρ.set 2 (some d)) S = .nx ρ2 S2 ∧ I sc ρ2 ∧ Strm S2 (n + cost) rest2) :
    LawOk (fnC close m 1 (sSeq (sSet 1 (eCall F__law_stream (aCons (eVar 0) aNil))) (sSeq (sFor (iRange1 (aCons (eC (.int N)) aNil)) (tN 2) L sNil) (sRet (eC (.bl true)))))) := law_by fun ns hl _ => by
  obtain ⟨S0, h1, s0⟩ := stream_ok hl
  obtain ⟨ρ', S', _, _, _, hf⟩ := forD_grow (T := tN 2) (B := L) (Z := sNil) (I (some (.kl (ns.map D.int)))) cost (rangeD 0 N) (some (.kl (ns.map D.int)) :: some (.loc 1) :: List.replicate (m - 2) none) S0 0 [] (h0 _) s0 (by rw [rangeD_len]; omega) (by
    intro d hd ρ S n rest hI hS hn
    obtain ⟨ρ2, S2, rest2, e, i2, s2⟩ := step _ d ρ S n rest hI hS hn
    exact ⟨_, ρ2, S2, rest2, rfl, .inl e, i2, s2⟩)
  refine ⟨S', ?_⟩
  have hst : startD m [D.kl (ns.map D.int)] = some (.kl (ns.map D.int)) :: none :: List.replicate (m - 2) none := by
    obtain ⟨k, rfl⟩ : ∃ k, m = k + 2 := ⟨m - 2, by omega⟩
    simp [startD, List.replicate_succ]
  rw [hst]
  have hr : ((-(2 ^ 62) : Int) ≤ (N : Int) ∧ (N : Int) < 2 ^ 62) = True := by simp; omega
  simp only [eVar, eC, eOp, eT, eAnd, eOr, eNot, eIf, eAndV, eOrV, eNotV, eCall, aNil, aCons, aStar, sOf, eTup, eFl, eLoc, eSl, oNone, oSome, iOf, eNeg, eChain, eMt, bOf, eDict0, eRev, eListRg, iZipD, sRaise1, sRaise0, eCallV, List.lookup, R.bind_ok, R.bind_er, R.bind_stuck, R.toS_ok, R.toS_er, R.toS_stuck, SR.next_nx, SR.next_rt, SR.next_er, SR.next_bk, SR.next_ct, SR.next_stuck, sNil, sSeq, sBrk, sCnt, sExp, sRet, sRetN, sIf, sSet, sAsg, sAug, sPar2, sPar3, tN, DL.tTup, DL.tNil, DL.tCons, DL.tSub, iSeq, srcOf_tup, srcOf_fl, srcOf_kl, srcOf_ti, iRange1, iRange2, sFor, startD, List.map_cons, List.map_nil, List.length_cons, List.length_nil, List.replicate, List.cons_append, List.nil_append, List.getElem?_cons_zero, List.getElem?_cons_succ, List.set_cons_zero, List.set_cons_succ, dSub_int, dFdiv_int, dMod_int, dLt_int, dLe_int, dGt_int, dGe_int, dAddI_int, dSubI_int, dIsN_non, isN, dAdd_int, ll0, ll1, ll2, ll3, ll4, ll5, ll6, ll7, ll8, ll9, ll10, ll11, ll12, ll13, ll14, ll15, ll16, ll17, ll18, ll19, ll20, ll21, ll22, ll23, ll24, ll25, ll26, ll27, ll28, ll29, ll30, ll31, ll32, ll33, ll34, ll35, ll36, ll37, ll38, ll39, ll40, Nat.reduceSub, Nat.reduceAdd, Nat.reduceEqDiff, if_true, if_false, ifp_t, ifp_f, reduceIte, Bool.true_eq_false, Bool.false_eq_true, Option.map_some, Option.map_none, Option.bind_some, Option.bind_none, h1, hr, Int.toNat_natCast, hf]
end DL
namespace DL
open PySem PySem.Spec L2
open PyProof.Rows hiding St
noncomputable def E1__law_total (ρ : Ev) (S : Sto) : R D :=
  (eOp dMulT (eOp dSub (eC (.int 1)) (eVar 1)) (eVar 2)) ρ S
noncomputable def B__law_total : Ev → Sto → SR :=
  (sRet (eCall bSum2 (aCons (eLc finFl (iSeq (eVar 0)) (tTup 2 (tCons (tN 1) (tCons (tN 2) tNil))) [1, 2] cYes E1__law_total) aNil)))
noncomputable def F__law_total : Fn := fnC close 3 1 B__law_total
noncomputable def E1__law_length (ρ : Ev) (S : Sto) : R D :=
  (eVar 2) ρ S
noncomputable def B__law_length : Ev → Sto → SR :=
  (sRet (eCall bSum2 (aCons (eLc finFl (iSeq (eVar 0)) (tTup 2 (tCons (tN 1) (tCons (tN 2) tNil))) [1, 2] cYes E1__law_length) aNil)))
noncomputable def F__law_length : Fn := fnC close 3 1 B__law_length
noncomputable def L1__law_tokens (ρ : Ev) (S : Sto) : SR :=
  (sSet 1 (eOp dAdd (eVar 1) (eOp dMulT (eTup (aCons (eVar 2) aNil)) (eVar 3)))) ρ S
noncomputable def B__law_tokens : Ev → Sto → SR :=
  (sSeq (sSet 1 (eTup aNil))
    (sSeq (sFor (iSeq (eVar 0)) (tTup 2 (tCons (tN 2) (tCons (tN 3) tNil))) L1__law_tokens sNil)
    (sRet (eVar 1))))
noncomputable def F__law_tokens : Fn := fnC close 4 1 B__law_tokens
noncomputable def L1__law_lowest (ρ : Ev) (S : Sto) : SR :=
  (sSeq (sSet 5 (eFl (aCons (eOp dSub (eOp dAdd (eVar 1) (eC (.int 1))) (eVar 3)) (aCons (eOp dAdd (eVar 1) (eOp dMulT (eOp dSub (eC (.int 1)) (eVar 3)) (eVar 4))) aNil))))
    (sSeq (sSet 2 (eCall bMinT (aCons (eIf (eT (eOp (dIsN false) (eVar 2) (eC .non))) (eVar 5) (eOp dAdd (eFl (aCons (eVar 2) aNil)) (eVar 5))) aNil)))
    (sSet 1 (eOp dIx (eVar 5) (eC (.int 1)))))) ρ S
noncomputable def B__law_lowest : Ev → Sto → SR :=
  (sSeq (sAsg (eTup (aCons (eC (.int 0)) (aCons (eC .non) aNil))) (tTup 2 (tCons (tN 1) (tCons (tN 2) tNil))))
    (sSeq (sFor (iSeq (eVar 0)) (tTup 2 (tCons (tN 3) (tCons (tN 4) tNil))) L1__law_lowest sNil)
    (sRet (eFl (aCons (eVar 2) (aCons (eVar 1) aNil))))))
noncomputable def F__law_lowest : Fn := fnC close 6 1 B__law_lowest
noncomputable def B__law_due : Ev → Sto → SR :=
  (sSeq (sIf (eT (eOp dLt (eCall F__law_length (aCons (eVar 0) aNil)) (eC (.int 200)))) (sRet (eCall bTuple (aCons (eCall F__law_missing (aCons (eCall F__law_tokens (aCons (eVar 0) aNil)) aNil)) aNil))) sNil)
    (sSeq (sSet 1 (eCall bMax (aCons (eC (.int 0)) (aCons (eOp dSub (eC (.int 1)) (eOp dIx (eCall F__law_lowest (aCons (eVar 0) aNil)) (eC (.int 0)))) aNil))))
    (sRet (eTup (aCons (eVar 1) (aCons (eOp dAdd (eVar 1) (eCall F__law_total (aCons (eVar 0) aNil))) aNil))))))
noncomputable def F__law_due : Fn := fnC close 2 1 B__law_due
def eff (l : List Int) : Int × Int := (ne l, ne l + ((l.length : Int) - l.sum))
theorem stp_max : ∀ (b : List Int) (h m c : Int), (b.foldl stp (h, max m c)).2 = max c (b.foldl stp (h, m)).2
  | [], h, m, c => by simp; omega
  | t :: b, h, m, c => by
    rw [List.foldl_cons, List.foldl_cons]
    have e : stp (h, max m c) t = ((stp (h, m) t).1, max (stp (h, m) t).2 c) := by
      simp only [stp, Prod.mk.injEq, true_and]
      omega
    rw [e, stp_max b]
theorem stp_shift : ∀ (b : List Int) (h m k : Int), (b.foldl stp (h + k, m - k)).2 = (b.foldl stp (h, m)).2 - k
  | [], h, m, k => rfl
  | t :: b, h, m, k => by
    rw [List.foldl_cons, List.foldl_cons]
    have e : stp (h + k, m - k) t = ((stp (h, m) t).1 + k, (stp (h, m) t).2 - k) := by
      simp only [stp, Prod.mk.injEq]
      constructor <;> omega
    rw [e, stp_shift b]
theorem ne_app (a b : List Int) : ne (a ++ b) = max (ne a) (ne b - ht a) := by
  have e1 : ne (a ++ b) = (b.foldl stp (ht a, ne a)).2 := by
    unfold ne ht; rw [List.foldl_append]
  have e2 : (b.foldl stp (ht a, 0 - ht a)).2 = ne b - ht a := by
    have := stp_shift b 0 0 (ht a)
    rw [Int.zero_add] at this
    exact this
  rw [e1, ← e2]
  by_cases h : 0 - ht a ≤ ne a
  · have := stp_max b (ht a) (0 - ht a) (ne a)
    rw [show max (0 - ht a) (ne a) = ne a by omega] at this
    exact this
  · cases a with
    | nil => exfalso; exact h (by decide)
    | cons t a =>
      have := ne_ge (t :: a) (0, 0) (by simp)
      exfalso
      apply h
      show 0 - ht (t :: a) ≤ ne (t :: a)
      unfold ht ne
      omega
theorem eff_app (a b : List Int) : eff (a ++ b) = jn (eff a) (eff b) := by
  unfold eff jn
  rw [ne_app, ht_eq]
  simp only [List.length_append, List.sum_append, Int.natCast_add, Prod.mk.injEq]
  constructor <;> omega
theorem eff_nil : eff [] = (0, 0) := rfl
theorem eff_fold : ∀ (ps : List (List Int)) (a : List Int), (ps.map eff).foldl jn (eff a) = eff (a ++ ps.flatten)
  | [], a => by simp
  | p :: ps, a => by
    rw [List.map_cons, List.foldl_cons, ← eff_app, eff_fold ps, List.flatten_cons, List.append_assoc]
theorem eff_flat (ps : List (List Int)) : (ps.map eff).foldl jn (0, 0) = eff ps.flatten := by
  have := eff_fold ps []
  rw [eff_nil] at this
  simpa using this
structure Run (e : Int × Int) : Prop where
  a0 : 0 ≤ e.1
  a5 : e.1 ≤ 5
  c1 : 1 ≤ e.2
  cM : e.2 ≤ 10 ^ 13
def toks (fs : List (Int × Int)) : List Int := (fs.map fun e => List.replicate e.2.toNat e.1).flatten
def tot (fs : List (Int × Int)) : Int := (fs.map fun e => (1 - e.1) * e.2).sum
def len (fs : List (Int × Int)) : Int := (fs.map fun e => e.2).sum
theorem sum_rep (a : Int) : ∀ n : Nat, (List.replicate n a).sum = a * n
  | 0 => by simp
  | n + 1 => by
    rw [List.replicate_succ, List.sum_cons, sum_rep a n, Int.natCast_add, Int.mul_add]; simp; omega
theorem toks_len : ∀ (fs : List (Int × Int)), (∀ e ∈ fs, Run e) → ((toks fs).length : Int) = len fs
  | [], _ => rfl
  | e :: fs, h => by
    have ih := toks_len fs fun x hx => h x (List.mem_cons_of_mem _ hx)
    have := (h e List.mem_cons_self).c1
    unfold toks len at ih ⊢
    rw [List.map_cons, List.flatten_cons, List.length_append, List.map_cons, List.sum_cons, Int.natCast_add, ih, List.length_replicate]
    omega
theorem toks_bal : ∀ (fs : List (Int × Int)), (∀ e ∈ fs, Run e) → ((toks fs).length : Int) - (toks fs).sum = tot fs
  | [], _ => rfl
  | e :: fs, h => by
    have ih := toks_bal fs fun x hx => h x (List.mem_cons_of_mem _ hx)
    have h1 := (h e List.mem_cons_self).c1
    unfold toks tot at ih ⊢
    rw [List.map_cons, List.flatten_cons, List.length_append, List.map_cons, List.sum_cons, Int.natCast_add, List.sum_append, sum_rep, List.length_replicate]
    have e1 : ((e.2.toNat : Nat) : Int) = e.2 := by omega
    rw [e1, Int.sub_mul, Int.one_mul]
    omega
theorem eff_one {a : Int} (h : 0 ≤ a) : eff [a] = (a, 1) := by
  unfold eff ne
  simp [stp]
  omega
theorem eff_run {e : Int × Int} (h : Run e) : eff (List.replicate e.2.toNat e.1) = rp (e.1, 1) e.2 := by
  have ok : Ok2 (e.1, 1) := ⟨h.a0, by show (0 : Int) ≤ 1; decide⟩
  have := jn_rep ok e.2.toNat
  have e1 : ((e.2.toNat : Nat) : Int) = e.2 := by have := h.c1; omega
  rw [e1, ← eff_one h.a0, ← List.map_replicate, eff_flat] at this
  rw [← eff_one h.a0, ← this]
  congr 1
  generalize e.2.toNat = n
  induction n with
  | zero => rfl
  | succ n ih => rw [List.replicate_succ, List.replicate_succ, List.flatten_cons, ← ih]; rfl
theorem iS_tup {i : Nat} {ds : List D} {ρ : Ev} (h : ρ[i]? = some (some (.tup ds))) (S : Sto) : iSeq (eVar i) ρ S = .ok (ds, yes) S := by
  unfold iSeq eVar
  simp only [h, R.bind_ok, srcOf_tup]
theorem mulT_int {i j : Int} (h : -(2 ^ 64) < i ∧ i < 2 ^ 64) (S : Sto) : dMulT (.int i) (.int j) S = .ok (.int (i * j)) S := mul_small h S
theorem sum_fli (l : List Int) (S : Sto) : bSum2 [.fl (l.map D.int)] S = .ok (.int l.sum) S := by
  show (match intsOf (l.map D.int) with
    | some is => R.ok (D.int is.sum) S
    | none => R.stuck) = _
  rw [intsOf_map]
theorem pair_lc {i j k : Nat} {f : Ev → Sto → R D} {ρ : Ev} {S : Sto} {src : Ev → Sto → R Src} {fs : List (Int × Int)} (g : Int × Int → Int) (ρd : Int × Int → Ev) (hs : src ρ S = .ok (fs.map dp, yes) S) (hl : fs.length ≤ 100)
    (hT : ∀ e ∈ fs, ∀ S', tTup 2 (tCons (tN j) (tCons (tN k) tNil)) (dp e) (wipeD ρ [j, k]) S' = some (ρd e, S')) (hf : ∀ e ∈ fs, ∀ S', f (ρd e) S' = .ok (.int (g e)) S') :
    eLc finFl src (tTup 2 (tCons (tN j) (tCons (tN k) tNil))) [j, k] cYes f ρ S = .ok (.fl ((fs.map g).map D.int)) S := by
  let un : D → Int × Int := fun d => match d with
    | .tup [.int a, .int b] => (a, b)
    | _ => (0, 0)
  have hu : ∀ e, un (dp e) = e := fun e => rfl
  rw [eLc_pure (src := src) (fs.map dp) (fun d => ρd (un d)) (fun _ => true) (fun d => .int (g (un d))) hs (by
    intro d hd S'
    obtain ⟨e, he, rfl⟩ := List.mem_map.mp hd
    rw [hu]
    exact ⟨hT e he S', rfl, fun _ => hf e he S'⟩) (by rw [List.length_map]; exact Nat.le_trans hl (by decide)) (by
    intro d hd _; rfl)]
  congr 2
  rw [List.filter_eq_self.mpr (fun _ _ => rfl), List.map_map, List.map_map]
  rfl
theorem total_ok (fs : List (Int × Int)) (hl : fs.length ≤ 100) (hr : ∀ e ∈ fs, Run e) (S : Sto) : F__law_total [.tup (fs.map dp)] S = .ok (.int (tot fs)) S := by
  refine fnC_rt rfl ?_ rfl
  have hst : startD 3 [D.tup (fs.map dp)] = [some (.tup (fs.map dp)), none, none] := rfl
  rw [hst]
  unfold B__law_total
  have key := pair_lc (i := 0) (j := 1) (k := 2) (f := E1__law_total) (ρ := [some (.tup (fs.map dp)), none, none]) (S := S) (src := iSeq (eVar 0)) (fs := fs) (fun e => (1 - e.1) * e.2) (fun e => [some (.tup (fs.map dp)), some (.int e.1), some (.int e.2)]) (iS_tup rfl S) hl (fun e _ S' => rfl) (by
    intro e he S'
    have h := hr e he
    have := h.a0
    have := h.a5
    have m := mulT_int (i := 1 - e.1) (j := e.2) (by omega)
    simp only [eVar, eC, eOp, eT, eAnd, eOr, eNot, eIf, eAndV, eOrV, eNotV, eCall, aNil, aCons, aStar, sOf, eTup, eFl, eLoc, eSl, oNone, oSome, iOf, eNeg, eChain, eMt, bOf, eDict0, eRev, eListRg, iZipD, sRaise1, sRaise0, eCallV, List.lookup, R.bind_ok, R.bind_er, R.bind_stuck, R.toS_ok, R.toS_er, R.toS_stuck, SR.next_nx, SR.next_rt, SR.next_er, SR.next_bk, SR.next_ct, SR.next_stuck, sNil, sSeq, sBrk, sCnt, sExp, sRet, sRetN, sIf, sSet, sAsg, sAug, sPar2, sPar3, tN, DL.tTup, DL.tNil, DL.tCons, DL.tSub, iSeq, srcOf_tup, srcOf_fl, srcOf_kl, srcOf_ti, iRange1, iRange2, sFor, startD, List.map_cons, List.map_nil, List.length_cons, List.length_nil, List.replicate, List.cons_append, List.nil_append, List.getElem?_cons_zero, List.getElem?_cons_succ, List.set_cons_zero, List.set_cons_succ, dSub_int, dFdiv_int, dMod_int, dLt_int, dLe_int, dGt_int, dGe_int, dAddI_int, dSubI_int, dIsN_non, isN, dAdd_int, ll0, ll1, ll2, ll3, ll4, ll5, ll6, ll7, ll8, ll9, ll10, ll11, ll12, ll13, ll14, ll15, ll16, ll17, ll18, ll19, ll20, ll21, ll22, ll23, ll24, ll25, ll26, ll27, ll28, ll29, ll30, ll31, ll32, ll33, ll34, ll35, ll36, ll37, ll38, ll39, ll40, Nat.reduceSub, Nat.reduceAdd, Nat.reduceEqDiff, if_true, if_false, ifp_t, ifp_f, reduceIte, Bool.true_eq_false, Bool.false_eq_true, Option.map_some, Option.map_none, Option.bind_some, Option.bind_none, E1__law_total, m])
  simp only [eVar, eC, eOp, eT, eAnd, eOr, eNot, eIf, eAndV, eOrV, eNotV, eCall, aNil, aCons, aStar, sOf, eTup, eFl, eLoc, eSl, oNone, oSome, iOf, eNeg, eChain, eMt, bOf, eDict0, eRev, eListRg, iZipD, sRaise1, sRaise0, eCallV, List.lookup, R.bind_ok, R.bind_er, R.bind_stuck, R.toS_ok, R.toS_er, R.toS_stuck, SR.next_nx, SR.next_rt, SR.next_er, SR.next_bk, SR.next_ct, SR.next_stuck, sNil, sSeq, sBrk, sCnt, sExp, sRet, sRetN, sIf, sSet, sAsg, sAug, sPar2, sPar3, tN, DL.tTup, DL.tNil, DL.tCons, DL.tSub, iSeq, srcOf_tup, srcOf_fl, srcOf_kl, srcOf_ti, iRange1, iRange2, sFor, startD, List.map_cons, List.map_nil, List.length_cons, List.length_nil, List.replicate, List.cons_append, List.nil_append, List.getElem?_cons_zero, List.getElem?_cons_succ, List.set_cons_zero, List.set_cons_succ, dSub_int, dFdiv_int, dMod_int, dLt_int, dLe_int, dGt_int, dGe_int, dAddI_int, dSubI_int, dIsN_non, isN, dAdd_int, ll0, ll1, ll2, ll3, ll4, ll5, ll6, ll7, ll8, ll9, ll10, ll11, ll12, ll13, ll14, ll15, ll16, ll17, ll18, ll19, ll20, ll21, ll22, ll23, ll24, ll25, ll26, ll27, ll28, ll29, ll30, ll31, ll32, ll33, ll34, ll35, ll36, ll37, ll38, ll39, ll40, Nat.reduceSub, Nat.reduceAdd, Nat.reduceEqDiff, if_true, if_false, ifp_t, ifp_f, reduceIte, Bool.true_eq_false, Bool.false_eq_true, Option.map_some, Option.map_none, Option.bind_some, Option.bind_none, key, sum_fli]
  rfl
theorem length_ok (fs : List (Int × Int)) (hl : fs.length ≤ 100) (S : Sto) : F__law_length [.tup (fs.map dp)] S = .ok (.int (len fs)) S := by
  refine fnC_rt rfl ?_ rfl
  have hst : startD 3 [D.tup (fs.map dp)] = [some (.tup (fs.map dp)), none, none] := rfl
  rw [hst]
  unfold B__law_length
  have key := pair_lc (i := 0) (j := 1) (k := 2) (f := E1__law_length) (ρ := [some (.tup (fs.map dp)), none, none]) (S := S) (src := iSeq (eVar 0)) (fs := fs) (fun e => e.2) (fun e => [some (.tup (fs.map dp)), some (.int e.1), some (.int e.2)]) (iS_tup rfl S) hl (fun e _ S' => rfl) (fun e he S' => rfl)
  simp only [eVar, eC, eOp, eT, eAnd, eOr, eNot, eIf, eAndV, eOrV, eNotV, eCall, aNil, aCons, aStar, sOf, eTup, eFl, eLoc, eSl, oNone, oSome, iOf, eNeg, eChain, eMt, bOf, eDict0, eRev, eListRg, iZipD, sRaise1, sRaise0, eCallV, List.lookup, R.bind_ok, R.bind_er, R.bind_stuck, R.toS_ok, R.toS_er, R.toS_stuck, SR.next_nx, SR.next_rt, SR.next_er, SR.next_bk, SR.next_ct, SR.next_stuck, sNil, sSeq, sBrk, sCnt, sExp, sRet, sRetN, sIf, sSet, sAsg, sAug, sPar2, sPar3, tN, DL.tTup, DL.tNil, DL.tCons, DL.tSub, iSeq, srcOf_tup, srcOf_fl, srcOf_kl, srcOf_ti, iRange1, iRange2, sFor, startD, List.map_cons, List.map_nil, List.length_cons, List.length_nil, List.replicate, List.cons_append, List.nil_append, List.getElem?_cons_zero, List.getElem?_cons_succ, List.set_cons_zero, List.set_cons_succ, dSub_int, dFdiv_int, dMod_int, dLt_int, dLe_int, dGt_int, dGe_int, dAddI_int, dSubI_int, dIsN_non, isN, dAdd_int, ll0, ll1, ll2, ll3, ll4, ll5, ll6, ll7, ll8, ll9, ll10, ll11, ll12, ll13, ll14, ll15, ll16, ll17, ll18, ll19, ll20, ll21, ll22, ll23, ll24, ll25, ll26, ll27, ll28, ll29, ll30, ll31, ll32, ll33, ll34, ll35, ll36, ll37, ll38, ll39, ll40, Nat.reduceSub, Nat.reduceAdd, Nat.reduceEqDiff, if_true, if_false, ifp_t, ifp_f, reduceIte, Bool.true_eq_false, Bool.false_eq_true, Option.map_some, Option.map_none, Option.bind_some, Option.bind_none, key, sum_fli]
  rfl
theorem tokens_loop (x0 : Option D) (S : Sto) : ∀ (fs : List (Int × Int)) (acc : List Int) (x2 x3 : Option D), (∀ e ∈ fs, Run e) → (acc.length : Int) + len fs < 200 →
    ∃ y2 y3, forD yes (tTup 2 (tCons (tN 2) (tCons (tN 3) tNil))) L1__law_tokens sNil (fs.map dp) [x0, some (ti acc), x2, x3] S = .nx [x0, some (ti (acc ++ toks fs)), y2, y3] S
  | [], acc, x2, x3, _, _ => ⟨x2, x3, by
      rw [show toks [] = [] from rfl, List.append_nil]
      exact forD_nil trivial⟩
  | e :: fs, acc, x2, x3, hr, hl => by
    have h := hr e List.mem_cons_self
    have hr' : ∀ e ∈ fs, Run e := fun x hx => hr x (List.mem_cons_of_mem _ hx)
    have c1 := h.c1
    have hlen : len (e :: fs) = e.2 + len fs := by unfold len; rw [List.map_cons, List.sum_cons]
    have hp : 0 ≤ len fs := by rw [← toks_len fs hr']; omega
    obtain ⟨n, hn⟩ : ∃ n : Nat, e.2 = n := ⟨e.2.toNat, by omega⟩
    obtain ⟨y2, y3, ih⟩ := tokens_loop x0 S fs (acc ++ List.replicate n e.1) (some (.int e.1)) (some (.int e.2)) hr' (by simp; omega)
    refine ⟨y2, y3, ?_⟩
    have m1 : ∀ S, dMulT (.tup [.int e.1]) (.int (n : Int)) S = .ok (ti (List.replicate n e.1)) S := fun S => by
      show ifp (-(2 ^ 63) ≤ (n : Int) ∧ (n : Int) ≤ 1000 ∧ [D.int e.1].length ≤ 1000) (R.ok (D.tup (List.replicate (n : Int).toNat [D.int e.1]).flatten) S) .stuck = _
      rw [ifp_pos ⟨by omega, by omega, by simp⟩]
      have : (List.replicate n [D.int e.1]).flatten = (List.replicate n e.1).map D.int := by
        rw [List.map_replicate]
        induction n with
        | zero => rfl
        | succ n ih => simp [List.replicate_succ]
      rw [Int.toNat_natCast, this]; rfl
    have ad := add_ti acc (List.replicate n e.1) (by rw [List.length_replicate]; exact Nat.le_trans (show acc.length + n ≤ 200 by omega) (by decide))
    rw [List.map_cons, forD_cons (ρ1 := [x0, some (ti acc), some (.int e.1), some (.int e.2)]) (S1 := S) (ρ2 := [x0, some (ti (acc ++ List.replicate n e.1)), some (.int e.1), some (.int e.2)]) (S2 := S) trivial rfl ?_]
    · rw [ih]
      have : toks (e :: fs) = List.replicate n e.1 ++ toks fs := by
        unfold toks
        rw [List.map_cons, List.flatten_cons, hn, Int.toNat_natCast]
      rw [this, List.append_assoc]
    · rw [hn]
      simp only [eVar, eC, eOp, eT, eAnd, eOr, eNot, eIf, eAndV, eOrV, eNotV, eCall, aNil, aCons, aStar, sOf, eTup, eFl, eLoc, eSl, oNone, oSome, iOf, eNeg, eChain, eMt, bOf, eDict0, eRev, eListRg, iZipD, sRaise1, sRaise0, eCallV, List.lookup, R.bind_ok, R.bind_er, R.bind_stuck, R.toS_ok, R.toS_er, R.toS_stuck, SR.next_nx, SR.next_rt, SR.next_er, SR.next_bk, SR.next_ct, SR.next_stuck, sNil, sSeq, sBrk, sCnt, sExp, sRet, sRetN, sIf, sSet, sAsg, sAug, sPar2, sPar3, tN, DL.tTup, DL.tNil, DL.tCons, DL.tSub, iSeq, srcOf_tup, srcOf_fl, srcOf_kl, srcOf_ti, iRange1, iRange2, sFor, startD, List.map_cons, List.map_nil, List.length_cons, List.length_nil, List.replicate, List.cons_append, List.nil_append, List.getElem?_cons_zero, List.getElem?_cons_succ, List.set_cons_zero, List.set_cons_succ, dSub_int, dFdiv_int, dMod_int, dLt_int, dLe_int, dGt_int, dGe_int, dAddI_int, dSubI_int, dIsN_non, isN, dAdd_int, ll0, ll1, ll2, ll3, ll4, ll5, ll6, ll7, ll8, ll9, ll10, ll11, ll12, ll13, ll14, ll15, ll16, ll17, ll18, ll19, ll20, ll21, ll22, ll23, ll24, ll25, ll26, ll27, ll28, ll29, ll30, ll31, ll32, ll33, ll34, ll35, ll36, ll37, ll38, ll39, ll40, Nat.reduceSub, Nat.reduceAdd, Nat.reduceEqDiff, if_true, if_false, ifp_t, ifp_f, reduceIte, Bool.true_eq_false, Bool.false_eq_true, Option.map_some, Option.map_none, Option.bind_some, Option.bind_none, L1__law_tokens, m1, ad]
theorem tokens_ok (fs : List (Int × Int)) (hr : ∀ e ∈ fs, Run e) (hl : len fs < 200) (S : Sto) : F__law_tokens [.tup (fs.map dp)] S = .ok (ti (toks fs)) S := by
  refine fnC_rt rfl ?_ rfl
  have hst : startD 4 [D.tup (fs.map dp)] = [some (.tup (fs.map dp)), none, none, none] := rfl
  rw [hst]
  unfold B__law_tokens
  obtain ⟨y2, y3, h⟩ := tokens_loop (some (.tup (fs.map dp))) S fs [] none none hr (by simpa using hl)
  have h' : forD yes (tTup 2 (tCons (tN 2) (tCons (tN 3) tNil))) L1__law_tokens sNil (fs.map dp) [some (.tup (fs.map dp)), some (.tup []), none, none] S = .nx [some (.tup (fs.map dp)), some (ti (toks fs)), y2, y3] S := h
  simp only [eVar, eC, eOp, eT, eAnd, eOr, eNot, eIf, eAndV, eOrV, eNotV, eCall, aNil, aCons, aStar, sOf, eTup, eFl, eLoc, eSl, oNone, oSome, iOf, eNeg, eChain, eMt, bOf, eDict0, eRev, eListRg, iZipD, sRaise1, sRaise0, eCallV, List.lookup, R.bind_ok, R.bind_er, R.bind_stuck, R.toS_ok, R.toS_er, R.toS_stuck, SR.next_nx, SR.next_rt, SR.next_er, SR.next_bk, SR.next_ct, SR.next_stuck, sNil, sSeq, sBrk, sCnt, sExp, sRet, sRetN, sIf, sSet, sAsg, sAug, sPar2, sPar3, tN, DL.tTup, DL.tNil, DL.tCons, DL.tSub, iSeq, srcOf_tup, srcOf_fl, srcOf_kl, srcOf_ti, iRange1, iRange2, sFor, startD, List.map_cons, List.map_nil, List.length_cons, List.length_nil, List.replicate, List.cons_append, List.nil_append, List.getElem?_cons_zero, List.getElem?_cons_succ, List.set_cons_zero, List.set_cons_succ, dSub_int, dFdiv_int, dMod_int, dLt_int, dLe_int, dGt_int, dGe_int, dAddI_int, dSubI_int, dIsN_non, isN, dAdd_int, ll0, ll1, ll2, ll3, ll4, ll5, ll6, ll7, ll8, ll9, ll10, ll11, ll12, ll13, ll14, ll15, ll16, ll17, ll18, ll19, ll20, ll21, ll22, ll23, ll24, ll25, ll26, ll27, ll28, ll29, ll30, ll31, ll32, ll33, ll34, ll35, ll36, ll37, ll38, ll39, ll40, Nat.reduceSub, Nat.reduceAdd, Nat.reduceEqDiff, if_true, if_false, ifp_t, ifp_f, reduceIte, Bool.true_eq_false, Bool.false_eq_true, Option.map_some, Option.map_none, Option.bind_some, Option.bind_none, h']
theorem low_step {e : Int × Int} (h : Run e) (hg : Int) : max 0 (1 - min (hg + 1 - e.1) (hg + (1 - e.1) * e.2)) = max 0 ((rp (e.1, 1) e.2).1 - hg) := by
  obtain ⟨a, c⟩ := e
  obtain ⟨a0, a5, c1, cM⟩ := h
  simp only at a0 a5 c1 cM ⊢
  rw [rp_pos (by omega)]
  simp only
  by_cases h0 : a ≤ 1
  · rw [if_pos h0]
    simp only
    have : a = 0 ∨ a = 1 := by omega
    rcases this with rfl | rfl
    · simp only [Int.sub_zero, Int.one_mul]; omega
    · simp only [Int.sub_self, Int.zero_mul]; omega
  · rw [if_neg h0]
    simp only
    have e1 : (1 - a) * c = -((a - 1) * c) := by rw [← Int.neg_mul]; congr 1; omega
    have e2 : (c - 1) * (a - 1) = (a - 1) * c - (a - 1) := by rw [Int.mul_comm, Int.mul_sub, Int.mul_one]
    have e3 : (a - 1) ≤ (a - 1) * c := by
      have := Int.mul_le_mul_of_nonneg_left c1 (show 0 ≤ a - 1 by omega)
      rw [Int.mul_one] at this
      exact this
    rw [e1, e2]
    omega
def optD : Option Int → D
  | none => .non
  | some v => .int v
def needs : Option Int → Int
  | none => 0
  | some v => max 0 (1 - v)
theorem lowest_loop (x0 : Option D) (S : Sto) : ∀ (fs pre : List (Int × Int)) (v : Option Int) (x3 x4 x5 : Option D), (∀ e ∈ fs, Run e) → needs v = ne (toks pre) →
    ∃ v' y3 y4 y5, forD yes (tTup 2 (tCons (tN 3) (tCons (tN 4) tNil))) L1__law_lowest sNil (fs.map dp) [x0, some (.int (ht (toks pre))), some (optD v), x3, x4, x5] S = .nx [x0, some (.int (ht (toks (pre ++ fs)))), some (optD v'), y3, y4, y5] S ∧ needs v' = ne (toks (pre ++ fs)) ∧ (fs ≠ [] → v' ≠ none)
  | [], pre, v, x3, x4, x5, _, hv => ⟨v, x3, x4, x5, by rw [List.append_nil]; exact forD_nil trivial, by rw [List.append_nil]; exact hv, fun h => absurd rfl h⟩
  | e :: fs, pre, v, x3, x4, x5, hr, hv => by
    have h := hr e List.mem_cons_self
    have hr' : ∀ e ∈ fs, Run e := fun x hx => hr x (List.mem_cons_of_mem _ hx)
    have a0 := h.a0
    have a5 := h.a5
    have c1 := h.c1
    generalize hH : ht (toks pre) = H
    have happ : toks (pre ++ [e]) = toks pre ++ List.replicate e.2.toNat e.1 := by
      unfold toks
      rw [List.map_append, List.flatten_append]; simp
    have hht : ht (toks (pre ++ [e])) = H + (1 - e.1) * e.2 := by
      rw [← hH, happ, ht_eq, ht_eq, List.length_append, List.sum_append, sum_rep, List.length_replicate]
      have e1 : ((e.2.toNat : Nat) : Int) = e.2 := by omega
      rw [Int.natCast_add, e1, Int.sub_mul, Int.one_mul]; omega
    have hne : ne (toks (pre ++ [e])) = max (needs v) ((rp (e.1, 1) e.2).1 - H) := by
      have : ne (List.replicate e.2.toNat e.1) = (rp (e.1, 1) e.2).1 := by rw [← eff_run h]; rfl
      rw [happ, ne_app, this, hv, hH]
    have ls := low_step h H
    have hnv : 0 ≤ needs v := by rw [hv]; exact ne_nn _
    obtain ⟨v1, hv1, hm⟩ : ∃ v1 : Int, needs (some v1) = ne (toks (pre ++ [e])) ∧ ∀ S, (eCall bMinT (aCons (eIf (eT (eOp (dIsN false) (eVar 2) (eC .non))) (eVar 5) (eOp dAdd (eFl (aCons (eVar 2) aNil)) (eVar 5))) aNil)) [x0, some (.int H), some (optD v), some (.int e.1), some (.int e.2), some (.fl [.int (H + 1 - e.1), .int (H + (1 - e.1) * e.2)])] S = .ok (.int v1) S := by
      cases v with
      | none =>
        refine ⟨min (H + 1 - e.1) (H + (1 - e.1) * e.2), ?_, fun S => ?_⟩
        · rw [hne]
          show max 0 (1 - _) = max 0 _
          rw [ls]
        · have i1 : ∀ S, dIsN false .non .non S = .ok (.bl true) S := fun S => rfl
          have m1 : ∀ i j S, bMinT [.fl [.int i, .int j]] S = .ok (.int (min i j)) S := fun i j S => rfl
          simp only [eVar, eC, eOp, eT, eAnd, eOr, eNot, eIf, eAndV, eOrV, eNotV, eCall, aNil, aCons, aStar, sOf, eTup, eFl, eLoc, eSl, oNone, oSome, iOf, eNeg, eChain, eMt, bOf, eDict0, eRev, eListRg, iZipD, sRaise1, sRaise0, eCallV, List.lookup, R.bind_ok, R.bind_er, R.bind_stuck, R.toS_ok, R.toS_er, R.toS_stuck, SR.next_nx, SR.next_rt, SR.next_er, SR.next_bk, SR.next_ct, SR.next_stuck, sNil, sSeq, sBrk, sCnt, sExp, sRet, sRetN, sIf, sSet, sAsg, sAug, sPar2, sPar3, tN, DL.tTup, DL.tNil, DL.tCons, DL.tSub, iSeq, srcOf_tup, srcOf_fl, srcOf_kl, srcOf_ti, iRange1, iRange2, sFor, startD, List.map_cons, List.map_nil, List.length_cons, List.length_nil, List.replicate, List.cons_append, List.nil_append, List.getElem?_cons_zero, List.getElem?_cons_succ, List.set_cons_zero, List.set_cons_succ, dSub_int, dFdiv_int, dMod_int, dLt_int, dLe_int, dGt_int, dGe_int, dAddI_int, dSubI_int, dIsN_non, isN, dAdd_int, ll0, ll1, ll2, ll3, ll4, ll5, ll6, ll7, ll8, ll9, ll10, ll11, ll12, ll13, ll14, ll15, ll16, ll17, ll18, ll19, ll20, ll21, ll22, ll23, ll24, ll25, ll26, ll27, ll28, ll29, ll30, ll31, ll32, ll33, ll34, ll35, ll36, ll37, ll38, ll39, ll40, Nat.reduceSub, Nat.reduceAdd, Nat.reduceEqDiff, if_true, if_false, ifp_t, ifp_f, reduceIte, Bool.true_eq_false, Bool.false_eq_true, Option.map_some, Option.map_none, Option.bind_some, Option.bind_none, optD, i1, m1]
      | some w =>
        refine ⟨min (min w (H + 1 - e.1)) (H + (1 - e.1) * e.2), ?_, fun S => ?_⟩
        · rw [hne]
          show max 0 (1 - _) = max (max 0 (1 - w)) _
          omega
        · have i1 : ∀ S, dIsN false (.int w) .non S = .ok (.bl false) S := fun S => rfl
          have a1 : ∀ i j S, dAdd (.fl [.int w]) (.fl [.int i, .int j]) S = .ok (.fl [.int w, .int i, .int j]) S := fun i j S => add_fl [.int w] _ (by simp) S
          have m1 : ∀ i j k S, bMinT [.fl [.int i, .int j, .int k]] S = .ok (.int (min (min i j) k)) S := fun i j k S => rfl
          simp only [eVar, eC, eOp, eT, eAnd, eOr, eNot, eIf, eAndV, eOrV, eNotV, eCall, aNil, aCons, aStar, sOf, eTup, eFl, eLoc, eSl, oNone, oSome, iOf, eNeg, eChain, eMt, bOf, eDict0, eRev, eListRg, iZipD, sRaise1, sRaise0, eCallV, List.lookup, R.bind_ok, R.bind_er, R.bind_stuck, R.toS_ok, R.toS_er, R.toS_stuck, SR.next_nx, SR.next_rt, SR.next_er, SR.next_bk, SR.next_ct, SR.next_stuck, sNil, sSeq, sBrk, sCnt, sExp, sRet, sRetN, sIf, sSet, sAsg, sAug, sPar2, sPar3, tN, DL.tTup, DL.tNil, DL.tCons, DL.tSub, iSeq, srcOf_tup, srcOf_fl, srcOf_kl, srcOf_ti, iRange1, iRange2, sFor, startD, List.map_cons, List.map_nil, List.length_cons, List.length_nil, List.replicate, List.cons_append, List.nil_append, List.getElem?_cons_zero, List.getElem?_cons_succ, List.set_cons_zero, List.set_cons_succ, dSub_int, dFdiv_int, dMod_int, dLt_int, dLe_int, dGt_int, dGe_int, dAddI_int, dSubI_int, dIsN_non, isN, dAdd_int, ll0, ll1, ll2, ll3, ll4, ll5, ll6, ll7, ll8, ll9, ll10, ll11, ll12, ll13, ll14, ll15, ll16, ll17, ll18, ll19, ll20, ll21, ll22, ll23, ll24, ll25, ll26, ll27, ll28, ll29, ll30, ll31, ll32, ll33, ll34, ll35, ll36, ll37, ll38, ll39, ll40, Nat.reduceSub, Nat.reduceAdd, Nat.reduceEqDiff, if_true, if_false, ifp_t, ifp_f, reduceIte, Bool.true_eq_false, Bool.false_eq_true, Option.map_some, Option.map_none, Option.bind_some, Option.bind_none, optD, i1, a1, m1]
    obtain ⟨v', y3, y4, y5, ih, ih2, ih3⟩ := lowest_loop x0 S fs (pre ++ [e]) (some v1) (some (.int e.1)) (some (.int e.2)) (some (.fl [.int (H + 1 - e.1), .int (H + (1 - e.1) * e.2)])) hr' hv1
    rw [hht] at ih
    have ea : pre ++ [e] ++ fs = pre ++ e :: fs := by simp
    rw [ea] at ih ih2
    refine ⟨v', y3, y4, y5, ?_, ih2, fun _ => ?_⟩
    · have mm := mulT_int (i := 1 - e.1) (j := e.2) (by omega)
      have i1 : ∀ S, dIx (.fl [.int (H + 1 - e.1), .int (H + (1 - e.1) * e.2)]) (.int 1) S = .ok (.int (H + (1 - e.1) * e.2)) S := fun S => rfl
      rw [List.map_cons, forD_cons (ρ1 := [x0, some (.int H), some (optD v), some (.int e.1), some (.int e.2), x5]) (S1 := S) (ρ2 := [x0, some (.int (H + (1 - e.1) * e.2)), some (.int v1), some (.int e.1), some (.int e.2), some (.fl [.int (H + 1 - e.1), .int (H + (1 - e.1) * e.2)])]) (S2 := S) trivial rfl ?_]
      · exact ih
      · have st1 : (sSet 5 (eFl (aCons (eOp dSub (eOp dAdd (eVar 1) (eC (.int 1))) (eVar 3)) (aCons (eOp dAdd (eVar 1) (eOp dMulT (eOp dSub (eC (.int 1)) (eVar 3)) (eVar 4))) aNil)))) [x0, some (.int H), some (optD v), some (.int e.1), some (.int e.2), x5] S = .nx [x0, some (.int H), some (optD v), some (.int e.1), some (.int e.2), some (.fl [.int (H + 1 - e.1), .int (H + (1 - e.1) * e.2)])] S := by
          simp only [eVar, eC, eOp, eT, eAnd, eOr, eNot, eIf, eAndV, eOrV, eNotV, eCall, aNil, aCons, aStar, sOf, eTup, eFl, eLoc, eSl, oNone, oSome, iOf, eNeg, eChain, eMt, bOf, eDict0, eRev, eListRg, iZipD, sRaise1, sRaise0, eCallV, List.lookup, R.bind_ok, R.bind_er, R.bind_stuck, R.toS_ok, R.toS_er, R.toS_stuck, SR.next_nx, SR.next_rt, SR.next_er, SR.next_bk, SR.next_ct, SR.next_stuck, sNil, sSeq, sBrk, sCnt, sExp, sRet, sRetN, sIf, sSet, sAsg, sAug, sPar2, sPar3, tN, DL.tTup, DL.tNil, DL.tCons, DL.tSub, iSeq, srcOf_tup, srcOf_fl, srcOf_kl, srcOf_ti, iRange1, iRange2, sFor, startD, List.map_cons, List.map_nil, List.length_cons, List.length_nil, List.replicate, List.cons_append, List.nil_append, List.getElem?_cons_zero, List.getElem?_cons_succ, List.set_cons_zero, List.set_cons_succ, dSub_int, dFdiv_int, dMod_int, dLt_int, dLe_int, dGt_int, dGe_int, dAddI_int, dSubI_int, dIsN_non, isN, dAdd_int, ll0, ll1, ll2, ll3, ll4, ll5, ll6, ll7, ll8, ll9, ll10, ll11, ll12, ll13, ll14, ll15, ll16, ll17, ll18, ll19, ll20, ll21, ll22, ll23, ll24, ll25, ll26, ll27, ll28, ll29, ll30, ll31, ll32, ll33, ll34, ll35, ll36, ll37, ll38, ll39, ll40, Nat.reduceSub, Nat.reduceAdd, Nat.reduceEqDiff, if_true, if_false, ifp_t, ifp_f, reduceIte, Bool.true_eq_false, Bool.false_eq_true, Option.map_some, Option.map_none, Option.bind_some, Option.bind_none, mm]
        have st2 : (sSet 2 (eCall bMinT (aCons (eIf (eT (eOp (dIsN false) (eVar 2) (eC .non))) (eVar 5) (eOp dAdd (eFl (aCons (eVar 2) aNil)) (eVar 5))) aNil))) [x0, some (.int H), some (optD v), some (.int e.1), some (.int e.2), some (.fl [.int (H + 1 - e.1), .int (H + (1 - e.1) * e.2)])] S = .nx [x0, some (.int H), some (.int v1), some (.int e.1), some (.int e.2), some (.fl [.int (H + 1 - e.1), .int (H + (1 - e.1) * e.2)])] S := by
          unfold sSet
          rw [hm S]
          rfl
        unfold L1__law_lowest
        rw [sSeq, st1, SR.next_nx, sSeq, st2, SR.next_nx]
        simp only [eVar, eC, eOp, eT, eAnd, eOr, eNot, eIf, eAndV, eOrV, eNotV, eCall, aNil, aCons, aStar, sOf, eTup, eFl, eLoc, eSl, oNone, oSome, iOf, eNeg, eChain, eMt, bOf, eDict0, eRev, eListRg, iZipD, sRaise1, sRaise0, eCallV, List.lookup, R.bind_ok, R.bind_er, R.bind_stuck, R.toS_ok, R.toS_er, R.toS_stuck, SR.next_nx, SR.next_rt, SR.next_er, SR.next_bk, SR.next_ct, SR.next_stuck, sNil, sSeq, sBrk, sCnt, sExp, sRet, sRetN, sIf, sSet, sAsg, sAug, sPar2, sPar3, tN, DL.tTup, DL.tNil, DL.tCons, DL.tSub, iSeq, srcOf_tup, srcOf_fl, srcOf_kl, srcOf_ti, iRange1, iRange2, sFor, startD, List.map_cons, List.map_nil, List.length_cons, List.length_nil, List.replicate, List.cons_append, List.nil_append, List.getElem?_cons_zero, List.getElem?_cons_succ, List.set_cons_zero, List.set_cons_succ, dSub_int, dFdiv_int, dMod_int, dLt_int, dLe_int, dGt_int, dGe_int, dAddI_int, dSubI_int, dIsN_non, isN, dAdd_int, ll0, ll1, ll2, ll3, ll4, ll5, ll6, ll7, ll8, ll9, ll10, ll11, ll12, ll13, ll14, ll15, ll16, ll17, ll18, ll19, ll20, ll21, ll22, ll23, ll24, ll25, ll26, ll27, ll28, ll29, ll30, ll31, ll32, ll33, ll34, ll35, ll36, ll37, ll38, ll39, ll40, Nat.reduceSub, Nat.reduceAdd, Nat.reduceEqDiff, if_true, if_false, ifp_t, ifp_f, reduceIte, Bool.true_eq_false, Bool.false_eq_true, Option.map_some, Option.map_none, Option.bind_some, Option.bind_none, i1]
    · cases fs with
      | nil =>
        have : v' = some v1 := by
          rw [List.map_nil, forD_nil trivial] at ih
          simp only [sNil, SR.nx.injEq, List.cons.injEq, Option.some.injEq] at ih
          have h2 := ih.1.2.2.1
          cases v' with
          | none => cases h2
          | some w => cases h2; rfl
        rw [this]; simp
      | cons f fs => exact ih3 (by simp)
theorem lowest_ok (fs : List (Int × Int)) (hf : fs ≠ []) (hr : ∀ e ∈ fs, Run e) (S : Sto) : ∃ w hgt : Int, F__law_lowest [.tup (fs.map dp)] S = .ok (.fl [.int w, .int hgt]) S ∧ max 0 (1 - w) = ne (toks fs) := by
  obtain ⟨v', y3, y4, y5, h1, h2, h3⟩ := lowest_loop (some (.tup (fs.map dp))) S fs [] none none none none hr rfl
  rw [List.nil_append] at h1 h2
  obtain ⟨w, rfl⟩ : ∃ w, v' = some w := by
    cases v' with
    | none => exact absurd rfl (h3 hf)
    | some w => exact ⟨w, rfl⟩
  refine ⟨w, ht (toks fs), ?_, h2⟩
  refine fnC_rt rfl ?_ rfl
  have hst : startD 6 [D.tup (fs.map dp)] = [some (.tup (fs.map dp)), none, none, none, none, none] := rfl
  rw [hst]
  unfold B__law_lowest
  have h1' : forD yes (tTup 2 (tCons (tN 3) (tCons (tN 4) tNil))) L1__law_lowest sNil (fs.map dp) [some (.tup (fs.map dp)), some (.int 0), some .non, none, none, none] S = .nx [some (.tup (fs.map dp)), some (.int (ht (toks fs))), some (.int w), y3, y4, y5] S := h1
  simp only [eVar, eC, eOp, eT, eAnd, eOr, eNot, eIf, eAndV, eOrV, eNotV, eCall, aNil, aCons, aStar, sOf, eTup, eFl, eLoc, eSl, oNone, oSome, iOf, eNeg, eChain, eMt, bOf, eDict0, eRev, eListRg, iZipD, sRaise1, sRaise0, eCallV, List.lookup, R.bind_ok, R.bind_er, R.bind_stuck, R.toS_ok, R.toS_er, R.toS_stuck, SR.next_nx, SR.next_rt, SR.next_er, SR.next_bk, SR.next_ct, SR.next_stuck, sNil, sSeq, sBrk, sCnt, sExp, sRet, sRetN, sIf, sSet, sAsg, sAug, sPar2, sPar3, tN, DL.tTup, DL.tNil, DL.tCons, DL.tSub, iSeq, srcOf_tup, srcOf_fl, srcOf_kl, srcOf_ti, iRange1, iRange2, sFor, startD, List.map_cons, List.map_nil, List.length_cons, List.length_nil, List.replicate, List.cons_append, List.nil_append, List.getElem?_cons_zero, List.getElem?_cons_succ, List.set_cons_zero, List.set_cons_succ, dSub_int, dFdiv_int, dMod_int, dLt_int, dLe_int, dGt_int, dGe_int, dAddI_int, dSubI_int, dIsN_non, isN, dAdd_int, ll0, ll1, ll2, ll3, ll4, ll5, ll6, ll7, ll8, ll9, ll10, ll11, ll12, ll13, ll14, ll15, ll16, ll17, ll18, ll19, ll20, ll21, ll22, ll23, ll24, ll25, ll26, ll27, ll28, ll29, ll30, ll31, ll32, ll33, ll34, ll35, ll36, ll37, ll38, ll39, ll40, Nat.reduceSub, Nat.reduceAdd, Nat.reduceEqDiff, if_true, if_false, ifp_t, ifp_f, reduceIte, Bool.true_eq_false, Bool.false_eq_true, Option.map_some, Option.map_none, Option.bind_some, Option.bind_none, h1']
theorem due_ok (fs : List (Int × Int)) (hf : fs ≠ []) (hl : fs.length ≤ 40) (hr : ∀ e ∈ fs, Run e) (S : Sto) : F__law_due [.tup (fs.map dp)] S = .ok (dp (eff (toks fs))) S := by
  refine fnC_rt rfl ?_ rfl
  have hst : startD 2 [D.tup (fs.map dp)] = [some (.tup (fs.map dp)), none] := rfl
  rw [hst]
  unfold B__law_due
  have l1 := length_ok fs (by omega)
  by_cases h2 : len fs < 200
  · have tk := tokens_ok fs hr h2
    have ms := missing_ok (toks fs)
    have e1 : ∀ S, bTuple [.fl [.int (ne (toks fs)), .int (ht (toks fs) + ne (toks fs))]] S = .ok (dp (eff (toks fs))) S := fun S => by
      have e2 : ht (toks fs) + ne (toks fs) = ne (toks fs) + (((toks fs).length : Int) - (toks fs).sum) := by rw [ht_eq]; omega
      show R.ok (D.tup [.int (ne (toks fs)), .int (ht (toks fs) + ne (toks fs))]) S = R.ok (D.tup [.int (ne (toks fs)), .int (ne (toks fs) + (((toks fs).length : Int) - (toks fs).sum))]) S
      rw [e2]
    simp only [eVar, eC, eOp, eT, eAnd, eOr, eNot, eIf, eAndV, eOrV, eNotV, eCall, aNil, aCons, aStar, sOf, eTup, eFl, eLoc, eSl, oNone, oSome, iOf, eNeg, eChain, eMt, bOf, eDict0, eRev, eListRg, iZipD, sRaise1, sRaise0, eCallV, List.lookup, R.bind_ok, R.bind_er, R.bind_stuck, R.toS_ok, R.toS_er, R.toS_stuck, SR.next_nx, SR.next_rt, SR.next_er, SR.next_bk, SR.next_ct, SR.next_stuck, sNil, sSeq, sBrk, sCnt, sExp, sRet, sRetN, sIf, sSet, sAsg, sAug, sPar2, sPar3, tN, DL.tTup, DL.tNil, DL.tCons, DL.tSub, iSeq, srcOf_tup, srcOf_fl, srcOf_kl, srcOf_ti, iRange1, iRange2, sFor, startD, List.map_cons, List.map_nil, List.length_cons, List.length_nil, List.replicate, List.cons_append, List.nil_append, List.getElem?_cons_zero, List.getElem?_cons_succ, List.set_cons_zero, List.set_cons_succ, dSub_int, dFdiv_int, dMod_int, dLt_int, dLe_int, dGt_int, dGe_int, dAddI_int, dSubI_int, dIsN_non, isN, dAdd_int, ll0, ll1, ll2, ll3, ll4, ll5, ll6, ll7, ll8, ll9, ll10, ll11, ll12, ll13, ll14, ll15, ll16, ll17, ll18, ll19, ll20, ll21, ll22, ll23, ll24, ll25, ll26, ll27, ll28, ll29, ll30, ll31, ll32, ll33, ll34, ll35, ll36, ll37, ll38, ll39, ll40, Nat.reduceSub, Nat.reduceAdd, Nat.reduceEqDiff, if_true, if_false, ifp_t, ifp_f, reduceIte, Bool.true_eq_false, Bool.false_eq_true, Option.map_some, Option.map_none, Option.bind_some, Option.bind_none, l1, h2, decide_true, tk, ms, e1]
  · obtain ⟨w, hg, lo, hw⟩ := lowest_ok fs hf hr S
    have to := total_ok fs (by omega) hr
    have i0 : ∀ S, dIx (.fl [.int w, .int hg]) (.int 0) S = .ok (.int w) S := fun S => rfl
    have e1 : dp (eff (toks fs)) = .tup [.int (ne (toks fs)), .int (ne (toks fs) + tot fs)] := by
      unfold dp eff
      rw [toks_bal fs hr]
    simp only [eVar, eC, eOp, eT, eAnd, eOr, eNot, eIf, eAndV, eOrV, eNotV, eCall, aNil, aCons, aStar, sOf, eTup, eFl, eLoc, eSl, oNone, oSome, iOf, eNeg, eChain, eMt, bOf, eDict0, eRev, eListRg, iZipD, sRaise1, sRaise0, eCallV, List.lookup, R.bind_ok, R.bind_er, R.bind_stuck, R.toS_ok, R.toS_er, R.toS_stuck, SR.next_nx, SR.next_rt, SR.next_er, SR.next_bk, SR.next_ct, SR.next_stuck, sNil, sSeq, sBrk, sCnt, sExp, sRet, sRetN, sIf, sSet, sAsg, sAug, sPar2, sPar3, tN, DL.tTup, DL.tNil, DL.tCons, DL.tSub, iSeq, srcOf_tup, srcOf_fl, srcOf_kl, srcOf_ti, iRange1, iRange2, sFor, startD, List.map_cons, List.map_nil, List.length_cons, List.length_nil, List.replicate, List.cons_append, List.nil_append, List.getElem?_cons_zero, List.getElem?_cons_succ, List.set_cons_zero, List.set_cons_succ, dSub_int, dFdiv_int, dMod_int, dLt_int, dLe_int, dGt_int, dGe_int, dAddI_int, dSubI_int, dIsN_non, isN, dAdd_int, ll0, ll1, ll2, ll3, ll4, ll5, ll6, ll7, ll8, ll9, ll10, ll11, ll12, ll13, ll14, ll15, ll16, ll17, ll18, ll19, ll20, ll21, ll22, ll23, ll24, ll25, ll26, ll27, ll28, ll29, ll30, ll31, ll32, ll33, ll34, ll35, ll36, ll37, ll38, ll39, ll40, Nat.reduceSub, Nat.reduceAdd, Nat.reduceEqDiff, if_true, if_false, ifp_t, ifp_f, reduceIte, Bool.true_eq_false, Bool.false_eq_true, Option.map_some, Option.map_none, Option.bind_some, Option.bind_none, l1, h2, decide_false, lo, i0, bMax_two, hw, to, e1]
end DL
namespace DL
open PySem PySem.Spec L2
open PyProof.Rows hiding St
theorem append_at {S : Sto} {n : Nat} {ds : List D} {d : D} (h : getL S n = some ds) (hl : ds.length < 10 ^ 6) : mAppend (.loc n) [d] S = .ok .non (S.set n (.lst (ds ++ [d]))) := by
  show (match getL S n with
    | some xs => ifp (xs.length < sizeLine) (R.ok D.non (S.set n (.lst (xs ++ [d])))) .stuck
    | none => .stuck) = _
  rw [h]
  exact ifp_pos (Nat.lt_of_lt_of_le hl (by decide))
theorem isLst_at {S : Sto} {n : Nat} {ds : List D} (h : getL S n = some ds) : isLst S (.loc n) = true := by
  unfold isLst
  rw [show lstOf S (.loc n) = some ds from h]; rfl
def two (S : Sto) (b a : List D) : Sto := S ++ [.lst b, .lst a]
end DL
namespace DL
open PySem PySem.Spec L2
open PyProof.Rows hiding St
theorem rg1 {ρ : Ev} {S S1 : Sto} {f : Ev → Sto → R D} (n : Nat) (hf : f ρ S = .ok (.int n) S1) (hn : n < 2 ^ 61) : iRange1 (aCons f aNil) ρ S = .ok (rangeD 0 n, yes) S1 := by
  have hr : ((-(2 ^ 62) : Int) ≤ (n : Int) ∧ (n : Int) < 2 ^ 62) = True := by simp; omega
  simp only [eVar, eC, eOp, eT, eAnd, eOr, eNot, eIf, eAndV, eOrV, eNotV, eCall, aNil, aCons, aStar, sOf, eTup, eFl, eLoc, eSl, oNone, oSome, iOf, eNeg, eChain, eMt, bOf, eDict0, eRev, eListRg, iZipD, sRaise1, sRaise0, eCallV, List.lookup, R.bind_ok, R.bind_er, R.bind_stuck, R.toS_ok, R.toS_er, R.toS_stuck, SR.next_nx, SR.next_rt, SR.next_er, SR.next_bk, SR.next_ct, SR.next_stuck, sNil, sSeq, sBrk, sCnt, sExp, sRet, sRetN, sIf, sSet, sAsg, sAug, sPar2, sPar3, tN, DL.tTup, DL.tNil, DL.tCons, DL.tSub, iSeq, srcOf_tup, srcOf_fl, srcOf_kl, srcOf_ti, iRange1, iRange2, sFor, startD, List.map_cons, List.map_nil, List.length_cons, List.length_nil, List.replicate, List.cons_append, List.nil_append, List.getElem?_cons_zero, List.getElem?_cons_succ, List.set_cons_zero, List.set_cons_succ, dSub_int, dFdiv_int, dMod_int, dLt_int, dLe_int, dGt_int, dGe_int, dAddI_int, dSubI_int, dIsN_non, isN, dAdd_int, ll0, ll1, ll2, ll3, ll4, ll5, ll6, ll7, ll8, ll9, ll10, ll11, ll12, ll13, ll14, ll15, ll16, ll17, ll18, ll19, ll20, ll21, ll22, ll23, ll24, ll25, ll26, ll27, ll28, ll29, ll30, ll31, ll32, ll33, ll34, ll35, ll36, ll37, ll38, ll39, ll40, Nat.reduceSub, Nat.reduceAdd, Nat.reduceEqDiff, if_true, if_false, ifp_t, ifp_f, reduceIte, Bool.true_eq_false, Bool.false_eq_true, Option.map_some, Option.map_none, Option.bind_some, Option.bind_none, tSq, sSet2, seqOf_fl, seqOf_tup, seqOf_ti, hf, hr, Int.toNat_natCast]
theorem lc_range {i : Nat} {E : Ev → Sto → R D} {ρ : Ev} {S : Sto} {src : Ev → Sto → R Src} (n : Nat) (g : Nat → D) (ρd : D → Ev) (hs : src ρ S = .ok (rangeD 0 n, yes) S)
    (h : ∀ k, k < n → ∀ S', tN i (.int (k : Int)) (wipeD ρ [i]) S' = some (ρd (.int (k : Int)), S') ∧ E (ρd (.int (k : Int))) S' = .ok (g k) S') (hn : n ≤ 10 ^ 6) (hlow : ∀ k m, low m (g k) = true) :
    eLc finFl src (tN i) [i] cYes E ρ S = .ok (.fl ((List.range n).map g)) S := by
  let un : D → D := fun d => match d with
    | .int k => g k.toNat
    | _ => .non
  rw [eLc_pure (src := src) (rangeD 0 n) ρd (fun _ => true) un hs (by
    intro d hd S'
    obtain ⟨k, hk⟩ := List.mem_iff_getElem?.mp hd
    obtain ⟨h1, rfl⟩ := rangeD_get hk
    rw [Int.zero_add]
    obtain ⟨h2, h3⟩ := h k h1 S'
    exact ⟨h2, rfl, fun _ => h3⟩) (by rw [rangeD_len]; exact Nat.le_trans hn (by decide)) (by
    intro d hd _
    obtain ⟨k, hk⟩ := List.mem_iff_getElem?.mp hd
    obtain ⟨h1, rfl⟩ := rangeD_get hk
    exact hlow _ _)]
  congr 2
  rw [List.filter_eq_self.mpr (fun _ _ => rfl)]
  unfold rangeD
  rw [List.map_map]
  apply List.map_congr_left
  intro k _
  show g ((0 : Int) + (k : Int)).toNat = g k
  rw [Int.zero_add, Int.toNat_natCast]
end DL
namespace DL
open PySem PySem.Spec L2
open PyProof.Rows hiding St
def lo : Int → Int → List (Int × Int) → Int
  | _, m, [] => m
  | h, m, e :: r => lo (h + (1 - e.1) * e.2) (min m (h + (1 - e.1) * e.2)) r
def addR (f : List (Int × Int)) (s m : Int) : List (Int × Int) := if 0 < m then (match f.getLast? with
    | some q => if q.2 = s - 1 then f.dropLast ++ [(q.1, s + m - 1)] else f ++ [(s, s + m - 1)]
    | none => [(s, s + m - 1)]) else f
def rg (ps : List Nat) : List (Int × Int) := ps.foldl (fun f (p : Nat) => addR f (p : Int) 1) []
end DL
namespace DL
open PySem PySem.Spec L2
open PyProof.Rows hiding St
def spr (e : Int × Int) : List Int := (List.range (e.2 - e.1 + 1).toNat).map fun (k : Nat) => e.1 + (k : Int)
theorem mem_spr {e : Int × Int} {x : Int} : x ∈ spr e ↔ e.1 ≤ x ∧ x ≤ e.2 := by
  unfold spr
  rw [List.mem_map]
  constructor
  · rintro ⟨k, hk, rfl⟩
    have := List.mem_range.mp hk
    omega
  · rintro ⟨h1, h2⟩
    exact ⟨(x - e.1).toNat, List.mem_range.mpr (by omega), by omega⟩
theorem spr_len (e : Int × Int) : (spr e).length = (e.2 - e.1 + 1).toNat := by unfold spr; simp
structure Rgs (f : List (Int × Int)) (ps : List Int) : Prop where
  sp : f.flatMap spr = ps
  le : ∀ e ∈ f, e.1 ≤ e.2
  gap : f.Pairwise fun a b => a.2 + 2 ≤ b.1
theorem Rgs.mem {f : List (Int × Int)} {ps : List Int} (h : Rgs f ps) {x : Int} : x ∈ ps ↔ ∃ e ∈ f, e.1 ≤ x ∧ x ≤ e.2 := by
  rw [← h.sp, List.mem_flatMap]
  simp only [mem_spr]
theorem Rgs.len {f : List (Int × Int)} {ps : List Int} (h : Rgs f ps) : (f.map fun e => e.2 - e.1 + 1).sum = (ps.length : Int) := by
  obtain ⟨sp, le, gap⟩ := h
  subst sp
  clear gap
  induction f with
  | nil => rfl
  | cons e f ih =>
    have he := le e List.mem_cons_self
    have := ih fun x hx => le x (List.mem_cons_of_mem _ hx)
    rw [List.map_cons, List.sum_cons, List.flatMap_cons, List.length_append, spr_len, Int.natCast_add, this]
    omega
end DL
namespace DL
open PySem PySem.Spec L2
open PyProof.Rows hiding St
/-- how many tokens are read until the height is not positive -/
def fstT : Int → List Int → Option Nat
  | _, [] => none
  | h, t :: r => if h + (1 - t) ≤ 0 then some 1 else (fstT (h + (1 - t)) r).map (· + 1)
theorem ht_cons (t : Int) (r : List Int) : ht (t :: r) = (1 - t) + ht r := by rw [ht_eq, ht_eq]; simp; omega
theorem ht_app (a b : List Int) : ht (a ++ b) = ht a + ht b := by rw [ht_eq, ht_eq, ht_eq]; simp [List.sum_append]; omega
theorem fst_some : ∀ {l : List Int} {h : Int} {s : Nat}, fstT h l = some s → 1 ≤ s ∧ s ≤ l.length ∧ h + ht (l.take s) ≤ 0 ∧ ∀ s', 1 ≤ s' → s' < s → 0 < h + ht (l.take s')
  | [], h, s, e => by simp [fstT] at e
  | t :: r, h, s, e => by
    rw [fstT] at e
    by_cases hc : h + (1 - t) ≤ 0
    · rw [if_pos hc] at e; cases e
      refine ⟨by omega, by simp, ?_, fun s' h1 h2 => by omega⟩
      rw [List.take_succ_cons, List.take_zero, ht_cons]
      have : ht [] = 0 := rfl
      omega
    · rw [if_neg hc] at e
      obtain ⟨k, hk, rfl⟩ := Option.map_eq_some_iff.mp e
      obtain ⟨i1, i2, i3, i4⟩ := fst_some hk
      refine ⟨by omega, by simp; omega, ?_, fun s' h1 h2 => ?_⟩
      · rw [List.take_succ_cons, ht_cons]; omega
      · obtain ⟨j, rfl⟩ : ∃ j, s' = j + 1 := ⟨s' - 1, by omega⟩
        rw [List.take_succ_cons, ht_cons]
        by_cases hj : j = 0
        · subst hj
          rw [List.take_zero]
          have : ht [] = 0 := rfl
          omega
        · have := i4 j (by omega) (by omega)
          omega
theorem fst_none : ∀ {l : List Int} {h : Int}, fstT h l = none → ∀ s', 1 ≤ s' → s' ≤ l.length → 0 < h + ht (l.take s')
  | [], h, e, s', h1, h2 => by simp at h2; omega
  | t :: r, h, e, s', h1, h2 => by
    rw [fstT] at e
    by_cases hc : h + (1 - t) ≤ 0
    · rw [if_pos hc] at e; cases e
    · rw [if_neg hc] at e
      have hr := Option.map_eq_none_iff.mp e
      obtain ⟨j, rfl⟩ : ∃ j, s' = j + 1 := ⟨s' - 1, by omega⟩
      rw [List.take_succ_cons, ht_cons]
      by_cases hj : j = 0
      · subst hj
        rw [List.take_zero]
        have : ht [] = 0 := rfl
        omega
      · have := fst_none hr j (by omega) (by simpa using h2)
        omega
theorem fst_of {l : List Int} {h : Int} {s : Nat} (h1 : 1 ≤ s) (h2 : s ≤ l.length) (h3 : h + ht (l.take s) ≤ 0) (h4 : ∀ s', 1 ≤ s' → s' < s → 0 < h + ht (l.take s')) : fstT h l = some s := by
  cases e : fstT h l with
  | none => have := fst_none e s h1 h2; omega
  | some k =>
    obtain ⟨i1, i2, i3, i4⟩ := fst_some e
    rcases Nat.lt_trichotomy k s with hk | hk | hk
    · have := h4 k i1 hk; omega
    · rw [hk]
    · have := i4 s h1 hk; omega
theorem fst_no {l : List Int} {h : Int} (h4 : ∀ s', 1 ≤ s' → s' ≤ l.length → 0 < h + ht (l.take s')) : fstT h l = none := by
  cases e : fstT h l with
  | none => rfl
  | some k =>
    obtain ⟨i1, i2, i3, i4⟩ := fst_some e
    have := h4 k i1 i2; omega
theorem fst_app : ∀ (a b : List Int) (h : Int), fstT h (a ++ b) = (match fstT h a with
    | some s => some s
    | none => (fstT (h + ht a) b).map (· + a.length))
  | [], b, h => by
    have : ht [] = 0 := rfl
    rw [List.nil_append, this, Int.add_zero]
    show _ = (fstT h b).map (· + 0)
    simp
  | t :: a, b, h => by
    rw [List.cons_append, fstT, fstT]
    by_cases hc : h + (1 - t) ≤ 0
    · rw [if_pos hc, if_pos hc]
    · rw [if_neg hc, if_neg hc, fst_app a b, ht_cons]
      cases fstT (h + (1 - t)) a with
      | some s => rfl
      | none =>
        simp only [Option.map_none, Option.map_map]
        rw [show h + (1 - t) + ht a = h + (1 - t + ht a) by omega]
        rfl
/-- the same for a run -/
def tu (h a c : Int) : Option Int := if a = 0 ∨ (a = 1 ∧ 0 < h) then none else if (if a = 1 then 1 else max 1 ((h + a - 2) / (a - 1))) ≤ c then some (if a = 1 then 1 else max 1 ((h + a - 2) / (a - 1))) else none
/-- the taker of a place of a ring -/
def tkr (l : List Int) (p : Nat) : Option Nat := (fstT 0 (rot l ((p + 1) % l.length))).map fun s => (p + s) % l.length
def optN : Option Nat → D
  | none => .non
  | some i => .int i
end DL
namespace DL
open PySem PySem.Spec L2
open PyProof.Rows hiding St
end DL
namespace DL
open PySem PySem.Spec L2
open PyProof.Rows hiding St
def okS (x : Str) : Prop := ∀ c ∈ x.cps.toList, c < 16 ^ 8
end DL
namespace DL
open PySem PySem.Spec L2
open PyProof.Rows hiding St
/-- n tokens of the ring read round and round, from a on -/
def tkn (l : List Int) (a n : Nat) : List Int := (List.range n).map fun i => (l[(a + i) % l.length]?).getD 0
theorem tkn_len (l : List Int) (a n : Nat) : (tkn l a n).length = n := by simp [tkn]
theorem tkn_succ (l : List Int) (a n : Nat) : tkn l a (n + 1) = tkn l a n ++ [(l[(a + n) % l.length]?).getD 0] := by simp [tkn, List.range_succ]
theorem tkn_get {l : List Int} {a n i : Nat} (h : i < (tkn l a n).length) : (tkn l a n)[i] = (l[(a + i) % l.length]?).getD 0 := by simp [tkn]
theorem tkn_app (l : List Int) (a : Nat) : ∀ n k, tkn l a (n + k) = tkn l a n ++ tkn l (a + n) k := fun n k => by
  refine List.ext_getElem (by simp [tkn_len]) fun i h1 h2 => ?_
  rw [tkn_get]
  rw [tkn_len] at h1
  by_cases hi : i < n
  · rw [List.getElem_append_left (by rw [tkn_len]; exact hi), tkn_get]
  · rw [List.getElem_append_right (by rw [tkn_len]; omega), tkn_get, tkn_len]
    congr 3
    omega
theorem tkn_take (l : List Int) (a : Nat) {n k : Nat} (h : k ≤ n) : (tkn l a n).take k = tkn l a k := by
  obtain ⟨j, rfl⟩ : ∃ j, n = k + j := ⟨n - k, by omega⟩
  rw [tkn_app, List.take_left' (tkn_len l a k)]
theorem tkn_round (l : List Int) (a n : Nat) : tkn l (a + l.length) n = tkn l a n := by
  unfold tkn
  refine List.map_congr_left fun i _ => ?_
  rw [show a + l.length + i = a + i + l.length by omega, Nat.add_mod_right]
theorem tkn_rot (l : List Int) (a : Nat) (h : 0 < l.length) : tkn l a l.length = rot l (a % l.length) := by
  have hm := Nat.mod_lt a h
  have er : rot l (a % l.length) = l.drop (a % l.length) ++ l.take (a % l.length) := rfl
  rw [er]
  refine List.ext_getElem (by rw [tkn_len, List.length_append, List.length_drop, List.length_take]; omega) fun i h1 h2 => ?_
  rw [tkn_get]
  rw [tkn_len] at h1
  have e : (a + i) % l.length = (a % l.length + i) % l.length := by rw [Nat.mod_add_mod]
  by_cases hi : i < l.length - a % l.length
  · rw [List.getElem_append_left (by rw [List.length_drop]; exact hi), List.getElem_drop, e, Nat.mod_eq_of_lt (by omega), List.getElem?_eq_getElem (by omega)]
    rfl
  · have : (a % l.length + i) % l.length = a % l.length + i - l.length := by
      rw [Nat.mod_eq_sub_mod (by omega), Nat.mod_eq_of_lt (by omega)]
    rw [List.getElem_append_right (by rw [List.length_drop]; omega), List.getElem_take, e, this, List.getElem?_eq_getElem (by omega)]
    simp only [List.length_drop, Option.getD_some]
    congr 1
    omega
/-- not taken within one round, never taken -/
theorem taker_final (l : List Int) (h : 0 < l.length) {p : Nat} (hp : p < l.length) : (fstT 0 (tkn l (l.length + p + 1) (2 * l.length - p - 1))).map (fun s => (p + s) % l.length) = tkr l p := by
  unfold tkr
  have e1 : tkn l (l.length + p + 1) l.length = rot l ((p + 1) % l.length) := by
    rw [show l.length + p + 1 = p + 1 + l.length by omega, tkn_round, tkn_rot l _ h]
  have e2 : 2 * l.length - p - 1 = l.length + (l.length - p - 1) := by omega
  have e3 : tkn l (l.length + p + 1 + l.length) (l.length - p - 1) = (rot l ((p + 1) % l.length)).take (l.length - p - 1) := by
    rw [tkn_round, ← e1, tkn_take _ _ (by omega)]
  rw [e2, tkn_app, e1, e3, fst_app]
  cases e : fstT 0 (rot l ((p + 1) % l.length)) with
  | some s => rfl
  | none =>
    have hn := fst_none e
    have rl := DL.rot_length l ((p + 1) % l.length) (by have := Nat.mod_lt (p + 1) h; omega)
    have hall := hn l.length h (by omega)
    rw [List.take_of_length_le (by omega)] at hall
    have : fstT (0 + ht (rot l ((p + 1) % l.length))) ((rot l ((p + 1) % l.length)).take (l.length - p - 1)) = none := fst_no fun s' h1 h2 => by
      rw [List.length_take] at h2
      have := hn s' h1 (by omega)
      rw [List.take_take, Nat.min_eq_left (by omega)]
      omega
    rw [this]
    rfl
/-- what a stack keeps and gives when t are taken -/
def kept (st : List Nat) (t : Nat) : List Nat := st.take (st.length - t)
def takn (st : List Nat) (t : Nat) : List (Option Nat) := List.replicate (t - st.length) none ++ (st.drop (st.length - t)).map some
theorem takn_mem {st : List Nat} {t q : Nat} : some q ∈ takn st t ↔ q ∈ st.drop (st.length - t) := by
  unfold takn
  rw [List.mem_append]
  constructor
  · rintro (h | h)
    · cases (List.mem_replicate.mp h).2
    · obtain ⟨x, hx, e⟩ := List.mem_map.mp h
      cases e; exact hx
  · exact fun h => .inr (List.mem_map.mpr ⟨q, h, rfl⟩)
def mark (N m : Nat) : List (Option Nat) → List (Option Nat) → List (Option Nat)
  | [], fo => fo
  | none :: tk, fo => mark N m tk fo
  | some q :: tk, fo => mark N m tk (if N ≤ q ∧ q < 2 * N then fo.set (q - N) (some (m % N)) else fo)
theorem mark_len (N m : Nat) : ∀ (tk fo : List (Option Nat)), (mark N m tk fo).length = fo.length
  | [], fo => rfl
  | none :: tk, fo => mark_len N m tk fo
  | some q :: tk, fo => by
    rw [mark, mark_len N m tk]
    split <;> simp
theorem mark_get (N m : Nat) : ∀ (tk fo : List (Option Nat)) (p : Nat), p < N → fo.length = N → (mark N m tk fo)[p]? = if some (N + p) ∈ tk then some (some (m % N)) else fo[p]?
  | [], fo, p, _, _ => by simp [mark]
  | none :: tk, fo, p, h1, h2 => by
    rw [mark, mark_get N m tk fo p h1 h2]
    simp
  | some q :: tk, fo, p, h1, h2 => by
    rw [mark, mark_get N m tk _ p h1 (by split <;> simp [h2])]
    by_cases ht : some (N + p) ∈ tk
    · rw [if_pos ht, if_pos (List.mem_cons_of_mem _ ht)]
    · rw [if_neg ht]
      by_cases hq : q = N + p
      · subst hq
        rw [if_pos (by omega), if_pos List.mem_cons_self, Nat.add_sub_cancel_left, List.getElem?_set_self (by omega)]
      · rw [if_neg (show ¬ some (N + p) ∈ some q :: tk by simp [ht]; omega)]
        split
        · rw [List.getElem?_set_ne (by omega)]
        · rfl
structure Lnk (l : List Int) (m : Nat) (st : List Nat) (fo : List (Option Nat)) : Prop where
  nd : st.Nodup
  lt : ∀ q ∈ st, q < m
  inn : ∀ q, q < m → fstT 0 (tkn l (q + 1) (m - q - 1)) = none → ∃ A B, st = A ++ q :: B ∧ (B.length : Int) = ht (tkn l (q + 1) (m - q - 1))
  out : ∀ q, q < m → fstT 0 (tkn l (q + 1) (m - q - 1)) ≠ none → q ∉ st
  fl : fo.length = l.length
  fd : ∀ p, p < l.length → fo[p]? = some (if l.length + p < m then (fstT 0 (tkn l (l.length + p + 1) (m - (l.length + p) - 1))).map (fun s => (p + s) % l.length) else none)
theorem nodup_mid {A B : List Nat} {q : Nat} (h : (A ++ q :: B).Nodup) : q ∉ A ∧ q ∉ B := by
  rw [List.nodup_append] at h
  obtain ⟨h1, h2, h3⟩ := h
  exact ⟨fun hc => h3 q hc q List.mem_cons_self rfl, (List.nodup_cons.mp h2).1⟩
theorem lnk_step {l : List Int} {m : Nat} {st : List Nat} {fo : List (Option Nat)} (hl : ∀ t ∈ l, 0 ≤ t) (h0 : 0 < l.length) (h : Lnk l m st fo) {t : Nat} (hta : (l[m % l.length]?).getD 0 = (t : Int)) :
    Lnk l (m + 1) (kept st t ++ [m]) (mark l.length m (takn st t) fo) := by
  have sub : ∀ q, q ∈ kept st t → q ∈ st := fun q hq => List.mem_of_mem_take hq
  have ext : ∀ q, q < m → tkn l (q + 1) (m + 1 - q - 1) = tkn l (q + 1) (m - q - 1) ++ [(t : Int)] := fun q hq => by
    rw [show m + 1 - q - 1 = (m - q - 1) + 1 by omega, tkn_succ, show q + 1 + (m - q - 1) = m by omega, hta]
  have one : ∀ h : Int, fstT h [(t : Int)] = if h + (1 - (t : Int)) ≤ 0 then some 1 else none := fun h => by
    unfold fstT
    split
    · rfl
    · rfl
  -- taken now
  have now : ∀ q, q < m → (some q ∈ takn st t ↔ (fstT 0 (tkn l (q + 1) (m - q - 1)) = none ∧ ht (tkn l (q + 1) (m - q - 1)) + (1 - (t : Int)) ≤ 0)) := fun q hq => by
    rw [takn_mem]
    constructor
    · intro hd
      have hm := List.mem_of_mem_drop hd
      have hn : fstT 0 (tkn l (q + 1) (m - q - 1)) = none := by
        cases e : fstT 0 (tkn l (q + 1) (m - q - 1)) with
        | none => rfl
        | some s => exact absurd hm (h.out q hq (by rw [e]; simp))
      refine ⟨hn, ?_⟩
      obtain ⟨A, B, e, hb⟩ := h.inn q hq hn
      have nm := nodup_mid (e ▸ h.nd)
      rw [← hb]
      by_cases hc : A.length < st.length - t
      · exfalso
        rw [e, show (A ++ q :: B).length - t = A.length + 1 + ((A ++ q :: B).length - t - A.length - 1) by rw [e] at hc; omega, ← List.drop_drop] at hd
        rw [show A ++ q :: B = (A ++ [q]) ++ B by simp, List.drop_left' (by simp)] at hd
        exact nm.2 (List.mem_of_mem_drop hd)
      · rw [e, List.length_append, List.length_cons] at hc
        omega
    · rintro ⟨hn, hh⟩
      obtain ⟨A, B, e, hb⟩ := h.inn q hq hn
      rw [← hb] at hh
      rw [e]
      have : (A ++ q :: B).length - t ≤ A.length := by rw [List.length_append, List.length_cons]; omega
      rw [List.drop_append_of_le_length this]
      exact List.mem_append_right _ List.mem_cons_self
  have kp : ∀ q, q < m → fstT 0 (tkn l (q + 1) (m - q - 1)) = none → ¬ (ht (tkn l (q + 1) (m - q - 1)) + (1 - (t : Int)) ≤ 0) → ∃ A B, kept st t = A ++ q :: B ∧ (B.length : Int) = ht (tkn l (q + 1) (m - q - 1)) - t := fun q hq hn hh => by
    obtain ⟨A, B, e, hb⟩ := h.inn q hq hn
    refine ⟨A, B.take (B.length - t), ?_, ?_⟩
    · unfold kept
      rw [e, List.length_append, List.length_cons, show A.length + (B.length + 1) - t = A.length + ((B.length - t) + 1) by omega, List.take_length_add_append, List.take_succ_cons]
    · rw [List.length_take]; omega
  refine ⟨?_, ?_, ?_, ?_, ?_, ?_⟩
  · rw [List.nodup_append]
    refine ⟨h.nd.sublist (List.take_sublist _ _), by simp, fun x hx y hy hxy => ?_⟩
    rw [List.mem_singleton.mp hy] at hxy
    have := h.lt x (sub x hx)
    omega
  · intro q hq
    rcases List.mem_append.mp hq with hq | hq
    · have := h.lt q (sub q hq); omega
    · rw [List.mem_singleton.mp hq]; omega
  · intro q hq hn
    by_cases hqm : q = m
    · subst hqm
      refine ⟨kept st t, [], rfl, ?_⟩
      rw [show q + 1 - q - 1 = 0 by omega]
      rfl
    · have hq' : q < m := by omega
      rw [ext q hq'] at hn ⊢
      rw [fst_app] at hn
      have hn1 : fstT 0 (tkn l (q + 1) (m - q - 1)) = none := by
        cases e : fstT 0 (tkn l (q + 1) (m - q - 1)) with
        | none => rfl
        | some s => rw [e] at hn; cases hn
      rw [hn1] at hn
      dsimp only at hn
      rw [one] at hn
      have hh : ¬ (ht (tkn l (q + 1) (m - q - 1)) + (1 - (t : Int)) ≤ 0) := fun hc => by
        rw [if_pos (by omega)] at hn; cases hn
      obtain ⟨A, B, e, hb⟩ := kp q hq' hn1 hh
      refine ⟨A, B ++ [m], by rw [e]; simp, ?_⟩
      rw [ht_app, List.length_append]
      have : ht [(t : Int)] = 1 - t := by rw [ht_cons]; show 1 - (t : Int) + ht [] = _; rw [show ht [] = 0 from rfl]; omega
      rw [this]
      simp
      omega
  · intro q hq hn hmem
    by_cases hqm : q = m
    · subst hqm
      rw [show q + 1 - q - 1 = 0 by omega] at hn
      exact hn rfl
    · have hq' : q < m := by omega
      rw [ext q hq', fst_app] at hn
      have hk : q ∈ kept st t := by
        rcases List.mem_append.mp hmem with hm | hm
        · exact hm
        · exact absurd (List.mem_singleton.mp hm) hqm
      have hn1 : fstT 0 (tkn l (q + 1) (m - q - 1)) = none := by
        cases e : fstT 0 (tkn l (q + 1) (m - q - 1)) with
        | none => rfl
        | some s => exact absurd (sub q hk) (h.out q hq' (by rw [e]; simp))
      rw [hn1] at hn
      dsimp only at hn
      rw [one] at hn
      by_cases hh : ht (tkn l (q + 1) (m - q - 1)) + (1 - (t : Int)) ≤ 0
      · obtain ⟨A, B, e, hb⟩ := h.inn q hq' hn1
        have nm := nodup_mid (e ▸ h.nd)
        unfold kept at hk
        rw [e] at hk
        have : (A ++ q :: B).length - t ≤ A.length := by rw [List.length_append, List.length_cons]; omega
        rw [List.take_append_of_le_length this] at hk
        exact nm.1 (List.mem_of_mem_take hk)
      · rw [if_neg (by omega)] at hn
        exact hn rfl
  · rw [mark_len]; exact h.fl
  · intro p hp
    rw [mark_get _ _ _ _ _ hp h.fl, h.fd p hp]
    by_cases hc : l.length + p < m
    · rw [if_pos hc, if_pos (show l.length + p < m + 1 by omega), ext _ hc, fst_app]
      have nw := now _ hc
      by_cases hn : fstT 0 (tkn l (l.length + p + 1) (m - (l.length + p) - 1)) = none
      · rw [hn]
        dsimp only
        rw [one]
        by_cases hh : ht (tkn l (l.length + p + 1) (m - (l.length + p) - 1)) + (1 - (t : Int)) ≤ 0
        · rw [if_pos (nw.mpr ⟨hn, hh⟩), if_pos (by omega)]
          simp only [Option.map_some, tkn_len]
          congr 2
          rw [show p + (1 + (m - (l.length + p) - 1)) = m - l.length by omega]
          rw [Nat.mod_eq_sub_mod (by omega)]
        · rw [if_neg (fun hx => hh (nw.mp hx).2), if_neg (by omega)]
          rfl
      · obtain ⟨s, hs⟩ := Option.ne_none_iff_exists'.mp hn
        rw [if_neg (fun hx => hn (nw.mp hx).1), hs]
    · have hnt : ¬ some (l.length + p) ∈ takn st t := fun hx => by
        have hx' : l.length + p ∈ st.drop (st.length - t) := takn_mem.mp hx
        have := h.lt _ (List.mem_of_mem_drop hx')
        omega
      rw [if_neg hnt, if_neg hc]
      by_cases hm : l.length + p < m + 1
      · rw [if_pos hm, show m + 1 - (l.length + p) - 1 = 0 by omega]
        rfl
      · rw [if_neg hm]
theorem lnk_zero (l : List Int) : Lnk l 0 [] (List.replicate l.length none) := ⟨List.nodup_nil, by simp, fun q hq => by omega, fun q hq => by omega, by simp, fun p hp => by rw [List.getElem?_replicate, if_pos hp, if_neg (by omega)]⟩
theorem lnk_end {l : List Int} {st : List Nat} {fo : List (Option Nat)} (h0 : 0 < l.length) (h : Lnk l (3 * l.length) st fo) : fo = (List.range l.length).map (tkr l) := by
  refine List.ext_getElem? fun p => ?_
  by_cases hp : p < l.length
  · rw [h.fd p hp, if_pos (by omega), show 3 * l.length - (l.length + p) - 1 = 2 * l.length - p - 1 by omega, taker_final l h0 hp]
    simp [hp]
  · rw [List.getElem?_eq_none (by rw [h.fl]; omega), List.getElem?_eq_none (by simp; omega)]
end DL
namespace DL
open PySem PySem.Spec L2
open PyProof.Rows hiding St
noncomputable def L1__law_links (ρ : Ev) (S : Sto) : SR :=
  (sExp (eMt isLst mInsert (eVar 6) (aCons (eC (.int 0)) (aCons (eIf (eT (eOp (dEqY true) (eVar 2) (eFl aNil))) (eMt isLst mPop (eVar 2) aNil) (eC .non)) aNil)))) ρ S
noncomputable def L2__law_links (ρ : Ev) (S : Sto) : SR :=
  (sIf (eAnd (eT (eOp (dIsN true) (eVar 8) (eC .non))) (eT (eChain dLe dLt (eVar 1) (eVar 8) (eOp dMulT (eC (.int 2)) (eVar 1))))) (sAsg (eOp dMod (eVar 5) (eVar 1)) (tSub (eVar 4) (eOp dSub (eVar 8) (eVar 1)))) sNil) ρ S
noncomputable def E1__law_links (ρ : Ev) (S : Sto) : R D :=
  (eIf (eT (eOp (dIsN false) (eVar 8) (eC .non))) (eVar 8) (eOp dMod (eVar 8) (eVar 1))) ρ S
noncomputable def L3__law_links (ρ : Ev) (S : Sto) : SR :=
  (sSeq (sSet 6 (eLoc aNil))
    (sSeq (sFor (iRange1 (aCons (eOp dIx (eVar 0) (eOp dMod (eVar 5) (eVar 1))) aNil)) (tN 7) L1__law_links sNil)
    (sSeq (sFor (iSeq (eVar 6)) (tN 8) L2__law_links sNil)
    (sSeq (sIf (eT (eOp dGe (eVar 5) (eOp dMulT (eC (.int 2)) (eVar 1)))) (sExp (eMt isLst mAppend (eVar 3) (aCons (eLc finFl (iSeq (eVar 6)) (tN 8) [8] cYes E1__law_links) aNil))) sNil)
    (sExp (eMt isLst mAppend (eVar 2) (aCons (eVar 5) aNil))))))) ρ S
noncomputable def B__law_links : Ev → Sto → SR :=
  (sSeq (sAsg (eTup (aCons (eCall bLen (aCons (eVar 0) aNil)) (aCons (eLoc aNil) (aCons (eLoc aNil) aNil)))) (tTup 3 (tCons (tN 1) (tCons (tN 2) (tCons (tN 3) tNil)))))
    (sSeq (sSet 4 (eOp dMulL (eFl (aCons (eC .non) aNil)) (eVar 1)))
    (sSeq (sFor (iRange1 (aCons (eOp dMulT (eC (.int 3)) (eVar 1)) aNil)) (tN 5) L3__law_links sNil)
    (sRet (eFl (aCons (eVar 4) (aCons (eVar 3) aNil)))))))
noncomputable def F__law_links : Fn := fnC closeF 9 1 B__law_links
def LkS (S0 : Sto) (A B C : List D) (R : Sto) : Sto := S0 ++ (.lst A :: .lst B :: .lst C :: R)
theorem lk_at (S0 : Sto) (A B C : List D) (R : Sto) (i : Nat) : (LkS S0 A B C R)[S0.length + i]? = (Ob.lst A :: .lst B :: .lst C :: R)[i]? := by
  unfold LkS
  rw [List.getElem?_append_right (by omega), Nat.add_sub_cancel_left]
theorem lk_set (S0 : Sto) (A B C : List D) (R : Sto) (i : Nat) (x : Ob) : (LkS S0 A B C R).set (S0.length + i) x = S0 ++ (Ob.lst A :: .lst B :: .lst C :: R).set i x := by
  unfold LkS
  rw [List.set_append_right _ _ (by omega), Nat.add_sub_cancel_left]
section
variable (S0 : Sto) (A B C T : List D) (R J : Sto)
theorem lk0 : getL (LkS S0 A B C R) S0.length = some A := getL_of (lk_at S0 A B C R 0)
theorem lkq0 : getQ (LkS S0 A B C R) S0.length = some A := getQ_of (lk_at S0 A B C R 0)
theorem lk1 : getL (LkS S0 A B C R) (S0.length + 1) = some B := getL_of (lk_at S0 A B C R 1)
theorem lk2 : getL (LkS S0 A B C R) (S0.length + 2) = some C := getL_of (lk_at S0 A B C R 2)
theorem lk3_at : (LkS S0 A B C (J ++ [.lst T]))[S0.length + 3 + J.length]? = some (.lst T) := by
  rw [Nat.add_assoc, lk_at, show 3 + J.length = J.length + 1 + 1 + 1 by omega, List.getElem?_cons_succ, List.getElem?_cons_succ, List.getElem?_cons_succ]
  simp
theorem lk3 : getL (LkS S0 A B C (J ++ [.lst T])) (S0.length + 3 + J.length) = some T := getL_of (lk3_at ..)
theorem lkq3 : getQ (LkS S0 A B C (J ++ [.lst T])) (S0.length + 3 + J.length) = some T := getQ_of (lk3_at ..)
theorem ls0 (X : List D) : (LkS S0 A B C R).set S0.length (.lst X) = LkS S0 X B C R := lk_set S0 A B C R 0 _
theorem ls1 (X : List D) : (LkS S0 A B C R).set (S0.length + 1) (.lst X) = LkS S0 A X C R := lk_set S0 A B C R 1 _
theorem ls2 (X : List D) : (LkS S0 A B C R).set (S0.length + 2) (.lst X) = LkS S0 A B X R := lk_set S0 A B C R 2 _
theorem ls3 (X : List D) : (LkS S0 A B C (J ++ [.lst T])).set (S0.length + 3 + J.length) (.lst X) = LkS S0 A B C (J ++ [.lst X]) := by
  rw [Nat.add_assoc, lk_set, show 3 + J.length = J.length + 1 + 1 + 1 by omega, List.set_cons_succ, List.set_cons_succ, List.set_cons_succ]
  unfold LkS
  congr 4
  exact set_end J _ _
theorem lk_new : LkS S0 A B C J ++ [.lst T] = LkS S0 A B C (J ++ [.lst T]) := by simp [LkS]
theorem lk_len : (LkS S0 A B C J).length = S0.length + 3 + J.length := by simp [LkS]; omega
end
def on (os : List (Option Nat)) : List D := os.map optN
theorem pop_split (st : List Nat) (i : Nat) : (∃ x, kept st i = kept st (i + 1) ++ [x] ∧ takn st (i + 1) = some x :: takn st i) ∨ (kept st i = [] ∧ kept st (i + 1) = [] ∧ takn st (i + 1) = none :: takn st i) := by
  unfold kept takn
  by_cases h : i < st.length
  · left
    have hk : st.length - (i + 1) < st.length := by omega
    refine ⟨st[st.length - (i + 1)], ?_, ?_⟩
    · rw [show st.length - i = st.length - (i + 1) + 1 by omega, List.take_succ, List.getElem?_eq_getElem hk]
      rfl
    · rw [show i + 1 - st.length = 0 by omega, show i - st.length = 0 by omega, List.drop_eq_getElem_cons hk, show st.length - (i + 1) + 1 = st.length - i by omega]
      rfl
  · right
    rw [show st.length - i = 0 by omega, show st.length - (i + 1) = 0 by omega, show i + 1 - st.length = (i - st.length) + 1 by omega]
    exact ⟨rfl, rfl, by rw [List.replicate_succ]; rfl⟩
theorem insert0 {S : Sto} {n : Nat} {xs : List D} (y : D) (h : getL S n = some xs) (hl : xs.length < 10 ^ 6) : mInsert (.loc n) [.int 0, y] S = .ok .non (S.set n (.lst (y :: xs))) := by
  show (match getL S n with
    | some xs => ifp (xs.length < sizeLine ∧ (0 : Int) ≤ 0 ∧ (0 : Int) < 2 ^ 63) (R.ok D.non (S.set n (.lst (xs.take (0 : Int).toNat ++ [y] ++ xs.drop (0 : Int).toNat)))) .stuck
    | none => .stuck) = _
  rw [h]
  dsimp only
  rw [ifp_pos ⟨Nat.lt_of_lt_of_le hl (by decide), by decide, by decide⟩]
  rfl
theorem pop_end {S : Sto} {n : Nat} {xs : List D} {y : D} (h : getL S n = some (xs ++ [y])) : mPop (.loc n) [] S = .ok y (S.set n (.lst xs)) := by
  show (match getL S n with
    | some xs => (match xs[xs.length - 1]? with
      | some y => R.ok y (S.set n (.lst xs.dropLast))
      | none => .stuck)
    | none => .stuck) = _
  rw [h]
  simp
theorem pop_loop (S0 : Sto) (gv fo : List D) (J : Sto) (st : List Nat) (t : Nat) (x0 x1 x3 x4 x5 x7 x8 : Option D) (ht : t ≤ 5) : ∃ y7,
    forD yes (tN 7) L1__law_links sNil (rangeD 0 t) [x0, x1, some (.loc S0.length), x3, x4, x5, some (.loc (S0.length + 3 + J.length)), x7, x8] (LkS S0 (ni st) gv fo (J ++ [.lst []]))
      = .nx [x0, x1, some (.loc S0.length), x3, x4, x5, some (.loc (S0.length + 3 + J.length)), y7, x8] (LkS S0 (ni (kept st t)) gv fo (J ++ [.lst (on (takn st t))])) := by
  have k0 : kept st 0 = st := by unfold kept; rw [Nat.sub_zero, List.take_of_length_le (Nat.le_refl _)]
  have t0 : takn st 0 = [] := by unfold takn; rw [Nat.zero_sub, Nat.sub_zero, List.drop_of_length_le (Nat.le_refl _)]; rfl
  obtain ⟨ρ', S', ⟨⟨y7, rfl⟩, hS⟩, hf⟩ := forD_all (T := tN 7) (B := L1__law_links) (Z := sNil) (fun i ρ S => (∃ y7, ρ = [x0, x1, some (.loc S0.length), x3, x4, x5, some (.loc (S0.length + 3 + J.length)), y7, x8]) ∧ S = LkS S0 (ni (kept st i)) gv fo (J ++ [.lst (on (takn st i))]))
    (rangeD 0 t) 0 [x0, x1, some (.loc S0.length), x3, x4, x5, some (.loc (S0.length + 3 + J.length)), x7, x8] (LkS S0 (ni st) gv fo (J ++ [.lst []])) ⟨⟨x7, rfl⟩, by rw [k0, t0]; rfl⟩ (by
      rintro j d ρ S hj ⟨⟨y7, rfl⟩, rfl⟩
      obtain ⟨hj', rfl⟩ := rangeD_get hj
      rw [Nat.zero_add]
      have tl : (on (takn st j)).length < 10 ^ 6 := by
        unfold on takn
        simp
        omega
      have il := isLst_at (lk3 S0 (ni (kept st j)) gv fo (on (takn st j)) J)
      rcases pop_split st j with ⟨x, e1, e2⟩ | ⟨e1, e2, e3⟩
      · have en : ni (kept st j) = ni (kept st (j + 1)) ++ [.int x] := by rw [e1]; simp [ni]
        have eo : on (takn st (j + 1)) = .int x :: on (takn st j) := by rw [e2]; rfl
        rw [en] at il
        rw [en, eo]
        have q : dEqY true (.loc S0.length) (.fl []) (LkS S0 (ni (kept st (j + 1)) ++ [.int x]) gv fo (J ++ [.lst (on (takn st j))])) = .ok (.bl true) (LkS S0 (ni (kept st (j + 1)) ++ [.int x]) gv fo (J ++ [.lst (on (takn st j))])) := by
          have : dEqY true (.loc S0.length) (.fl []) (LkS S0 (ni (kept st (j + 1)) ++ [.int x]) gv fo (J ++ [.lst (on (takn st j))])) = (match getQ (LkS S0 (ni (kept st (j + 1)) ++ [.int x]) gv fo (J ++ [.lst (on (takn st j))])) S0.length with
            | some xs => R.ok (D.bl (!xs.isEmpty)) (LkS S0 (ni (kept st (j + 1)) ++ [.int x]) gv fo (J ++ [.lst (on (takn st j))]))
            | none => .stuck) := rfl
          rw [this, lkq0]
          simp
        have il0 := isLst_at (lk0 S0 (ni (kept st (j + 1)) ++ [.int x]) gv fo (J ++ [.lst (on (takn st j))]))
        have pp := pop_end (lk0 S0 (ni (kept st (j + 1)) ++ [.int x]) gv fo (J ++ [.lst (on (takn st j))]))
        rw [ls0] at pp
        have ins := insert0 (.int x) (lk3 S0 (ni (kept st (j + 1))) gv fo (on (takn st j)) J) tl
        rw [ls3] at ins
        refine ⟨_, _, [x0, x1, some (.loc S0.length), x3, x4, x5, some (.loc (S0.length + 3 + J.length)), some (.int (0 + (j : Int))), x8], _, rfl, .inl ?_, ⟨_, rfl⟩, rfl⟩
        show L1__law_links [x0, x1, some (.loc S0.length), x3, x4, x5, some (.loc (S0.length + 3 + J.length)), some (.int (0 + (j : Int))), x8] _ = _
        simp only [eVar, eC, eOp, eT, eAnd, eOr, eNot, eIf, eAndV, eOrV, eNotV, eCall, aNil, aCons, aStar, sOf, eTup, eFl, eLoc, eSl, oNone, oSome, iOf, eNeg, eChain, eMt, bOf, eDict0, eRev, eListRg, iZipD, sRaise1, sRaise0, eCallV, List.lookup, R.bind_ok, R.bind_er, R.bind_stuck, R.toS_ok, R.toS_er, R.toS_stuck, SR.next_nx, SR.next_rt, SR.next_er, SR.next_bk, SR.next_ct, SR.next_stuck, sNil, sSeq, sBrk, sCnt, sExp, sRet, sRetN, sIf, sSet, sAsg, sAug, sPar2, sPar3, tN, DL.tTup, DL.tNil, DL.tCons, DL.tSub, iSeq, srcOf_tup, srcOf_fl, srcOf_kl, srcOf_ti, iRange1, iRange2, sFor, startD, List.map_cons, List.map_nil, List.length_cons, List.length_nil, List.replicate, List.cons_append, List.nil_append, List.getElem?_cons_zero, List.getElem?_cons_succ, List.set_cons_zero, List.set_cons_succ, dSub_int, dFdiv_int, dMod_int, dLt_int, dLe_int, dGt_int, dGe_int, dAddI_int, dSubI_int, dIsN_non, isN, dAdd_int, ll0, ll1, ll2, ll3, ll4, ll5, ll6, ll7, ll8, ll9, ll10, ll11, ll12, ll13, ll14, ll15, ll16, ll17, ll18, ll19, ll20, ll21, ll22, ll23, ll24, ll25, ll26, ll27, ll28, ll29, ll30, ll31, ll32, ll33, ll34, ll35, ll36, ll37, ll38, ll39, ll40, Nat.reduceSub, Nat.reduceAdd, Nat.reduceEqDiff, if_true, if_false, ifp_t, ifp_f, reduceIte, Bool.true_eq_false, Bool.false_eq_true, Option.map_some, Option.map_none, Option.bind_some, Option.bind_none, tSq, sSet2, seqOf_fl, seqOf_tup, seqOf_ti, L1__law_links, il, q, il0, pp, ins]
      · rw [e1] at il ⊢
        rw [e2]
        have eo : on (takn st (j + 1)) = .non :: on (takn st j) := by rw [e3]; rfl
        rw [eo]
        have q : dEqY true (.loc S0.length) (.fl []) (LkS S0 (ni []) gv fo (J ++ [.lst (on (takn st j))])) = .ok (.bl false) (LkS S0 (ni []) gv fo (J ++ [.lst (on (takn st j))])) := by
          have : dEqY true (.loc S0.length) (.fl []) (LkS S0 (ni []) gv fo (J ++ [.lst (on (takn st j))])) = (match getQ (LkS S0 (ni []) gv fo (J ++ [.lst (on (takn st j))])) S0.length with
            | some xs => R.ok (D.bl (!xs.isEmpty)) (LkS S0 (ni []) gv fo (J ++ [.lst (on (takn st j))]))
            | none => .stuck) := rfl
          rw [this, lkq0]
          rfl
        have ins := insert0 .non (lk3 S0 (ni []) gv fo (on (takn st j)) J) tl
        rw [ls3] at ins
        refine ⟨_, _, [x0, x1, some (.loc S0.length), x3, x4, x5, some (.loc (S0.length + 3 + J.length)), some (.int (0 + (j : Int))), x8], _, rfl, .inl ?_, ⟨_, rfl⟩, rfl⟩
        show L1__law_links [x0, x1, some (.loc S0.length), x3, x4, x5, some (.loc (S0.length + 3 + J.length)), some (.int (0 + (j : Int))), x8] _ = _
        simp only [eVar, eC, eOp, eT, eAnd, eOr, eNot, eIf, eAndV, eOrV, eNotV, eCall, aNil, aCons, aStar, sOf, eTup, eFl, eLoc, eSl, oNone, oSome, iOf, eNeg, eChain, eMt, bOf, eDict0, eRev, eListRg, iZipD, sRaise1, sRaise0, eCallV, List.lookup, R.bind_ok, R.bind_er, R.bind_stuck, R.toS_ok, R.toS_er, R.toS_stuck, SR.next_nx, SR.next_rt, SR.next_er, SR.next_bk, SR.next_ct, SR.next_stuck, sNil, sSeq, sBrk, sCnt, sExp, sRet, sRetN, sIf, sSet, sAsg, sAug, sPar2, sPar3, tN, DL.tTup, DL.tNil, DL.tCons, DL.tSub, iSeq, srcOf_tup, srcOf_fl, srcOf_kl, srcOf_ti, iRange1, iRange2, sFor, startD, List.map_cons, List.map_nil, List.length_cons, List.length_nil, List.replicate, List.cons_append, List.nil_append, List.getElem?_cons_zero, List.getElem?_cons_succ, List.set_cons_zero, List.set_cons_succ, dSub_int, dFdiv_int, dMod_int, dLt_int, dLe_int, dGt_int, dGe_int, dAddI_int, dSubI_int, dIsN_non, isN, dAdd_int, ll0, ll1, ll2, ll3, ll4, ll5, ll6, ll7, ll8, ll9, ll10, ll11, ll12, ll13, ll14, ll15, ll16, ll17, ll18, ll19, ll20, ll21, ll22, ll23, ll24, ll25, ll26, ll27, ll28, ll29, ll30, ll31, ll32, ll33, ll34, ll35, ll36, ll37, ll38, ll39, ll40, Nat.reduceSub, Nat.reduceAdd, Nat.reduceEqDiff, if_true, if_false, ifp_t, ifp_f, reduceIte, Bool.true_eq_false, Bool.false_eq_true, Option.map_some, Option.map_none, Option.bind_some, Option.bind_none, tSq, sSet2, seqOf_fl, seqOf_tup, seqOf_ti, L1__law_links, il, q, ins])
  rw [rangeD_len, Nat.zero_add] at hS
  exact ⟨y7, by rw [hf, hS]; rfl⟩
theorem dSet_at {S : Sto} {n : Nat} {ds : List D} {v : D} {k : Nat} (h : getL S n = some ds) (hk : k < ds.length) : dSet (.loc n) (.int (k : Int)) v S = some (S.set n (.lst (ds.set k v))) := by
  show (getL S n).bind (fun ds => (ixN ds.length (k : Int)).map fun j => S.set n (.lst (ds.set j v))) = _
  rw [h, Option.bind_some]
  have : ixN ds.length (k : Int) = some k := by
    unfold ixN
    simp
    omega
  rw [this]
  rfl
theorem mark_loop (S0 : Sto) (A B T : List D) (J : Sto) (N m : Nat) (hN : 0 < N) (hN2 : N < 10 ^ 6) (x0 x2 x3 x6 x7 : Option D) : ∀ (tk fo : List (Option Nat)) (x8 : Option D), fo.length = N → ∃ y8,
    forD (fun S => getQ S (S0.length + 3 + J.length) = some T) (tN 8) L2__law_links sNil (on tk) [x0, some (.int N), x2, x3, some (.loc (S0.length + 2)), some (.int m), x6, x7, x8] (LkS S0 A B (on fo) (J ++ [.lst T]))
      = .nx [x0, some (.int N), x2, x3, some (.loc (S0.length + 2)), some (.int m), x6, x7, y8] (LkS S0 A B (on (mark N m tk fo)) (J ++ [.lst T]))
  | [], fo, x8, _ => ⟨x8, forD_nil (lkq3 S0 A B (on fo) T J)⟩
  | o :: tk, fo, x8, hf => by
    have m2 : ∀ S, dMulT (.int 2) (.int (N : Int)) S = .ok (.int (2 * (N : Int))) S := fun S => mulT_int (by omega) S
    have hp : ((0 : Int) < (N : Int)) = True := by simp; omega
    cases o with
    | none =>
      obtain ⟨y8, ih⟩ := mark_loop S0 A B T J N m hN hN2 x0 x2 x3 x6 x7 tk fo (some .non) hf
      refine ⟨y8, ?_⟩
      have e : on (none :: tk) = D.non :: on tk := rfl
      have st : L2__law_links [x0, some (.int N), x2, x3, some (.loc (S0.length + 2)), some (.int m), x6, x7, some .non] (LkS S0 A B (on fo) (J ++ [.lst T])) = .nx [x0, some (.int N), x2, x3, some (.loc (S0.length + 2)), some (.int m), x6, x7, some .non] (LkS S0 A B (on fo) (J ++ [.lst T])) := by
        simp only [eVar, eC, eOp, eT, eAnd, eOr, eNot, eIf, eAndV, eOrV, eNotV, eCall, aNil, aCons, aStar, sOf, eTup, eFl, eLoc, eSl, oNone, oSome, iOf, eNeg, eChain, eMt, bOf, eDict0, eRev, eListRg, iZipD, sRaise1, sRaise0, eCallV, List.lookup, R.bind_ok, R.bind_er, R.bind_stuck, R.toS_ok, R.toS_er, R.toS_stuck, SR.next_nx, SR.next_rt, SR.next_er, SR.next_bk, SR.next_ct, SR.next_stuck, sNil, sSeq, sBrk, sCnt, sExp, sRet, sRetN, sIf, sSet, sAsg, sAug, sPar2, sPar3, tN, DL.tTup, DL.tNil, DL.tCons, DL.tSub, iSeq, srcOf_tup, srcOf_fl, srcOf_kl, srcOf_ti, iRange1, iRange2, sFor, startD, List.map_cons, List.map_nil, List.length_cons, List.length_nil, List.replicate, List.cons_append, List.nil_append, List.getElem?_cons_zero, List.getElem?_cons_succ, List.set_cons_zero, List.set_cons_succ, dSub_int, dFdiv_int, dMod_int, dLt_int, dLe_int, dGt_int, dGe_int, dAddI_int, dSubI_int, dIsN_non, isN, dAdd_int, ll0, ll1, ll2, ll3, ll4, ll5, ll6, ll7, ll8, ll9, ll10, ll11, ll12, ll13, ll14, ll15, ll16, ll17, ll18, ll19, ll20, ll21, ll22, ll23, ll24, ll25, ll26, ll27, ll28, ll29, ll30, ll31, ll32, ll33, ll34, ll35, ll36, ll37, ll38, ll39, ll40, Nat.reduceSub, Nat.reduceAdd, Nat.reduceEqDiff, if_true, if_false, ifp_t, ifp_f, reduceIte, Bool.true_eq_false, Bool.false_eq_true, Option.map_some, Option.map_none, Option.bind_some, Option.bind_none, tSq, sSet2, seqOf_fl, seqOf_tup, seqOf_ti, L2__law_links, Bool.not_true]
      rw [e, forD_cons (ρ1 := [x0, some (.int N), x2, x3, some (.loc (S0.length + 2)), some (.int m), x6, x7, some .non]) (lkq3 S0 A B (on fo) T J) rfl st, ih]
      rfl
    | some q =>
      have e : on (some q :: tk) = D.int q :: on tk := rfl
      have isn : ∀ S, dIsN true (.int (q : Int)) .non S = .ok (.bl true) S := fun S => rfl
      by_cases h1 : N ≤ q ∧ q < 2 * N
      · obtain ⟨y8, ih⟩ := mark_loop S0 A B T J N m hN hN2 x0 x2 x3 x6 x7 tk (fo.set (q - N) (some (m % N))) (some (.int q)) (by simpa using hf)
        refine ⟨y8, ?_⟩
        have l1 : (N : Int) ≤ (q : Int) := by omega
        have l2 : (q : Int) < 2 * (N : Int) := by omega
        have es : (q : Int) - (N : Int) = ((q - N : Nat) : Int) := by omega
        have em : (m : Int) % (N : Int) = ((m % N : Nat) : Int) := by simp
        have st := dSet_at (v := .int ((m % N : Nat) : Int)) (k := q - N) (lk2 S0 A B (on fo) (J ++ [.lst T])) (by simp [on]; omega)
        have eo : (on fo).set (q - N) (.int ((m % N : Nat) : Int)) = on (fo.set (q - N) (some (m % N))) := by
          unfold on; rw [List.map_set]; rfl
        rw [eo, ls2] at st
        have sq : L2__law_links [x0, some (.int N), x2, x3, some (.loc (S0.length + 2)), some (.int m), x6, x7, some (.int q)] (LkS S0 A B (on fo) (J ++ [.lst T])) = .nx [x0, some (.int N), x2, x3, some (.loc (S0.length + 2)), some (.int m), x6, x7, some (.int q)] (LkS S0 A B (on (fo.set (q - N) (some (m % N)))) (J ++ [.lst T])) := by
          simp only [eVar, eC, eOp, eT, eAnd, eOr, eNot, eIf, eAndV, eOrV, eNotV, eCall, aNil, aCons, aStar, sOf, eTup, eFl, eLoc, eSl, oNone, oSome, iOf, eNeg, eChain, eMt, bOf, eDict0, eRev, eListRg, iZipD, sRaise1, sRaise0, eCallV, List.lookup, R.bind_ok, R.bind_er, R.bind_stuck, R.toS_ok, R.toS_er, R.toS_stuck, SR.next_nx, SR.next_rt, SR.next_er, SR.next_bk, SR.next_ct, SR.next_stuck, sNil, sSeq, sBrk, sCnt, sExp, sRet, sRetN, sIf, sSet, sAsg, sAug, sPar2, sPar3, tN, DL.tTup, DL.tNil, DL.tCons, DL.tSub, iSeq, srcOf_tup, srcOf_fl, srcOf_kl, srcOf_ti, iRange1, iRange2, sFor, startD, List.map_cons, List.map_nil, List.length_cons, List.length_nil, List.replicate, List.cons_append, List.nil_append, List.getElem?_cons_zero, List.getElem?_cons_succ, List.set_cons_zero, List.set_cons_succ, dSub_int, dFdiv_int, dMod_int, dLt_int, dLe_int, dGt_int, dGe_int, dAddI_int, dSubI_int, dIsN_non, isN, dAdd_int, ll0, ll1, ll2, ll3, ll4, ll5, ll6, ll7, ll8, ll9, ll10, ll11, ll12, ll13, ll14, ll15, ll16, ll17, ll18, ll19, ll20, ll21, ll22, ll23, ll24, ll25, ll26, ll27, ll28, ll29, ll30, ll31, ll32, ll33, ll34, ll35, ll36, ll37, ll38, ll39, ll40, Nat.reduceSub, Nat.reduceAdd, Nat.reduceEqDiff, if_true, if_false, ifp_t, ifp_f, reduceIte, Bool.true_eq_false, Bool.false_eq_true, Option.map_some, Option.map_none, Option.bind_some, Option.bind_none, tSq, sSet2, seqOf_fl, seqOf_tup, seqOf_ti, L2__law_links, isn, Bool.not_false, m2, l1, l2, decide_true, hp, em, es, st]
        rw [e, mark, if_pos h1, forD_cons (ρ1 := [x0, some (.int N), x2, x3, some (.loc (S0.length + 2)), some (.int m), x6, x7, some (.int q)]) (lkq3 S0 A B (on fo) T J) rfl sq, ih]
      · obtain ⟨y8, ih⟩ := mark_loop S0 A B T J N m hN hN2 x0 x2 x3 x6 x7 tk fo (some (.int q)) hf
        refine ⟨y8, ?_⟩
        have st : L2__law_links [x0, some (.int N), x2, x3, some (.loc (S0.length + 2)), some (.int m), x6, x7, some (.int q)] (LkS S0 A B (on fo) (J ++ [.lst T])) = .nx [x0, some (.int N), x2, x3, some (.loc (S0.length + 2)), some (.int m), x6, x7, some (.int q)] (LkS S0 A B (on fo) (J ++ [.lst T])) := by
          by_cases l1 : (N : Int) ≤ (q : Int)
          · have l2 : ¬ (q : Int) < 2 * (N : Int) := by omega
            simp only [eVar, eC, eOp, eT, eAnd, eOr, eNot, eIf, eAndV, eOrV, eNotV, eCall, aNil, aCons, aStar, sOf, eTup, eFl, eLoc, eSl, oNone, oSome, iOf, eNeg, eChain, eMt, bOf, eDict0, eRev, eListRg, iZipD, sRaise1, sRaise0, eCallV, List.lookup, R.bind_ok, R.bind_er, R.bind_stuck, R.toS_ok, R.toS_er, R.toS_stuck, SR.next_nx, SR.next_rt, SR.next_er, SR.next_bk, SR.next_ct, SR.next_stuck, sNil, sSeq, sBrk, sCnt, sExp, sRet, sRetN, sIf, sSet, sAsg, sAug, sPar2, sPar3, tN, DL.tTup, DL.tNil, DL.tCons, DL.tSub, iSeq, srcOf_tup, srcOf_fl, srcOf_kl, srcOf_ti, iRange1, iRange2, sFor, startD, List.map_cons, List.map_nil, List.length_cons, List.length_nil, List.replicate, List.cons_append, List.nil_append, List.getElem?_cons_zero, List.getElem?_cons_succ, List.set_cons_zero, List.set_cons_succ, dSub_int, dFdiv_int, dMod_int, dLt_int, dLe_int, dGt_int, dGe_int, dAddI_int, dSubI_int, dIsN_non, isN, dAdd_int, ll0, ll1, ll2, ll3, ll4, ll5, ll6, ll7, ll8, ll9, ll10, ll11, ll12, ll13, ll14, ll15, ll16, ll17, ll18, ll19, ll20, ll21, ll22, ll23, ll24, ll25, ll26, ll27, ll28, ll29, ll30, ll31, ll32, ll33, ll34, ll35, ll36, ll37, ll38, ll39, ll40, Nat.reduceSub, Nat.reduceAdd, Nat.reduceEqDiff, if_true, if_false, ifp_t, ifp_f, reduceIte, Bool.true_eq_false, Bool.false_eq_true, Option.map_some, Option.map_none, Option.bind_some, Option.bind_none, tSq, sSet2, seqOf_fl, seqOf_tup, seqOf_ti, L2__law_links, isn, Bool.not_false, m2, l1, l2, decide_true, decide_false]
          · simp only [eVar, eC, eOp, eT, eAnd, eOr, eNot, eIf, eAndV, eOrV, eNotV, eCall, aNil, aCons, aStar, sOf, eTup, eFl, eLoc, eSl, oNone, oSome, iOf, eNeg, eChain, eMt, bOf, eDict0, eRev, eListRg, iZipD, sRaise1, sRaise0, eCallV, List.lookup, R.bind_ok, R.bind_er, R.bind_stuck, R.toS_ok, R.toS_er, R.toS_stuck, SR.next_nx, SR.next_rt, SR.next_er, SR.next_bk, SR.next_ct, SR.next_stuck, sNil, sSeq, sBrk, sCnt, sExp, sRet, sRetN, sIf, sSet, sAsg, sAug, sPar2, sPar3, tN, DL.tTup, DL.tNil, DL.tCons, DL.tSub, iSeq, srcOf_tup, srcOf_fl, srcOf_kl, srcOf_ti, iRange1, iRange2, sFor, startD, List.map_cons, List.map_nil, List.length_cons, List.length_nil, List.replicate, List.cons_append, List.nil_append, List.getElem?_cons_zero, List.getElem?_cons_succ, List.set_cons_zero, List.set_cons_succ, dSub_int, dFdiv_int, dMod_int, dLt_int, dLe_int, dGt_int, dGe_int, dAddI_int, dSubI_int, dIsN_non, isN, dAdd_int, ll0, ll1, ll2, ll3, ll4, ll5, ll6, ll7, ll8, ll9, ll10, ll11, ll12, ll13, ll14, ll15, ll16, ll17, ll18, ll19, ll20, ll21, ll22, ll23, ll24, ll25, ll26, ll27, ll28, ll29, ll30, ll31, ll32, ll33, ll34, ll35, ll36, ll37, ll38, ll39, ll40, Nat.reduceSub, Nat.reduceAdd, Nat.reduceEqDiff, if_true, if_false, ifp_t, ifp_f, reduceIte, Bool.true_eq_false, Bool.false_eq_true, Option.map_some, Option.map_none, Option.bind_some, Option.bind_none, tSq, sSet2, seqOf_fl, seqOf_tup, seqOf_ti, L2__law_links, isn, Bool.not_false, m2, l1, decide_false]
        rw [e, mark, if_neg h1, forD_cons (ρ1 := [x0, some (.int N), x2, x3, some (.loc (S0.length + 2)), some (.int m), x6, x7, some (.int q)]) (lkq3 S0 A B (on fo) T J) rfl st, ih]
theorem srcL {S : Sto} {n : Nat} {ds : List D} (h : getQ S n = some ds) : srcOf (.loc n) S = .ok (ds, fun S => getQ S n = some ds) S := by
  show (match getQ S n with
    | some ds => R.ok (ds, fun S => getQ S n = some ds) S
    | none => .stuck) = _
  rw [h]
theorem link_step (S0 : Sto) {l : List Int} (h0 : 0 < l.length) (hl : l.length ≤ 1000) (ha : ∀ t ∈ l, Arity t) (m : Nat) (hm : m < 3 * l.length) (st : List Nat) (gv : List D) (fo : List (Option Nat)) (J : Sto) (x6 x7 x8 : Option D)
    (hfo : fo.length = l.length) (hst : st.length ≤ m) (hgv : gv.length ≤ m) (t : Nat) (hta : (l[m % l.length]?).getD 0 = (t : Int)) : ∃ y6 y7 y8 gv' J',
    L3__law_links [some (ti l), some (.int l.length), some (.loc S0.length), some (.loc (S0.length + 1)), some (.loc (S0.length + 2)), some (.int m), x6, x7, x8] (LkS S0 (ni st) gv (on fo) J)
      = .nx [some (ti l), some (.int l.length), some (.loc S0.length), some (.loc (S0.length + 1)), some (.loc (S0.length + 2)), some (.int m), y6, y7, y8] (LkS S0 (ni (kept st t ++ [m])) gv' (on (mark l.length m (takn st t) fo)) J') ∧ gv'.length ≤ m + 1 ∧ (∀ d ∈ gv', d ∈ gv ∨ ∃ os, d = .fl (on os)) ∧ gv' = (if 2 * (l.length : Int) ≤ (m : Int) then gv ++ [.fl (on ((takn st t).map fun o => o.map (· % l.length)))] else gv) := by
  have hml := Nat.mod_lt m h0
  have hA : Arity (t : Int) := by
    rw [← hta, List.getElem?_eq_getElem hml]
    exact ha _ (List.getElem_mem hml)
  unfold Arity at hA
  have em : (m : Int) % (l.length : Int) = ((m % l.length : Nat) : Int) := by simp
  have hp : ((0 : Int) < (l.length : Int)) = True := by simp; omega
  have ix : ∀ S, dIx (ti l) (.int ((m % l.length : Nat) : Int)) S = .ok (.int (t : Int)) S := fun S => by
    have := ti_ix l ((m % l.length : Nat) : Int) (by omega) (by omega) S
    rw [Int.toNat_natCast, hta] at this
    exact this
  have hr : ((-(2 ^ 62) : Int) ≤ (t : Int) ∧ (t : Int) < 2 ^ 62) = True := by simp; omega
  obtain ⟨y7, f1⟩ := pop_loop S0 gv (on fo) J st t (some (ti l)) (some (.int l.length)) (some (.loc (S0.length + 1))) (some (.loc (S0.length + 2))) (some (.int m)) x7 x8 (by omega)
  obtain ⟨y8, f2⟩ := mark_loop S0 (ni (kept st t)) gv (on (takn st t)) J l.length m h0 (by omega) (some (ti l)) (some (.loc S0.length)) (some (.loc (S0.length + 1))) (some (.loc (S0.length + 3 + J.length))) y7 (takn st t) fo x8 hfo
  have src := srcL (lkq3 S0 (ni (kept st t)) gv (on fo) (on (takn st t)) J)
  have m2 : ∀ S, dMulT (.int 2) (.int (l.length : Int)) S = .ok (.int (2 * (l.length : Int))) S := fun S => mulT_int (by omega) S
  have kl : (kept st t).length ≤ m := by unfold kept; rw [List.length_take]; omega
  have en : ni (kept st t ++ [m]) = ni (kept st t) ++ [.int m] := by simp [ni]
  have tl : (takn st t).length ≤ 3010 := by
    unfold takn
    simp
    omega
  generalize takn st t = tk at *
  generalize hfo' : on (mark l.length m tk fo) = fo' at *
  generalize hfo0 : on fo = fo0 at *
  generalize ti l = tl' at *
  by_cases hge : 2 * (l.length : Int) ≤ (m : Int)
  · have key := eLc_loc (n := S0.length + 3 + J.length) (T := tN 8) (vs := [8]) (c := cYes) (f := E1__law_links) (ρ := [some tl', some (.int l.length), some (.loc S0.length), some (.loc (S0.length + 1)), some (.loc (S0.length + 2)), some (.int m), some (.loc (S0.length + 3 + J.length)), y7, y8]) (S := LkS S0 (ni (kept st t)) gv fo' (J ++ [.lst (on tk)])) (i := 6) (on tk)
      (fun d => [some tl', some (.int l.length), some (.loc S0.length), some (.loc (S0.length + 1)), some (.loc (S0.length + 2)), some (.int m), some (.loc (S0.length + 3 + J.length)), y7, some d]) (fun _ => true) (fun d => match d with
        | .int q => .int (q % (l.length : Int))
        | _ => .non) rfl (lkq3 S0 (ni (kept st t)) gv fo' (on tk) J) (by
      intro d hd S'
      refine ⟨rfl, rfl, fun _ => ?_⟩
      obtain ⟨o, _, rfl⟩ := List.mem_map.mp hd
      cases o with
      | none =>
        show E1__law_links [some tl', some (.int l.length), some (.loc S0.length), some (.loc (S0.length + 1)), some (.loc (S0.length + 2)), some (.int m), some (.loc (S0.length + 3 + J.length)), y7, some .non] S' = .ok .non S'
        simp only [eVar, eC, eOp, eT, eAnd, eOr, eNot, eIf, eAndV, eOrV, eNotV, eCall, aNil, aCons, aStar, sOf, eTup, eFl, eLoc, eSl, oNone, oSome, iOf, eNeg, eChain, eMt, bOf, eDict0, eRev, eListRg, iZipD, sRaise1, sRaise0, eCallV, List.lookup, R.bind_ok, R.bind_er, R.bind_stuck, R.toS_ok, R.toS_er, R.toS_stuck, SR.next_nx, SR.next_rt, SR.next_er, SR.next_bk, SR.next_ct, SR.next_stuck, sNil, sSeq, sBrk, sCnt, sExp, sRet, sRetN, sIf, sSet, sAsg, sAug, sPar2, sPar3, tN, DL.tTup, DL.tNil, DL.tCons, DL.tSub, iSeq, srcOf_tup, srcOf_fl, srcOf_kl, srcOf_ti, iRange1, iRange2, sFor, startD, List.map_cons, List.map_nil, List.length_cons, List.length_nil, List.replicate, List.cons_append, List.nil_append, List.getElem?_cons_zero, List.getElem?_cons_succ, List.set_cons_zero, List.set_cons_succ, dSub_int, dFdiv_int, dMod_int, dLt_int, dLe_int, dGt_int, dGe_int, dAddI_int, dSubI_int, dIsN_non, isN, dAdd_int, ll0, ll1, ll2, ll3, ll4, ll5, ll6, ll7, ll8, ll9, ll10, ll11, ll12, ll13, ll14, ll15, ll16, ll17, ll18, ll19, ll20, ll21, ll22, ll23, ll24, ll25, ll26, ll27, ll28, ll29, ll30, ll31, ll32, ll33, ll34, ll35, ll36, ll37, ll38, ll39, ll40, Nat.reduceSub, Nat.reduceAdd, Nat.reduceEqDiff, if_true, if_false, ifp_t, ifp_f, reduceIte, Bool.true_eq_false, Bool.false_eq_true, Option.map_some, Option.map_none, Option.bind_some, Option.bind_none, tSq, sSet2, seqOf_fl, seqOf_tup, seqOf_ti, E1__law_links]
      | some q =>
        have isn : ∀ S, dIsN false (.int (q : Int)) .non S = .ok (.bl false) S := fun S => rfl
        show E1__law_links [some tl', some (.int l.length), some (.loc S0.length), some (.loc (S0.length + 1)), some (.loc (S0.length + 2)), some (.int m), some (.loc (S0.length + 3 + J.length)), y7, some (.int q)] S' = .ok (.int ((q : Int) % (l.length : Int))) S'
        simp only [eVar, eC, eOp, eT, eAnd, eOr, eNot, eIf, eAndV, eOrV, eNotV, eCall, aNil, aCons, aStar, sOf, eTup, eFl, eLoc, eSl, oNone, oSome, iOf, eNeg, eChain, eMt, bOf, eDict0, eRev, eListRg, iZipD, sRaise1, sRaise0, eCallV, List.lookup, R.bind_ok, R.bind_er, R.bind_stuck, R.toS_ok, R.toS_er, R.toS_stuck, SR.next_nx, SR.next_rt, SR.next_er, SR.next_bk, SR.next_ct, SR.next_stuck, sNil, sSeq, sBrk, sCnt, sExp, sRet, sRetN, sIf, sSet, sAsg, sAug, sPar2, sPar3, tN, DL.tTup, DL.tNil, DL.tCons, DL.tSub, iSeq, srcOf_tup, srcOf_fl, srcOf_kl, srcOf_ti, iRange1, iRange2, sFor, startD, List.map_cons, List.map_nil, List.length_cons, List.length_nil, List.replicate, List.cons_append, List.nil_append, List.getElem?_cons_zero, List.getElem?_cons_succ, List.set_cons_zero, List.set_cons_succ, dSub_int, dFdiv_int, dMod_int, dLt_int, dLe_int, dGt_int, dGe_int, dAddI_int, dSubI_int, dIsN_non, isN, dAdd_int, ll0, ll1, ll2, ll3, ll4, ll5, ll6, ll7, ll8, ll9, ll10, ll11, ll12, ll13, ll14, ll15, ll16, ll17, ll18, ll19, ll20, ll21, ll22, ll23, ll24, ll25, ll26, ll27, ll28, ll29, ll30, ll31, ll32, ll33, ll34, ll35, ll36, ll37, ll38, ll39, ll40, Nat.reduceSub, Nat.reduceAdd, Nat.reduceEqDiff, if_true, if_false, ifp_t, ifp_f, reduceIte, Bool.true_eq_false, Bool.false_eq_true, Option.map_some, Option.map_none, Option.bind_some, Option.bind_none, tSq, sSet2, seqOf_fl, seqOf_tup, seqOf_ti, E1__law_links, isn, hp]) (by unfold on; rw [List.length_map]; exact Nat.le_trans tl (by decide)) (by
      intro d hd _
      obtain ⟨o, _, rfl⟩ := List.mem_map.mp hd
      cases o <;> rfl)
    have ek : ((on tk).filter fun _ => true).map (fun d => match d with
        | .int q => D.int (q % (l.length : Int))
        | _ => .non) = on (tk.map fun o => o.map (· % l.length)) := by
      rw [List.filter_eq_self.mpr (fun _ _ => rfl)]
      unfold on
      rw [List.map_map, List.map_map]
      refine List.map_congr_left fun o _ => ?_
      cases o with
      | none => rfl
      | some q =>
        show D.int ((q : Int) % (l.length : Int)) = D.int ((q % l.length : Nat) : Int)
        simp
    rw [ek] at key
    have il1 := isLst_at (lk1 S0 (ni (kept st t)) gv fo' (J ++ [.lst (on tk)]))
    have ap1 := append_at (d := .fl (on (tk.map fun o => o.map (· % l.length)))) (lk1 S0 (ni (kept st t)) gv fo' (J ++ [.lst (on tk)])) (by omega)
    rw [ls1] at ap1
    have il0 := isLst_at (lk0 S0 (ni (kept st t)) (gv ++ [.fl (on (tk.map fun o => o.map (· % l.length)))]) fo' (J ++ [.lst (on tk)]))
    have ap0 := append_at (d := .int (m : Int)) (lk0 S0 (ni (kept st t)) (gv ++ [.fl (on (tk.map fun o => o.map (· % l.length)))]) fo' (J ++ [.lst (on tk)])) (by simp [ni]; omega)
    rw [ls0, ← en] at ap0
    refine ⟨some (.loc (S0.length + 3 + J.length)), y7, y8, gv ++ [.fl (on (tk.map fun o => o.map (· % l.length)))], J ++ [.lst (on tk)], ?_, by simp; omega, ?_, by rw [if_pos hge]⟩
    · simp only [eVar, eC, eOp, eT, eAnd, eOr, eNot, eIf, eAndV, eOrV, eNotV, eCall, aNil, aCons, aStar, sOf, eTup, eFl, eLoc, eSl, oNone, oSome, iOf, eNeg, eChain, eMt, bOf, eDict0, eRev, eListRg, iZipD, sRaise1, sRaise0, eCallV, List.lookup, R.bind_ok, R.bind_er, R.bind_stuck, R.toS_ok, R.toS_er, R.toS_stuck, SR.next_nx, SR.next_rt, SR.next_er, SR.next_bk, SR.next_ct, SR.next_stuck, sNil, sSeq, sBrk, sCnt, sExp, sRet, sRetN, sIf, sSet, sAsg, sAug, sPar2, sPar3, tN, DL.tTup, DL.tNil, DL.tCons, DL.tSub, iSeq, srcOf_tup, srcOf_fl, srcOf_kl, srcOf_ti, iRange1, iRange2, sFor, startD, List.map_cons, List.map_nil, List.length_cons, List.length_nil, List.replicate, List.cons_append, List.nil_append, List.getElem?_cons_zero, List.getElem?_cons_succ, List.set_cons_zero, List.set_cons_succ, dSub_int, dFdiv_int, dMod_int, dLt_int, dLe_int, dGt_int, dGe_int, dAddI_int, dSubI_int, dIsN_non, isN, dAdd_int, ll0, ll1, ll2, ll3, ll4, ll5, ll6, ll7, ll8, ll9, ll10, ll11, ll12, ll13, ll14, ll15, ll16, ll17, ll18, ll19, ll20, ll21, ll22, ll23, ll24, ll25, ll26, ll27, ll28, ll29, ll30, ll31, ll32, ll33, ll34, ll35, ll36, ll37, ll38, ll39, ll40, Nat.reduceSub, Nat.reduceAdd, Nat.reduceEqDiff, if_true, if_false, ifp_t, ifp_f, reduceIte, Bool.true_eq_false, Bool.false_eq_true, Option.map_some, Option.map_none, Option.bind_some, Option.bind_none, tSq, sSet2, seqOf_fl, seqOf_tup, seqOf_ti, L3__law_links, lk_len, lk_new, hp, em, ix, hr, Int.toNat_natCast, f1, src, f2, m2, hge, decide_true, il1, key, ap1, il0, ap0]
    · intro d hd
      rcases List.mem_append.mp hd with hd | hd
      · exact .inl hd
      · exact .inr ⟨_, List.mem_singleton.mp hd⟩
  · have il0 := isLst_at (lk0 S0 (ni (kept st t)) gv fo' (J ++ [.lst (on tk)]))
    have ap0 := append_at (d := .int (m : Int)) (lk0 S0 (ni (kept st t)) gv fo' (J ++ [.lst (on tk)])) (by simp [ni]; omega)
    rw [ls0, ← en] at ap0
    refine ⟨some (.loc (S0.length + 3 + J.length)), y7, y8, gv, J ++ [.lst (on tk)], ?_, by omega, fun d hd => .inl hd, by rw [if_neg hge]⟩
    simp only [eVar, eC, eOp, eT, eAnd, eOr, eNot, eIf, eAndV, eOrV, eNotV, eCall, aNil, aCons, aStar, sOf, eTup, eFl, eLoc, eSl, oNone, oSome, iOf, eNeg, eChain, eMt, bOf, eDict0, eRev, eListRg, iZipD, sRaise1, sRaise0, eCallV, List.lookup, R.bind_ok, R.bind_er, R.bind_stuck, R.toS_ok, R.toS_er, R.toS_stuck, SR.next_nx, SR.next_rt, SR.next_er, SR.next_bk, SR.next_ct, SR.next_stuck, sNil, sSeq, sBrk, sCnt, sExp, sRet, sRetN, sIf, sSet, sAsg, sAug, sPar2, sPar3, tN, DL.tTup, DL.tNil, DL.tCons, DL.tSub, iSeq, srcOf_tup, srcOf_fl, srcOf_kl, srcOf_ti, iRange1, iRange2, sFor, startD, List.map_cons, List.map_nil, List.length_cons, List.length_nil, List.replicate, List.cons_append, List.nil_append, List.getElem?_cons_zero, List.getElem?_cons_succ, List.set_cons_zero, List.set_cons_succ, dSub_int, dFdiv_int, dMod_int, dLt_int, dLe_int, dGt_int, dGe_int, dAddI_int, dSubI_int, dIsN_non, isN, dAdd_int, ll0, ll1, ll2, ll3, ll4, ll5, ll6, ll7, ll8, ll9, ll10, ll11, ll12, ll13, ll14, ll15, ll16, ll17, ll18, ll19, ll20, ll21, ll22, ll23, ll24, ll25, ll26, ll27, ll28, ll29, ll30, ll31, ll32, ll33, ll34, ll35, ll36, ll37, ll38, ll39, ll40, Nat.reduceSub, Nat.reduceAdd, Nat.reduceEqDiff, if_true, if_false, ifp_t, ifp_f, reduceIte, Bool.true_eq_false, Bool.false_eq_true, Option.map_some, Option.map_none, Option.bind_some, Option.bind_none, tSq, sSet2, seqOf_fl, seqOf_tup, seqOf_ti, L3__law_links, lk_len, lk_new, hp, em, ix, hr, Int.toNat_natCast, f1, src, f2, m2, hge, decide_false, il0, ap0]
theorem frz_self {look : Nat → Option D} {k : Nat} : ∀ {ds : List D}, (∀ d ∈ ds, frzW look k d = some d) → frzWL look k ds = some ds
  | [], _ => by rw [frzWL]
  | d :: ds, h => by
    rw [frzWL, h d List.mem_cons_self, frz_self fun x hx => h x (List.mem_cons_of_mem _ hx)]; rfl
theorem frz_on {look : Nat → Option D} {k : Nat} (os : List (Option Nat)) : frzWL look k (on os) = some (on os) := frz_self fun d hd => by
  obtain ⟨o, _, rfl⟩ := List.mem_map.mp hd
  cases o with
  | none => show frzW look k .non = _; rw [frzW]; rfl
  | some q => show frzW look k (.int q) = _; rw [frzW]; rfl
end DL
namespace DL
open PySem PySem.Spec L2
open PyProof.Rows hiding St
def ttB : Ev → Bool
  | [] => true
  | none :: r => ttB r
  | some d :: r => tt d && ttB r
theorem ttE_of : ∀ {ρ : Ev}, ttB ρ = true → ttE ρ
  | [], _, i, d, e => by simp at e
  | none :: r, h, 0, d, e => by simp at e
  | none :: r, h, i + 1, d, e => ttE_of (ρ := r) h i d (by simpa using e)
  | some x :: r, h, 0, d, e => by
    simp only [ttB, Bool.and_eq_true] at h
    simp at e; subst e; exact h.1
  | some x :: r, h, i + 1, d, e => by
    simp only [ttB, Bool.and_eq_true] at h
    exact ttE_of (ρ := r) h.2 i d (by simpa using e)
theorem ttL_ints (l : List Int) : ttL (l.map D.int) = true := by
  induction l with
  | nil => rfl
  | cons a l ih => rw [List.map_cons, ttL, ih, tt]; rfl
noncomputable def L1_later_places : GM :=
  (gYield (eOp dMod (eOp dAdd (eVar 1) (eVar 2)) (eCall bLen (aCons (eVar 0) aNil))))
noncomputable def B_later_places : GM :=
  (gForJ (jRng2 (aCons (eC (.int 1)) (aCons (eOp dAdd (eCall bLen (aCons (eVar 0) aNil)) (eC (.int 1))) aNil))) (tN 2) L1_later_places)
def G_later_places : List D → Option (List D) := fun ds => match ds with
  | [.tup ts, .int p] => if 0 < ts.length ∧ ts.length ≤ 10 ^ 6 ∧ ttL ts = true then some ((List.range ts.length).map fun i => .int ((p + ((1 : Int) + (i : Nat))) % (ts.length : Int))) else none
  | _ => none
theorem later_loop (ts : List D) (p : Int) (h0 : 0 < ts.length) (ht : ttL ts = true) : ∀ (ks : List Nat) (x2 : Option D), ∃ ρ', gLoop (tN 2) L1_later_places (ks.map fun (k : Nat) => .int ((1 : Int) + (k : Nat))) [some (.tup ts), some (.int p), x2] (ks.map fun (i : Nat) => .int ((p + ((1 : Int) + (i : Nat))) % (ts.length : Int))) ρ'
  | [], x2 => ⟨_, rfl, rfl⟩
  | k :: ks, x2 => by
    obtain ⟨ρ', h⟩ := later_loop ts p h0 ht ks (some (.int ((1 : Int) + (k : Nat))))
    refine ⟨ρ', [some (.tup ts), some (.int p), some (.int ((1 : Int) + (k : Nat)))], [_], _, _, rfl, ttE_of (by simp [ttB, tt, ht]), ⟨rfl, _, rfl, rfl, ?_⟩, h, rfl⟩
    have ln : ∀ S, bLen [.tup ts] S = .ok (.int ts.length) S := fun S => rfl
    have hm : ∀ i S, dMod (.int i) (.int ts.length) S = .ok (.int (i % ts.length)) S := fun i S => by
      show (if (0 : Int) < (ts.length : Int) then R.ok (D.int (i % (ts.length : Int))) S else .stuck) = _
      rw [if_pos (by omega)]
    simp only [eVar, eC, eOp, eT, eAnd, eOr, eNot, eIf, eAndV, eOrV, eNotV, eCall, aNil, aCons, aStar, sOf, eTup, eFl, eLoc, eSl, oNone, oSome, iOf, eNeg, eChain, eMt, bOf, eDict0, eRev, eListRg, iZipD, sRaise1, sRaise0, eCallV, List.lookup, R.bind_ok, R.bind_er, R.bind_stuck, R.toS_ok, R.toS_er, R.toS_stuck, SR.next_nx, SR.next_rt, SR.next_er, SR.next_bk, SR.next_ct, SR.next_stuck, sNil, sSeq, sBrk, sCnt, sExp, sRet, sRetN, sIf, sSet, sAsg, sAug, sPar2, sPar3, tN, DL.tTup, DL.tNil, DL.tCons, DL.tSub, iSeq, srcOf_tup, srcOf_fl, srcOf_kl, srcOf_ti, iRange1, iRange2, sFor, startD, List.map_cons, List.map_nil, List.length_cons, List.length_nil, List.replicate, List.cons_append, List.nil_append, List.getElem?_cons_zero, List.getElem?_cons_succ, List.set_cons_zero, List.set_cons_succ, dSub_int, dFdiv_int, dMod_int, dLt_int, dLe_int, dGt_int, dGe_int, dAddI_int, dSubI_int, dIsN_non, isN, dAdd_int, ll0, ll1, ll2, ll3, ll4, ll5, ll6, ll7, ll8, ll9, ll10, ll11, ll12, ll13, ll14, ll15, ll16, ll17, ll18, ll19, ll20, ll21, ll22, ll23, ll24, ll25, ll26, ll27, ll28, ll29, ll30, ll31, ll32, ll33, ll34, ll35, ll36, ll37, ll38, ll39, ll40, Nat.reduceSub, Nat.reduceAdd, Nat.reduceEqDiff, if_true, if_false, ifp_t, ifp_f, reduceIte, Bool.true_eq_false, Bool.false_eq_true, Option.map_some, Option.map_none, Option.bind_some, Option.bind_none, tSq, sSet2, seqOf_fl, seqOf_tup, seqOf_ti, ln, hm]
theorem gb_later_places : ∀ ds xs, G_later_places ds = some xs → ds.length = 2 ∧ ∃ ρ', B_later_places (startD 3 ds) xs ρ' := by
  intro ds xs h
  unfold G_later_places at h
  split at h
  · rename_i ts p
    split at h
    · rename_i hh
      cases h
      refine ⟨rfl, ?_⟩
      obtain ⟨ρ', hl⟩ := later_loop ts p hh.1 hh.2.2 (List.range ts.length) none
      refine ⟨ρ', rangeD 1 ts.length, ⟨1, (ts.length : Int) + 1, ?_, ?_, ?_⟩, hl⟩
      · have ln : ∀ S, bLen [.tup ts] S = .ok (.int ts.length) S := fun S => rfl
        simp only [eVar, eC, eOp, eT, eAnd, eOr, eNot, eIf, eAndV, eOrV, eNotV, eCall, aNil, aCons, aStar, sOf, eTup, eFl, eLoc, eSl, oNone, oSome, iOf, eNeg, eChain, eMt, bOf, eDict0, eRev, eListRg, iZipD, sRaise1, sRaise0, eCallV, List.lookup, R.bind_ok, R.bind_er, R.bind_stuck, R.toS_ok, R.toS_er, R.toS_stuck, SR.next_nx, SR.next_rt, SR.next_er, SR.next_bk, SR.next_ct, SR.next_stuck, sNil, sSeq, sBrk, sCnt, sExp, sRet, sRetN, sIf, sSet, sAsg, sAug, sPar2, sPar3, tN, DL.tTup, DL.tNil, DL.tCons, DL.tSub, iSeq, srcOf_tup, srcOf_fl, srcOf_kl, srcOf_ti, iRange1, iRange2, sFor, startD, List.map_cons, List.map_nil, List.length_cons, List.length_nil, List.replicate, List.cons_append, List.nil_append, List.getElem?_cons_zero, List.getElem?_cons_succ, List.set_cons_zero, List.set_cons_succ, dSub_int, dFdiv_int, dMod_int, dLt_int, dLe_int, dGt_int, dGe_int, dAddI_int, dSubI_int, dIsN_non, isN, dAdd_int, ll0, ll1, ll2, ll3, ll4, ll5, ll6, ll7, ll8, ll9, ll10, ll11, ll12, ll13, ll14, ll15, ll16, ll17, ll18, ll19, ll20, ll21, ll22, ll23, ll24, ll25, ll26, ll27, ll28, ll29, ll30, ll31, ll32, ll33, ll34, ll35, ll36, ll37, ll38, ll39, ll40, Nat.reduceSub, Nat.reduceAdd, Nat.reduceEqDiff, if_true, if_false, ifp_t, ifp_f, reduceIte, Bool.true_eq_false, Bool.false_eq_true, Option.map_some, Option.map_none, Option.bind_some, Option.bind_none, tSq, sSet2, seqOf_fl, seqOf_tup, seqOf_ti, ln]
      · have := hh.2.1
        omega
      · congr 1
        omega
    · cases h
  · cases h
theorem ix_at {r : List Int} {i : Nat} {x : Int} (h : r[i]? = some x) (S : Sto) : dIx (ti r) (.int (i : Int)) S = .ok (.int x) S := by
  have hl : i < r.length := (List.getElem?_eq_some_iff.mp h).1
  refine dIx_tup ?_
  rw [atI_nn (by omega) (by rw [List.length_map]; omega), Int.toNat_natCast, List.getElem?_map, h]
  rfl
noncomputable def L1_find_taker (ρ : Ev) (S : Sto) : SR :=
  (sSeq (sIf (eT (eOp dGt (eOp dIx (eVar 0) (eVar 3)) (eVar 2))) (sRet (eVar 3)) sNil)
    (sAug 2 dAddI (eOp dSub (eC (.int 1)) (eOp dIx (eVar 0) (eVar 3))))) ρ S
noncomputable def B_find_taker : Ev → Sto → SR :=
  (sSeq (sSet 2 (eC (.int 0)))
    (sSeq (sForG (eGen G_later_places (aCons (eVar 0) (aCons (eVar 1) aNil))) (tN 3) L1_find_taker sNil)
    (sRet (eC .non))))
noncomputable def F_find_taker : Fn := fnC close 4 2 B_find_taker
/-- the places after p, from the i-th on -/
def aft (n p i m : Nat) : List D := (List.range' i m).map fun j => .int (((p + 1 + j) % n : Nat) : Int)
theorem forD_rt {g : Sto → Prop} {T : Tg} {B Z : Ev → Sto → SR} {d x : D} {ds : List D} {ρ ρ1 : Ev} {S S1 S2 : Sto} (h : g S) (hT : T d ρ S = some (ρ1, S1)) (hB : B ρ1 S1 = .rt x S2) : forD g T B Z (d :: ds) ρ S = .rt x S2 := by
  rw [forD, if_pos h, hT]
  simp only [hB]
theorem ft_loop (l : List Int) (p : Nat) (S : Sto) (h0 : 0 < l.length) : ∀ (m i : Nat) (h : Int) (x3 : Option D),
    (∀ s, fstT h (tkn l (p + 1 + i) m) = some s → forD yes (tN 3) L1_find_taker sNil (aft l.length p i m) [some (ti l), some (.int p), some (.int h), x3] S = .rt (.int (((p + i + s) % l.length : Nat) : Int)) S) ∧
    (fstT h (tkn l (p + 1 + i) m) = none → ∃ y2 y3, forD yes (tN 3) L1_find_taker sNil (aft l.length p i m) [some (ti l), some (.int p), some (.int h), x3] S = .nx [some (ti l), some (.int p), y2, y3] S)
  | 0, i, h, x3 => by
    refine ⟨fun s e => by simp [tkn, fstT] at e, fun _ => ⟨some (.int h), x3, ?_⟩⟩
    show forD yes _ L1_find_taker sNil [] _ _ = _
    rw [forD_nil trivial]; rfl
  | m + 1, i, h, x3 => by
    have ih := fun h => ft_loop l p S h0 m (i + 1) h (some (.int (((p + 1 + i) % l.length : Nat) : Int)))
    have hlt : (p + 1 + i) % l.length < l.length := Nat.mod_lt _ h0
    obtain ⟨t, ht⟩ : ∃ t, l[(p + 1 + i) % l.length]? = some t := ⟨_, List.getElem?_eq_getElem hlt⟩
    have e1 : tkn l (p + 1 + i) (m + 1) = t :: tkn l (p + 1 + (i + 1)) m := by
      rw [Nat.add_comm m 1, tkn_app]
      have : tkn l (p + 1 + i) 1 = [t] := by simp [tkn, ht]
      rw [this]; rfl
    have e2 : aft l.length p i (m + 1) = .int (((p + 1 + i) % l.length : Nat) : Int) :: aft l.length p (i + 1) m := by
      unfold aft; rw [List.range'_succ, List.map_cons]
    have ix := ix_at ht
    rw [e1, e2, fstT]
    have hT : tN 3 (.int (((p + 1 + i) % l.length : Nat) : Int)) [some (ti l), some (.int p), some (.int h), x3] S = some ([some (ti l), some (.int p), some (.int h), some (.int (((p + 1 + i) % l.length : Nat) : Int))], S) := rfl
    generalize hq : (p + 1 + i) % l.length = q at ix hT ih
    by_cases hc : h + (1 - t) ≤ 0
    · rw [if_pos hc]
      refine ⟨fun s e => ?_, fun e => by cases e⟩
      cases e
      have hgt : (h < t) = True := by simp only [eq_iff_iff, iff_true]; omega
      refine (forD_rt (x := .int (q : Int)) (S2 := S) trivial hT ?_).trans ?_
      · simp only [eVar, eC, eOp, eT, eAnd, eOr, eNot, eIf, eAndV, eOrV, eNotV, eCall, aNil, aCons, aStar, sOf, eTup, eFl, eLoc, eSl, oNone, oSome, iOf, eNeg, eChain, eMt, bOf, eDict0, eRev, eListRg, iZipD, sRaise1, sRaise0, eCallV, List.lookup, R.bind_ok, R.bind_er, R.bind_stuck, R.toS_ok, R.toS_er, R.toS_stuck, SR.next_nx, SR.next_rt, SR.next_er, SR.next_bk, SR.next_ct, SR.next_stuck, sNil, sSeq, sBrk, sCnt, sExp, sRet, sRetN, sIf, sSet, sAsg, sAug, sPar2, sPar3, tN, DL.tTup, DL.tNil, DL.tCons, DL.tSub, iSeq, srcOf_tup, srcOf_fl, srcOf_kl, srcOf_ti, iRange1, iRange2, sFor, startD, List.map_cons, List.map_nil, List.length_cons, List.length_nil, List.replicate, List.cons_append, List.nil_append, List.getElem?_cons_zero, List.getElem?_cons_succ, List.set_cons_zero, List.set_cons_succ, dSub_int, dFdiv_int, dMod_int, dLt_int, dLe_int, dGt_int, dGe_int, dAddI_int, dSubI_int, dIsN_non, isN, dAdd_int, ll0, ll1, ll2, ll3, ll4, ll5, ll6, ll7, ll8, ll9, ll10, ll11, ll12, ll13, ll14, ll15, ll16, ll17, ll18, ll19, ll20, ll21, ll22, ll23, ll24, ll25, ll26, ll27, ll28, ll29, ll30, ll31, ll32, ll33, ll34, ll35, ll36, ll37, ll38, ll39, ll40, Nat.reduceSub, Nat.reduceAdd, Nat.reduceEqDiff, if_true, if_false, ifp_t, ifp_f, reduceIte, Bool.true_eq_false, Bool.false_eq_true, Option.map_some, Option.map_none, Option.bind_some, Option.bind_none, tSq, sSet2, seqOf_fl, seqOf_tup, seqOf_ti, L1_find_taker, ix, hgt, decide_true]
      · rw [← hq, show p + 1 + i = p + i + 1 by omega]
    · rw [if_neg hc]
      have hgt : (h < t) = False := by simp only [eq_iff_iff, iff_false]; omega
      have step : L1_find_taker [some (ti l), some (.int p), some (.int h), some (.int (q : Int))] S = .nx [some (ti l), some (.int p), some (.int (h + (1 - t))), some (.int (q : Int))] S := by
        simp only [eVar, eC, eOp, eT, eAnd, eOr, eNot, eIf, eAndV, eOrV, eNotV, eCall, aNil, aCons, aStar, sOf, eTup, eFl, eLoc, eSl, oNone, oSome, iOf, eNeg, eChain, eMt, bOf, eDict0, eRev, eListRg, iZipD, sRaise1, sRaise0, eCallV, List.lookup, R.bind_ok, R.bind_er, R.bind_stuck, R.toS_ok, R.toS_er, R.toS_stuck, SR.next_nx, SR.next_rt, SR.next_er, SR.next_bk, SR.next_ct, SR.next_stuck, sNil, sSeq, sBrk, sCnt, sExp, sRet, sRetN, sIf, sSet, sAsg, sAug, sPar2, sPar3, tN, DL.tTup, DL.tNil, DL.tCons, DL.tSub, iSeq, srcOf_tup, srcOf_fl, srcOf_kl, srcOf_ti, iRange1, iRange2, sFor, startD, List.map_cons, List.map_nil, List.length_cons, List.length_nil, List.replicate, List.cons_append, List.nil_append, List.getElem?_cons_zero, List.getElem?_cons_succ, List.set_cons_zero, List.set_cons_succ, dSub_int, dFdiv_int, dMod_int, dLt_int, dLe_int, dGt_int, dGe_int, dAddI_int, dSubI_int, dIsN_non, isN, dAdd_int, ll0, ll1, ll2, ll3, ll4, ll5, ll6, ll7, ll8, ll9, ll10, ll11, ll12, ll13, ll14, ll15, ll16, ll17, ll18, ll19, ll20, ll21, ll22, ll23, ll24, ll25, ll26, ll27, ll28, ll29, ll30, ll31, ll32, ll33, ll34, ll35, ll36, ll37, ll38, ll39, ll40, Nat.reduceSub, Nat.reduceAdd, Nat.reduceEqDiff, if_true, if_false, ifp_t, ifp_f, reduceIte, Bool.true_eq_false, Bool.false_eq_true, Option.map_some, Option.map_none, Option.bind_some, Option.bind_none, tSq, sSet2, seqOf_fl, seqOf_tup, seqOf_ti, L1_find_taker, ix, hgt, decide_false]
      rw [forD_cons trivial hT step]
      refine ⟨fun s e => ?_, fun e => ?_⟩
      · cases e3 : fstT (h + (1 - t)) (tkn l (p + 1 + (i + 1)) m) with
        | none => rw [e3] at e; cases e
        | some s' =>
          rw [e3] at e
          cases e
          rw [(ih (h + (1 - t))).1 s' e3]
          rw [show p + (i + 1) + s' = p + i + (s' + 1) by omega]
      · cases e3 : fstT (h + (1 - t)) (tkn l (p + 1 + (i + 1)) m) with
        | none => exact (ih (h + (1 - t))).2 e3
        | some s' => rw [e3] at e; cases e
theorem find_taker_ok {l : List Int} {p : Nat} (h0 : 0 < l.length) (hl : l.length ≤ 10 ^ 6) (S : Sto) : F_find_taker [ti l, .int (p : Int)] S = .ok (optN (tkr l p)) S := by
  refine fnC_rt rfl ?_ rfl
  unfold B_find_taker
  have hG : ∀ S, eGen G_later_places (aCons (eVar 0) (aCons (eVar 1) aNil)) [some (ti l), some (.int (p : Int)), some (.int 0), none] S = .ok (aft l.length p 0 l.length) S := fun S => by
    have e : aCons (eVar 0) (aCons (eVar 1) aNil) [some (ti l), some (.int (p : Int)), some (.int 0), none] S = .ok [ti l, .int (p : Int)] S := rfl
    unfold eGen
    rw [e, R.bind_ok, if_pos (by simp [ti, ttL, tt, ttL_ints])]
    have : G_later_places [ti l, .int (p : Int)] = some (aft l.length p 0 l.length) := by
      unfold G_later_places ti
      dsimp only
      rw [if_pos ⟨by rw [List.length_map]; exact h0, by rw [List.length_map]; exact hl, ttL_ints l⟩, List.length_map]
      unfold aft
      rw [List.range_eq_range']
      congr 1
      refine List.map_congr_left fun i _ => ?_
      rw [Int.natCast_emod]
      congr 2
      omega
    rw [this]
  have lp := ft_loop l p S h0 l.length 0 0 none
  rw [Nat.add_zero, Nat.add_zero, tkn_rot l (p + 1) h0] at lp
  unfold tkr
  simp only [eVar, eC, eOp, eT, eAnd, eOr, eNot, eIf, eAndV, eOrV, eNotV, eCall, aNil, aCons, aStar, sOf, eTup, eFl, eLoc, eSl, oNone, oSome, iOf, eNeg, eChain, eMt, bOf, eDict0, eRev, eListRg, iZipD, sRaise1, sRaise0, eCallV, List.lookup, R.bind_ok, R.bind_er, R.bind_stuck, R.toS_ok, R.toS_er, R.toS_stuck, SR.next_nx, SR.next_rt, SR.next_er, SR.next_bk, SR.next_ct, SR.next_stuck, sNil, sSeq, sBrk, sCnt, sExp, sRet, sRetN, sIf, sSet, sAsg, sAug, sPar2, sPar3, tN, DL.tTup, DL.tNil, DL.tCons, DL.tSub, iSeq, srcOf_tup, srcOf_fl, srcOf_kl, srcOf_ti, iRange1, iRange2, sFor, startD, List.map_cons, List.map_nil, List.length_cons, List.length_nil, List.replicate, List.cons_append, List.nil_append, List.getElem?_cons_zero, List.getElem?_cons_succ, List.set_cons_zero, List.set_cons_succ, dSub_int, dFdiv_int, dMod_int, dLt_int, dLe_int, dGt_int, dGe_int, dAddI_int, dSubI_int, dIsN_non, isN, dAdd_int, ll0, ll1, ll2, ll3, ll4, ll5, ll6, ll7, ll8, ll9, ll10, ll11, ll12, ll13, ll14, ll15, ll16, ll17, ll18, ll19, ll20, ll21, ll22, ll23, ll24, ll25, ll26, ll27, ll28, ll29, ll30, ll31, ll32, ll33, ll34, ll35, ll36, ll37, ll38, ll39, ll40, Nat.reduceSub, Nat.reduceAdd, Nat.reduceEqDiff, if_true, if_false, ifp_t, ifp_f, reduceIte, Bool.true_eq_false, Bool.false_eq_true, Option.map_some, Option.map_none, Option.bind_some, Option.bind_none, tSq, sSet2, seqOf_fl, seqOf_tup, seqOf_ti, sForG, hG]
  cases e : fstT 0 (rot l ((p + 1) % l.length)) with
  | none =>
    obtain ⟨y2, y3, lp2⟩ := lp.2 e
    rw [lp2]
    rfl
  | some s =>
    rw [lp.1 s e]
    rfl
end DL
namespace DL
open PySem PySem.Spec L2
open PyProof.Rows hiding St
def tkrs (l : List Int) : List (Option Nat) := (List.range l.length).map (tkr l)
theorem low_optN (o : Option Nat) (m : Nat) : low m (optN o) = true := by cases o <;> rfl
theorem isN_opt (o : Option Nat) (S : Sto) : dIsN false (optN o) .non S = .ok (.bl o.isNone) S := by cases o <;> rfl
end DL
namespace DL
open PySem PySem.Spec L2
open PyProof.Rows hiding St
/-- a comprehension whose parts change nothing and read the store -/
theorem compD_at {T : Tg} {c : Ev → Sto → R Bool} {f : Ev → Sto → R D} {ρ : Ev} (ρd : D → Ev) (p : D → Bool) (e : D → D) (S : Sto) : ∀ (ds acc : List D),
    (∀ d ∈ ds, ∀ a, T d ρ (S ++ [.lst a]) = some (ρd d, S ++ [.lst a]) ∧ c (ρd d) (S ++ [.lst a]) = .ok (p d) (S ++ [.lst a]) ∧ (p d = true → f (ρd d) (S ++ [.lst a]) = .ok (e d) (S ++ [.lst a]))) → acc.length + ds.length ≤ sizeLine →
    compD yes T c f S.length ρ ds (S ++ [.lst acc]) = some (S ++ [.lst (acc ++ (ds.filter p).map e)])
  | [], acc, _, _ => by rw [compD, if_pos (show yes _ from trivial)]; simp
  | d :: ds, acc, h, hl => by
    obtain ⟨h1, h2, h3⟩ := h d List.mem_cons_self acc
    have hl' : acc.length + (ds.length + 1) ≤ sizeLine := hl
    rw [compD, if_pos (show yes _ from trivial), h1]
    simp only [h2]
    cases hp : p d with
    | false =>
      rw [if_neg (by decide)]
      rw [compD_at ρd p e S ds acc (fun x hx => h x (List.mem_cons_of_mem _ hx)) (by omega)]
      simp [List.filter, hp]
    | true =>
      rw [if_pos rfl]
      simp only [h3 hp, getL_end, set_end]
      rw [ifp_pos (by omega)]
      rw [compD_at ρd p e S ds (acc ++ [e d]) (fun x hx => h x (List.mem_cons_of_mem _ hx)) (by simp; omega)]
      simp [List.filter, hp]
theorem eLc_at {src : Ev → Sto → R Src} {T : Tg} {vs : List Nat} {c : Ev → Sto → R Bool} {f : Ev → Sto → R D} {ρ : Ev} {S : Sto} (ds : List D) (ρd : D → Ev) (p : D → Bool) (e : D → D) (hs : src ρ S = .ok (ds, yes) S)
    (h : ∀ d ∈ ds, ∀ a, T d (wipeD ρ vs) (S ++ [.lst a]) = some (ρd d, S ++ [.lst a]) ∧ c (ρd d) (S ++ [.lst a]) = .ok (p d) (S ++ [.lst a]) ∧ (p d = true → f (ρd d) (S ++ [.lst a]) = .ok (e d) (S ++ [.lst a]))) (hl : ds.length ≤ sizeLine) (hlow : ∀ d ∈ ds, p d = true → low S.length (e d) = true) :
    eLc finFl src T vs c f ρ S = .ok (.fl ((ds.filter p).map e)) S := by
  unfold eLc
  rw [hs]
  show (match compD yes T c f S.length (wipeD ρ vs) ds (S ++ [Ob.lst []]) with
    | some S2 => finFl S S2
    | none => .stuck) = _
  rw [compD_at ρd p e S ds [] h (by simpa using hl)]
  simp only [List.nil_append]
  refine finFl_end (lowL_of fun d hd => ?_)
  obtain ⟨x, hx, rfl⟩ := List.mem_map.mp hd
  obtain ⟨h1, h2⟩ := List.mem_filter.mp hx
  exact hlow x h1 h2
noncomputable def E1_takersZ (ρ : Ev) (S : Sto) : R D :=
  (eCall F_find_taker (aCons (eVar 0) (aCons (eVar 1) aNil))) ρ S
noncomputable def B_takersZ : Ev → Sto → SR :=
  (sRet (eCall bTupleZ (aCons (eLc finFl (iRange1 (aCons (eCall bLen (aCons (eVar 0) aNil)) aNil)) (tN 1) [1] cYes E1_takersZ) aNil)))
noncomputable def F_takersZ : Fn := fnC closeK 2 1 B_takersZ
noncomputable def E1_lacks (ρ : Ev) (S : Sto) : R D :=
  (eOp dSub (eVar 3) (eMt isTpl mCntZ (eVar 1) (aCons (eVar 2) aNil))) ρ S
noncomputable def B_lacks : Ev → Sto → SR :=
  (sSeq (sSet 1 (eCall F_takersZ (aCons (eVar 0) aNil)))
    (sRet (eCall bTuple (aCons (eLc finFl (iEnumD (aCons (eVar 0) aNil)) (tTup 2 (tCons (tN 2) (tCons (tN 3) tNil))) [2, 3] cYes E1_lacks) aNil))))
noncomputable def F_lacks : Fn := fnC close 4 1 B_lacks
theorem fnC_rtK {n m : Nat} {B : Ev → Sto → SR} {ds : List D} {S S' : Sto} {d : D} (hm : ds.length = m) (h : B (startD n ds) S = .rt d S') : fnC closeK n m B ds S = .ok d S' := by
  unfold fnC
  rw [if_pos hm, h]
  rfl
theorem takersZ_ok (l : List Int) (h0 : 0 < l.length) (hl : l.length ≤ 10 ^ 5) (S : Sto) : F_takersZ [ti l] S = .ok (.loc S.length) (S ++ [.tpl (on (tkrs l))]) := by
  refine fnC_rtK rfl ?_
  unfold B_takersZ
  have key := lc_range (i := 1) (E := E1_takersZ) (ρ := [some (ti l), none]) (S := S) (src := iRange1 (aCons (eCall bLen (aCons (eVar 0) aNil)) aNil)) l.length (fun k => optN (tkr l k)) (fun d => [some (ti l), some d]) ?_ ?_ (by omega) (fun k m => low_optN _ m)
  · have e : (List.range l.length).map (fun k => optN (tkr l k)) = on (tkrs l) := by simp [on, tkrs]
    rw [e] at key
    have hst : startD 2 [ti l] = [some (ti l), none] := rfl
    rw [hst]
    have bz : bTupleZ [.fl (on (tkrs l))] S = .ok (.loc S.length) (S ++ [.tpl (on (tkrs l))]) := rfl
    generalize on (tkrs l) = BL at *
    simp only [eVar, eC, eOp, eT, eAnd, eOr, eNot, eIf, eAndV, eOrV, eNotV, eCall, aNil, aCons, aStar, sOf, eTup, eFl, eLoc, eSl, oNone, oSome, iOf, eNeg, eChain, eMt, bOf, eDict0, eRev, eListRg, iZipD, sRaise1, sRaise0, eCallV, List.lookup, R.bind_ok, R.bind_er, R.bind_stuck, R.toS_ok, R.toS_er, R.toS_stuck, SR.next_nx, SR.next_rt, SR.next_er, SR.next_bk, SR.next_ct, SR.next_stuck, sNil, sSeq, sBrk, sCnt, sExp, sRet, sRetN, sIf, sSet, sAsg, sAug, sPar2, sPar3, tN, DL.tTup, DL.tNil, DL.tCons, DL.tSub, iSeq, srcOf_tup, srcOf_fl, srcOf_kl, srcOf_ti, iRange1, iRange2, sFor, startD, List.map_cons, List.map_nil, List.length_cons, List.length_nil, List.replicate, List.cons_append, List.nil_append, List.getElem?_cons_zero, List.getElem?_cons_succ, List.set_cons_zero, List.set_cons_succ, dSub_int, dFdiv_int, dMod_int, dLt_int, dLe_int, dGt_int, dGe_int, dAddI_int, dSubI_int, dIsN_non, isN, dAdd_int, ll0, ll1, ll2, ll3, ll4, ll5, ll6, ll7, ll8, ll9, ll10, ll11, ll12, ll13, ll14, ll15, ll16, ll17, ll18, ll19, ll20, ll21, ll22, ll23, ll24, ll25, ll26, ll27, ll28, ll29, ll30, ll31, ll32, ll33, ll34, ll35, ll36, ll37, ll38, ll39, ll40, Nat.reduceSub, Nat.reduceAdd, Nat.reduceEqDiff, if_true, if_false, ifp_t, ifp_f, reduceIte, Bool.true_eq_false, Bool.false_eq_true, Option.map_some, Option.map_none, Option.bind_some, Option.bind_none, tSq, sSet2, seqOf_fl, seqOf_tup, seqOf_ti, key, bz]
  · have hr : ((-(2 ^ 62) : Int) ≤ (l.length : Int) ∧ (l.length : Int) < 2 ^ 62) = True := by simp; omega
    simp only [eVar, eC, eOp, eT, eAnd, eOr, eNot, eIf, eAndV, eOrV, eNotV, eCall, aNil, aCons, aStar, sOf, eTup, eFl, eLoc, eSl, oNone, oSome, iOf, eNeg, eChain, eMt, bOf, eDict0, eRev, eListRg, iZipD, sRaise1, sRaise0, eCallV, List.lookup, R.bind_ok, R.bind_er, R.bind_stuck, R.toS_ok, R.toS_er, R.toS_stuck, SR.next_nx, SR.next_rt, SR.next_er, SR.next_bk, SR.next_ct, SR.next_stuck, sNil, sSeq, sBrk, sCnt, sExp, sRet, sRetN, sIf, sSet, sAsg, sAug, sPar2, sPar3, tN, DL.tTup, DL.tNil, DL.tCons, DL.tSub, iSeq, srcOf_tup, srcOf_fl, srcOf_kl, srcOf_ti, iRange1, iRange2, sFor, startD, List.map_cons, List.map_nil, List.length_cons, List.length_nil, List.replicate, List.cons_append, List.nil_append, List.getElem?_cons_zero, List.getElem?_cons_succ, List.set_cons_zero, List.set_cons_succ, dSub_int, dFdiv_int, dMod_int, dLt_int, dLe_int, dGt_int, dGe_int, dAddI_int, dSubI_int, dIsN_non, isN, dAdd_int, ll0, ll1, ll2, ll3, ll4, ll5, ll6, ll7, ll8, ll9, ll10, ll11, ll12, ll13, ll14, ll15, ll16, ll17, ll18, ll19, ll20, ll21, ll22, ll23, ll24, ll25, ll26, ll27, ll28, ll29, ll30, ll31, ll32, ll33, ll34, ll35, ll36, ll37, ll38, ll39, ll40, Nat.reduceSub, Nat.reduceAdd, Nat.reduceEqDiff, if_true, if_false, ifp_t, ifp_f, reduceIte, Bool.true_eq_false, Bool.false_eq_true, Option.map_some, Option.map_none, Option.bind_some, Option.bind_none, tSq, sSet2, seqOf_fl, seqOf_tup, seqOf_ti, ti_len, hr, Int.toNat_natCast]
  · intro k hk S'
    refine ⟨rfl, ?_⟩
    simp only [eVar, eC, eOp, eT, eAnd, eOr, eNot, eIf, eAndV, eOrV, eNotV, eCall, aNil, aCons, aStar, sOf, eTup, eFl, eLoc, eSl, oNone, oSome, iOf, eNeg, eChain, eMt, bOf, eDict0, eRev, eListRg, iZipD, sRaise1, sRaise0, eCallV, List.lookup, R.bind_ok, R.bind_er, R.bind_stuck, R.toS_ok, R.toS_er, R.toS_stuck, SR.next_nx, SR.next_rt, SR.next_er, SR.next_bk, SR.next_ct, SR.next_stuck, sNil, sSeq, sBrk, sCnt, sExp, sRet, sRetN, sIf, sSet, sAsg, sAug, sPar2, sPar3, tN, DL.tTup, DL.tNil, DL.tCons, DL.tSub, iSeq, srcOf_tup, srcOf_fl, srcOf_kl, srcOf_ti, iRange1, iRange2, sFor, startD, List.map_cons, List.map_nil, List.length_cons, List.length_nil, List.replicate, List.cons_append, List.nil_append, List.getElem?_cons_zero, List.getElem?_cons_succ, List.set_cons_zero, List.set_cons_succ, dSub_int, dFdiv_int, dMod_int, dLt_int, dLe_int, dGt_int, dGe_int, dAddI_int, dSubI_int, dIsN_non, isN, dAdd_int, ll0, ll1, ll2, ll3, ll4, ll5, ll6, ll7, ll8, ll9, ll10, ll11, ll12, ll13, ll14, ll15, ll16, ll17, ll18, ll19, ll20, ll21, ll22, ll23, ll24, ll25, ll26, ll27, ll28, ll29, ll30, ll31, ll32, ll33, ll34, ll35, ll36, ll37, ll38, ll39, ll40, Nat.reduceSub, Nat.reduceAdd, Nat.reduceEqDiff, if_true, if_false, ifp_t, ifp_f, reduceIte, Bool.true_eq_false, Bool.false_eq_true, Option.map_some, Option.map_none, Option.bind_some, Option.bind_none, tSq, sSet2, seqOf_fl, seqOf_tup, seqOf_ti, E1_takersZ, find_taker_ok (p := k) h0 (by omega) S']
def pyO : Option Nat → PyData
  | none => .none
  | some q => .int (q : Int)
theorem pyL_on (os : List (Option Nat)) : pyL (on os) = some (os.map pyO) := by
  induction os with
  | nil => rfl
  | cons o os ih =>
    show pyL (optN o :: on os) = _
    cases o with
    | none =>
      have e : py (optN none) = some PyData.none := rfl
      rw [pyL, e, ih]; rfl
    | some q =>
      have e : py (optN (some q)) = some (PyData.int (q : Int)) := rfl
      rw [pyL, e, ih]; rfl
theorem shaped_on (os : List (Option Nat)) : SeqAt.shaped (.list (os.map pyO)) = true := by
  have h1 : PyData.canLayAll0 (os.map pyO) = true := by
    induction os with
    | nil => rfl
    | cons o os ih =>
      rw [List.map_cons, PyData.canLayAll0, ih]
      cases o <;> rfl
  have h2 : PyData.depthAll (os.map pyO) = 0 := by
    induction os with
    | nil => rfl
    | cons o os ih =>
      rw [List.map_cons, PyData.canLayAll0, Bool.and_eq_true] at h1
      rw [List.map_cons, PyData.depthAll, ih h1.2]
      cases o <;> rfl
  simp [SeqAt.shaped, PyData.canLay0, h1, PyData.depth, h2]
theorem count_on (os : List (Option Nat)) (p : Nat) : (os.map pyO).countP (fun z => PyData.eqv z (.int (p : Int))) = os.count (some p) := by
  rw [List.countP_map]
  unfold List.count
  congr 1
  funext o
  cases o with
  | none => rfl
  | some q =>
    show PyData.eqv (.int (q : Int)) (.int (p : Int)) = (some q == some p)
    have e : ((q : Int) == (p : Int)) = (q == p) := by
      rw [Bool.eq_iff_iff, beq_iff_eq, beq_iff_eq]; omega
    simp only [PyData.eqv, e]
    rfl
theorem cntZ_at {S : Sto} {n : Nat} {os : List (Option Nat)} (h : getZ S n = some (on os)) (p : Nat) : mCntZ (.loc n) [.int (p : Int)] S = .ok (.int (os.count (some p) : Nat)) S := by
  show (match getZ S n with
    | some xs => (match pyL xs, pyS S (.int (p : Int)) with
      | some ps, some q => if SeqAt.shaped (.list ps) = true ∧ SeqAt.shaped q = true then R.ok (D.int (ps.countP fun z => PyData.eqv z q : Nat)) S else .stuck
      | _, _ => .stuck)
    | none => .stuck) = _
  rw [h]
  have e : pyS S (.int (p : Int)) = some (.int (p : Int)) := rfl
  simp only [pyL_on, e]
  rw [if_pos ⟨shaped_on os, shaped_int _⟩, count_on]
/-- how many values each token takes from those that were there at first -/
def lks (l : List Int) : List Int := (List.range l.length).map fun p => (l[p]?).getD 0 - ((tkrs l).count (some p) : Nat)
theorem enumD_ints : ∀ (k : Nat) (l : List Int), enumD k (l.map D.int) = (l.zipIdx k).map fun q => .tup [.int (q.2 : Int), .int q.1]
  | _, [] => rfl
  | k, o :: os => by
    rw [List.map_cons, enumD, enumD_ints (k + 1) os]; rfl
theorem close_low {S Y : Sto} {d : D} (h : low S.length d = true) : close S d (S ++ Y) = .ok d S := by
  by_cases hY : Y = []
  · subst hY
    rw [List.append_nil]
    exact close_same rfl
  · have hp : 0 < Y.length := List.length_pos_iff.mpr hY
    unfold close
    rw [if_neg (by rw [List.length_append]; omega), if_pos ⟨Trunc.same _ _, h⟩, List.take_left]
theorem lacks_ok (l : List Int) (h0 : 0 < l.length) (hl : l.length ≤ 10 ^ 5) (S : Sto) : F_lacks [ti l] S = .ok (ti (lks l)) S := by
  unfold F_lacks fnC
  rw [if_pos (show [ti l].length = 1 from rfl)]
  suffices hB : B_lacks (startD 4 [ti l]) S = .rt (ti (lks l)) (S ++ [.tpl (on (tkrs l))]) by
    rw [hB]
    show close S (ti (lks l)) (S ++ [.tpl (on (tkrs l))]) = _
    refine close_low ?_
    unfold ti
    rw [low]
    exact lowL_ints _ _
  unfold B_lacks
  have tz := takersZ_ok l h0 hl S
  have gz : ∀ a, getZ (S ++ [.tpl (on (tkrs l))] ++ [.lst a]) S.length = some (on (tkrs l)) := fun a => by
    unfold getZ
    rw [List.append_assoc, List.getElem?_append_right (Nat.le_refl _), Nat.sub_self]
    rfl
  generalize hS1 : S ++ [.tpl (on (tkrs l))] = S1 at *
  have hsrc : iEnumD (aCons (eVar 0) aNil) [some (ti l), some (.loc S.length), none, none] S1 = .ok (enumD 0 (l.map D.int), yes) S1 := rfl
  have key := eLc_at (src := iEnumD (aCons (eVar 0) aNil)) (T := tTup 2 (tCons (tN 2) (tCons (tN 3) tNil))) (vs := [2, 3]) (c := cYes) (f := E1_lacks) (ρ := [some (ti l), some (.loc S.length), none, none]) (S := S1) (enumD 0 (l.map D.int))
    (fun d => match d with | .tup [a, b] => [some (ti l), some (.loc S.length), some a, some b] | _ => []) (fun _ => true) (fun d => match d with | .tup [.int p, .int t] => .int (t - ((tkrs l).count (some p.toNat) : Nat)) | _ => .non) hsrc ?_ ?_ ?_
  · have e : ((enumD 0 (l.map D.int)).filter (fun _ => true)).map (fun d => match d with | .tup [.int p, .int t] => D.int (t - ((tkrs l).count (some p.toNat) : Nat)) | _ => .non) = (lks l).map D.int := by
      rw [List.filter_eq_self.mpr (fun _ _ => rfl), enumD_ints, List.map_map]
      unfold lks
      rw [List.map_map]
      refine List.ext_getElem (by simp) fun i h1 h2 => ?_
      have hi : i < l.length := by simpa using h2
      simp [hi]
    rw [e] at key
    have hst : startD 4 [ti l] = [some (ti l), none, none, none] := rfl
    rw [hst]
    have et : D.tup ((lks l).map D.int) = ti (lks l) := rfl
    have bt : ∀ S, bTuple [.fl ((lks l).map D.int)] S = .ok (ti (lks l)) S := fun S => rfl
    generalize (lks l).map D.int = LK at *
    generalize ti (lks l) = LT at *
    simp only [eVar, eC, eOp, eT, eAnd, eOr, eNot, eIf, eAndV, eOrV, eNotV, eCall, aNil, aCons, aStar, sOf, eTup, eFl, eLoc, eSl, oNone, oSome, iOf, eNeg, eChain, eMt, bOf, eDict0, eRev, eListRg, iZipD, sRaise1, sRaise0, eCallV, List.lookup, R.bind_ok, R.bind_er, R.bind_stuck, R.toS_ok, R.toS_er, R.toS_stuck, SR.next_nx, SR.next_rt, SR.next_er, SR.next_bk, SR.next_ct, SR.next_stuck, sNil, sSeq, sBrk, sCnt, sExp, sRet, sRetN, sIf, sSet, sAsg, sAug, sPar2, sPar3, tN, DL.tTup, DL.tNil, DL.tCons, DL.tSub, iSeq, srcOf_tup, srcOf_fl, srcOf_kl, srcOf_ti, iRange1, iRange2, sFor, startD, List.map_cons, List.map_nil, List.length_cons, List.length_nil, List.replicate, List.cons_append, List.nil_append, List.getElem?_cons_zero, List.getElem?_cons_succ, List.set_cons_zero, List.set_cons_succ, dSub_int, dFdiv_int, dMod_int, dLt_int, dLe_int, dGt_int, dGe_int, dAddI_int, dSubI_int, dIsN_non, isN, dAdd_int, ll0, ll1, ll2, ll3, ll4, ll5, ll6, ll7, ll8, ll9, ll10, ll11, ll12, ll13, ll14, ll15, ll16, ll17, ll18, ll19, ll20, ll21, ll22, ll23, ll24, ll25, ll26, ll27, ll28, ll29, ll30, ll31, ll32, ll33, ll34, ll35, ll36, ll37, ll38, ll39, ll40, Nat.reduceSub, Nat.reduceAdd, Nat.reduceEqDiff, if_true, if_false, ifp_t, ifp_f, reduceIte, Bool.true_eq_false, Bool.false_eq_true, Option.map_some, Option.map_none, Option.bind_some, Option.bind_none, tSq, sSet2, seqOf_fl, seqOf_tup, seqOf_ti, tz, key, bt]
  · intro d hd a
    rw [enumD_ints] at hd
    obtain ⟨⟨t, i⟩, _, rfl⟩ := List.mem_map.mp hd
    refine ⟨rfl, rfl, fun _ => ?_⟩
    have cz := cntZ_at (gz a) i
    have iz : isTpl (S1 ++ [.lst a]) (.loc S.length) = true := by
      unfold isTpl
      dsimp only
      rw [gz a]; rfl
    show E1_lacks [some (ti l), some (.loc S.length), some (.int (i : Int)), some (.int t)] (S1 ++ [.lst a]) = .ok (.int (t - ((tkrs l).count (some (i : Int).toNat) : Nat))) (S1 ++ [.lst a])
    rw [Int.toNat_natCast]
    simp only [eVar, eC, eOp, eT, eAnd, eOr, eNot, eIf, eAndV, eOrV, eNotV, eCall, aNil, aCons, aStar, sOf, eTup, eFl, eLoc, eSl, oNone, oSome, iOf, eNeg, eChain, eMt, bOf, eDict0, eRev, eListRg, iZipD, sRaise1, sRaise0, eCallV, List.lookup, R.bind_ok, R.bind_er, R.bind_stuck, R.toS_ok, R.toS_er, R.toS_stuck, SR.next_nx, SR.next_rt, SR.next_er, SR.next_bk, SR.next_ct, SR.next_stuck, sNil, sSeq, sBrk, sCnt, sExp, sRet, sRetN, sIf, sSet, sAsg, sAug, sPar2, sPar3, tN, DL.tTup, DL.tNil, DL.tCons, DL.tSub, iSeq, srcOf_tup, srcOf_fl, srcOf_kl, srcOf_ti, iRange1, iRange2, sFor, startD, List.map_cons, List.map_nil, List.length_cons, List.length_nil, List.replicate, List.cons_append, List.nil_append, List.getElem?_cons_zero, List.getElem?_cons_succ, List.set_cons_zero, List.set_cons_succ, dSub_int, dFdiv_int, dMod_int, dLt_int, dLe_int, dGt_int, dGe_int, dAddI_int, dSubI_int, dIsN_non, isN, dAdd_int, ll0, ll1, ll2, ll3, ll4, ll5, ll6, ll7, ll8, ll9, ll10, ll11, ll12, ll13, ll14, ll15, ll16, ll17, ll18, ll19, ll20, ll21, ll22, ll23, ll24, ll25, ll26, ll27, ll28, ll29, ll30, ll31, ll32, ll33, ll34, ll35, ll36, ll37, ll38, ll39, ll40, Nat.reduceSub, Nat.reduceAdd, Nat.reduceEqDiff, if_true, if_false, ifp_t, ifp_f, reduceIte, Bool.true_eq_false, Bool.false_eq_true, Option.map_some, Option.map_none, Option.bind_some, Option.bind_none, tSq, sSet2, seqOf_fl, seqOf_tup, seqOf_ti, E1_lacks, iz, cz]
  · rw [enumD_len]
    exact Nat.le_trans (show (l.map D.int).length ≤ 10 ^ 5 by simp; exact hl) (by decide)
  · intro d hd _
    rw [enumD_ints] at hd
    obtain ⟨⟨o, i⟩, _, rfl⟩ := List.mem_map.mp hd
    rfl
/-- the places from p on, once round -/
def frm (n p : Nat) : List Nat := (List.range n).map fun i => (p + i) % n
def gvs (l : List Int) (p : Nat) : List Nat := (frm l.length p).filter fun q => tkr l q == some p
end DL
namespace DL
open PySem PySem.Spec L2
open PyProof.Rows hiding St
theorem frm_rot {n p : Nat} (hp : p < n) : frm n p = rot (List.range n) p := by
  refine List.ext_getElem? fun k => ?_
  by_cases hk : k < n
  · rw [rot_get _ _ _ (by simp; omega) (by simpa using hk)]
    unfold frm
    have hm := Nat.mod_lt (p + k) (show 0 < n by omega)
    simp [hk, hm]
  · rw [List.getElem?_eq_none (by simp [frm]; omega), List.getElem?_eq_none (by rw [rot_length _ _ (by simp; omega)]; simp; omega)]
theorem rot_perm {α : Type} (l : List α) (p : Nat) : (rot l p).Perm l := by
  unfold rot
  refine List.perm_append_comm.trans ?_
  rw [List.take_append_drop]
theorem frm_perm {n p : Nat} (hp : p < n) : (frm n p).Perm (List.range n) := by rw [frm_rot hp]; exact rot_perm _ _
theorem gvs_len {l : List Int} {p : Nat} (hp : p < l.length) : (tkrs l).count (some p) = (gvs l p).length := by
  unfold gvs tkrs List.count
  rw [List.countP_map, ← List.countP_eq_length_filter, (frm_perm hp).countP_eq]
  rfl
end DL
namespace DL
open PySem PySem.Spec L2
open PyProof.Rows hiding St
theorem asc_ext : ∀ {a b : List Nat}, a.Pairwise (· < ·) → b.Pairwise (· < ·) → (∀ x, x ∈ a ↔ x ∈ b) → a = b
  | [], [], _, _, _ => rfl
  | [], y :: b, _, _, h => absurd ((h y).mpr List.mem_cons_self) (by simp)
  | x :: a, [], _, _, h => absurd ((h x).mp List.mem_cons_self) (by simp)
  | x :: a, y :: b, ha, hb, h => by
    obtain ⟨ha1, ha2⟩ := List.pairwise_cons.mp ha
    obtain ⟨hb1, hb2⟩ := List.pairwise_cons.mp hb
    have e : x = y := by
      have h1 := (h x).mp List.mem_cons_self
      have h2 := (h y).mpr List.mem_cons_self
      rcases List.mem_cons.mp h1 with h1 | h1
      · exact h1
      · rcases List.mem_cons.mp h2 with h2 | h2
        · exact h2.symm
        · have := hb1 x h1
          have := ha1 y h2
          omega
    subst e
    have t : a = b := asc_ext ha2 hb2 fun z => by
      constructor
      · intro hz
        rcases List.mem_cons.mp ((h z).mp (List.mem_cons_of_mem _ hz)) with e | hz'
        · subst e
          have := ha1 z hz
          omega
        · exact hz'
      · intro hz
        rcases List.mem_cons.mp ((h z).mpr (List.mem_cons_of_mem _ hz)) with e | hz'
        · subst e
          have := hb1 z hz
          omega
        · exact hz'
    rw [t]
def ar (l : List Int) (m : Nat) : Nat := ((l[m % l.length]?).getD 0).toNat
/-- the stack after m tokens of the ring that is read round and round -/
def rstk (l : List Int) : Nat → List Nat
  | 0 => []
  | m + 1 => kept (rstk l m) (ar l m) ++ [m]
/-- what the m-th token takes -/
def takl (l : List Int) (m : Nat) : List Nat := (rstk l m).drop ((rstk l m).length - ar l m)
section
variable {l : List Int}
theorem ar_eq (hl : ∀ t ∈ l, 0 ≤ t) (m : Nat) : (l[m % l.length]?).getD 0 = (ar l m : Int) := by
  unfold ar
  have : 0 ≤ (l[m % l.length]?).getD 0 := by
    cases e : l[m % l.length]? with
    | none => simp
    | some t => exact hl t (List.mem_of_getElem? e)
  omega
theorem rstk_lnk (hl : ∀ t ∈ l, 0 ≤ t) (h0 : 0 < l.length) : ∀ m, ∃ fo, Lnk l m (rstk l m) fo
  | 0 => ⟨_, lnk_zero l⟩
  | m + 1 => by
    obtain ⟨fo, h⟩ := rstk_lnk hl h0 m
    exact ⟨_, lnk_step hl h0 h (ar_eq hl m)⟩
theorem rstk_lt : ∀ m, ∀ q ∈ rstk l m, q < m
  | 0, q, h => by simp [rstk] at h
  | m + 1, q, h => by
    rcases List.mem_append.mp h with h | h
    · have := rstk_lt m q (List.mem_of_mem_take h); omega
    · rw [List.mem_singleton.mp h]; omega
theorem rstk_asc : ∀ m, (rstk l m).Pairwise (· < ·)
  | 0 => List.Pairwise.nil
  | m + 1 => by
    show (kept (rstk l m) (ar l m) ++ [m]).Pairwise (· < ·)
    rw [List.pairwise_append]
    refine ⟨(rstk_asc m).sublist (List.take_sublist _ _), by simp, fun a ha b hb => ?_⟩
    rw [List.mem_singleton.mp hb]
    exact rstk_lt m a (List.mem_of_mem_take ha)
theorem rstk_mem (hl : ∀ t ∈ l, 0 ≤ t) (h0 : 0 < l.length) {m q : Nat} : q ∈ rstk l m ↔ q < m ∧ fstT 0 (tkn l (q + 1) (m - q - 1)) = none := by
  obtain ⟨fo, h⟩ := rstk_lnk hl h0 m
  constructor
  · intro hq
    have hm := h.lt q hq
    refine ⟨hm, ?_⟩
    cases e : fstT 0 (tkn l (q + 1) (m - q - 1)) with
    | none => rfl
    | some s => exact absurd hq (h.out q hm (by rw [e]; simp))
  · rintro ⟨hm, e⟩
    obtain ⟨A, B, e2, _⟩ := h.inn q hm e
    rw [e2]
    exact List.mem_append_right _ List.mem_cons_self
theorem fst_snoc (L : List Int) (t : Int) : fstT 0 (L ++ [t]) = some (L.length + 1) ↔ (fstT 0 L = none ∧ fstT 0 (L ++ [t]) ≠ none) := by
  rw [fst_app]
  cases e : fstT 0 L with
  | some s =>
    have := (fst_some e).2.1
    simp
    omega
  | none =>
    simp only
    have one : ∀ h : Int, fstT h [t] = if h + (1 - t) ≤ 0 then some 1 else none := fun h => by
      unfold fstT
      split <;> rfl
    rw [one]
    split <;> simp
    omega
theorem takl_mem (hl : ∀ t ∈ l, 0 ≤ t) (h0 : 0 < l.length) {m q : Nat} : q ∈ takl l m ↔ q < m ∧ fstT 0 (tkn l (q + 1) (m - q)) = some (m - q) := by
  have sp : kept (rstk l m) (ar l m) ++ takl l m = rstk l m := List.take_append_drop _ _
  have nd : (rstk l m).Nodup := (rstk_asc m).imp fun h => by omega
  rw [← sp, List.nodup_append] at nd
  have m1 := rstk_mem hl h0 (m := m) (q := q)
  have m2 := rstk_mem hl h0 (m := m + 1) (q := q)
  have key : q < m → (fstT 0 (tkn l (q + 1) (m - q)) = some (m - q) ↔ (fstT 0 (tkn l (q + 1) (m - q - 1)) = none ∧ fstT 0 (tkn l (q + 1) (m - q)) ≠ none)) := fun hq => by
    have e : tkn l (q + 1) (m - q) = tkn l (q + 1) (m - q - 1) ++ [(l[(q + 1 + (m - q - 1)) % l.length]?).getD 0] := by
      rw [← tkn_succ, show m - q - 1 + 1 = m - q by omega]
    have := fst_snoc (tkn l (q + 1) (m - q - 1)) ((l[(q + 1 + (m - q - 1)) % l.length]?).getD 0)
    rw [← e, tkn_len, show m - q - 1 + 1 = m - q by omega] at this
    exact this
  have em : m + 1 - q - 1 = m - q := by omega
  constructor
  · intro hd
    have hs : q ∈ rstk l m := by rw [← sp]; exact List.mem_append_right _ hd
    obtain ⟨hq, hn⟩ := m1.mp hs
    refine ⟨hq, (key hq).mpr ⟨hn, fun e => ?_⟩⟩
    rw [em] at m2
    have h2 : q ∈ rstk l (m + 1) := m2.mpr ⟨by omega, e⟩
    rcases List.mem_append.mp h2 with h2 | h2
    · exact nd.2.2 q h2 q hd rfl
    · have := List.mem_singleton.mp h2
      omega
  · rintro ⟨hq, e⟩
    obtain ⟨e1, e2⟩ := (key hq).mp e
    have hs := m1.mpr ⟨hq, e1⟩
    rw [← sp] at hs
    rcases List.mem_append.mp hs with hk | hd
    · exfalso
      have h2 : q ∈ rstk l (m + 1) := List.mem_append_left _ hk
      have := (m2.mp h2).2
      rw [em] at this
      exact e2 this
    · exact hd
theorem takl_eq (hl : ∀ t ∈ l, 0 ≤ t) (h0 : 0 < l.length) (m : Nat) : takl l m = (List.range m).filter fun q => fstT 0 (tkn l (q + 1) (m - q)) == some (m - q) := by
  refine asc_ext ((rstk_asc m).sublist (List.drop_sublist _ _)) (List.Pairwise.filter _ List.pairwise_lt_range) fun q => ?_
  rw [takl_mem hl h0, List.mem_filter, List.mem_range, beq_iff_eq]
theorem takl_le (m : Nat) : (takl l m).length ≤ ar l m := by
  unfold takl
  rw [List.length_drop]
  omega
theorem takn_eq (m : Nat) : takn (rstk l m) (ar l m) = List.replicate (ar l m - (takl l m).length) none ++ (takl l m).map some := by
  unfold takn
  show List.replicate (ar l m - (rstk l m).length) none ++ (takl l m).map some = _
  congr 2
  unfold takl
  rw [List.length_drop]
  omega
/-- not taken in one round: never taken -/
theorem fst_ever (h0 : 0 < l.length) {a : Nat} (h : fstT 0 (tkn l a l.length) = none) (k : Nat) : fstT 0 (tkn l a k) = none := by
  have hn := fst_none h
  rw [tkn_len] at hn
  have pos : ∀ s, 1 ≤ s → 0 < ht (tkn l a s) := by
    intro s
    induction s using Nat.strongRecOn with
    | _ s ih =>
      intro h1
      by_cases hs : s ≤ l.length
      · have := hn s h1 hs
        rw [tkn_take _ _ hs] at this
        omega
      · have e : tkn l a s = tkn l a l.length ++ tkn l a (s - l.length) := by
          have := tkn_app l a l.length (s - l.length)
          rw [tkn_round, show l.length + (s - l.length) = s by omega] at this
          exact this
        have h2 := ih (s - l.length) (by omega) (by omega)
        have h3 := hn l.length h0 (Nat.le_refl _)
        rw [tkn_take _ _ (Nat.le_refl _)] at h3
        rw [e, ht_app]
        omega
  refine fst_no fun s h1 h2 => ?_
  rw [tkn_len] at h2
  rw [tkn_take _ _ h2]
  have := pos s h1
  omega
theorem fst_take {L : List Int} {k : Nat} (hk : k ≤ L.length) : fstT 0 (L.take k) = some k ↔ fstT 0 L = some k := by
  constructor
  · intro e
    have := fst_app (L.take k) (L.drop k) 0
    rw [List.take_append_drop, e] at this
    exact this
  · intro e
    obtain ⟨h1, h2, h3, h4⟩ := fst_some e
    refine fst_of h1 (by rw [List.length_take]; omega) (by rw [List.take_take, Nat.min_self]; exact h3) fun s a b => ?_
    rw [List.take_take, Nat.min_eq_left (by omega)]
    exact h4 s a b
/-- what a token takes in the third round are its givers -/
theorem takl_gvs (hl : ∀ t ∈ l, 0 ≤ t) {p : Nat} (hp : p < l.length) : (takl l (2 * l.length + p)).map (· % l.length) = gvs l p := by
  have h0 : 0 < l.length := by omega
  rw [takl_eq hl h0, show 2 * l.length + p = (l.length + p) + l.length by omega, List.range_add, List.filter_append, List.filter_map, List.map_append, List.map_map]
  have e1 : (List.range (l.length + p)).filter (fun q => fstT 0 (tkn l (q + 1) (l.length + p + l.length - q)) == some (l.length + p + l.length - q)) = [] := by
    rw [List.filter_eq_nil_iff]
    intro q hq
    have hq := List.mem_range.mp hq
    rw [beq_iff_eq]
    intro e
    cases e2 : fstT 0 (tkn l (q + 1) l.length) with
    | none =>
      rw [fst_ever h0 e2] at e; cases e
    | some s =>
      have hs := (fst_some e2).2.1
      rw [tkn_len] at hs
      have ea := tkn_app l (q + 1) l.length (l.length + p - q)
      rw [show l.length + (l.length + p - q) = l.length + p + l.length - q by omega] at ea
      rw [ea, fst_app, e2] at e
      dsimp only at e
      cases e
      omega
  rw [e1, List.map_nil, List.nil_append]
  unfold gvs frm
  rw [List.filter_map]
  have e2 : (List.range l.length).filter ((fun q => fstT 0 (tkn l (q + 1) (l.length + p + l.length - q)) == some (l.length + p + l.length - q)) ∘ fun x => l.length + p + x) = (List.range l.length).filter ((fun q => tkr l q == some p) ∘ fun i => (p + i) % l.length) := by
    refine List.filter_congr fun i hi => ?_
    have hi := List.mem_range.mp hi
    show (fstT 0 (tkn l (l.length + p + i + 1) (l.length + p + l.length - (l.length + p + i))) == some (l.length + p + l.length - (l.length + p + i))) = (tkr l ((p + i) % l.length) == some p)
    rw [show l.length + p + l.length - (l.length + p + i) = l.length - i by omega, show l.length + p + i + 1 = p + i + 1 + l.length by omega, tkn_round, ← tkn_take l (p + i + 1) (show l.length - i ≤ l.length by omega)]
    have er : rot l (((p + i) % l.length + 1) % l.length) = tkn l (p + i + 1) l.length := by rw [Nat.mod_add_mod, tkn_rot l _ h0]
    rw [Bool.eq_iff_iff, beq_iff_eq, beq_iff_eq, fst_take (by rw [tkn_len]; omega)]
    unfold tkr
    rw [er]
    constructor
    · intro e
      rw [e]
      show some (((p + i) % l.length + (l.length - i)) % l.length) = some p
      rw [Nat.mod_add_mod, show p + i + (l.length - i) = p + l.length by omega, Nat.add_mod_right, Nat.mod_eq_of_lt hp]
    · intro e
      obtain ⟨s, e3, e4⟩ := Option.map_eq_some_iff.mp e
      obtain ⟨s1, s2, _⟩ := fst_some e3
      rw [tkn_len] at s2
      rw [e3]
      congr 1
      rw [Nat.mod_add_mod] at e4
      by_cases h1 : p + i + s < l.length
      · rw [Nat.mod_eq_of_lt h1] at e4; omega
      · by_cases h2 : p + i + s < 2 * l.length
        · rw [Nat.mod_eq_sub_mod (by omega), Nat.mod_eq_of_lt (by omega)] at e4; omega
        · rw [Nat.mod_eq_sub_mod (by omega), Nat.mod_eq_sub_mod (by omega)] at e4
          by_cases h3 : p + i + s - l.length - l.length < l.length
          · rw [Nat.mod_eq_of_lt h3] at e4; omega
          · omega
  rw [e2]
  refine List.map_congr_left fun i _ => ?_
  show (l.length + p + i) % l.length = (p + i) % l.length
  rw [show l.length + p + i = p + i + l.length by omega, Nat.add_mod_right]
end
end DL
namespace DL
open PySem PySem.Spec L2
open PyProof.Rows hiding St
/-- the rows of what is taken in the third round -/
def gvD (l : List Int) (k : Nat) : List D := (List.range k).map fun i => .fl (on ((takn (rstk l (2 * l.length + i)) (ar l (2 * l.length + i))).map fun o => o.map (· % l.length)))
theorem links_gv (S0 : Sto) {l : List Int} (h0 : 0 < l.length) (hl : l.length ≤ 1000) (ha : ∀ t ∈ l, Arity t) : F__law_links [ti l] S0 = .ok (.fl [.fl (on (tkrs l)), .fl (gvD l l.length)]) S0 := by
  have hnn : ∀ t ∈ l, 0 ≤ t := fun t ht => (ha t ht).1
  have hz : List.replicate l.length (none : Option Nat) = List.replicate l.length none := rfl
  have ml : dMulL (.fl [.non]) (.int (l.length : Int)) (S0 ++ [.lst []] ++ [.lst []]) = .ok (.loc (S0.length + 2)) (LkS S0 (ni []) [] (on (List.replicate l.length none)) []) := by
    show ifp (-(2 ^ 63) ≤ (l.length : Int) ∧ (l.length : Int) < 2 ^ 63 ∧ [D.non].length * (l.length : Int).toNat ≤ sizeLine) (mkLoc (List.replicate (l.length : Int).toNat [D.non]).flatten (S0 ++ [.lst []] ++ [.lst []])) .stuck = _
    rw [ifp_pos ⟨by omega, by omega, by rw [Int.toNat_natCast]; exact Nat.le_trans (show 1 * l.length ≤ 1000 by omega) (by decide)⟩, Int.toNat_natCast]
    have e : (List.replicate l.length [D.non]).flatten = on (List.replicate l.length none) := by
      unfold on
      rw [List.map_replicate]
      simp
      exact .inr rfl
    rw [e]
    show R.ok (D.loc (S0 ++ [Ob.lst []] ++ [Ob.lst []]).length) (S0 ++ [Ob.lst []] ++ [Ob.lst []] ++ [.lst (on (List.replicate l.length none))]) = _
    have e2 : S0 ++ [Ob.lst []] ++ [Ob.lst []] ++ [.lst (on (List.replicate l.length none))] = LkS S0 (ni []) [] (on (List.replicate l.length none)) [] := by simp [LkS, ni]
    rw [e2]
    simp
  have m3 : ∀ S, dMulT (.int 3) (.int (l.length : Int)) S = .ok (.int ((3 * l.length : Nat) : Int)) S := fun S => by
    rw [mulT_int (by omega), show (3 : Int) * (l.length : Int) = ((3 * l.length : Nat) : Int) by omega]
  have hr : ((-(2 ^ 62) : Int) ≤ ((3 * l.length : Nat) : Int) ∧ ((3 * l.length : Nat) : Int) < 2 ^ 62) = True := by simp; omega
  obtain ⟨ρ', S', ⟨⟨y5, y6, y7, y8, rfl⟩, st, gv, fo, J, hS, lk, ls, lg, og, _, hgv⟩, hf⟩ := forD_all (T := tN 5) (B := L3__law_links) (Z := sNil) (fun m ρ S => (∃ y5 y6 y7 y8, ρ = [some (ti l), some (.int l.length), some (.loc S0.length), some (.loc (S0.length + 1)), some (.loc (S0.length + 2)), y5, y6, y7, y8]) ∧
      ∃ st gv fo J, S = LkS S0 (ni st) gv (on fo) J ∧ Lnk l m st fo ∧ st.length ≤ m ∧ gv.length ≤ m ∧ (∀ d ∈ gv, ∃ os, d = .fl (on os)) ∧ st = rstk l m ∧ gv = gvD l (m - 2 * l.length))
    (rangeD 0 (3 * l.length)) 0 [some (ti l), some (.int l.length), some (.loc S0.length), some (.loc (S0.length + 1)), some (.loc (S0.length + 2)), none, none, none, none] (LkS S0 (ni []) [] (on (List.replicate l.length none)) [])
    ⟨⟨_, _, _, _, rfl⟩, [], [], _, [], rfl, lnk_zero l, by simp, by simp, by simp, rfl, by rw [Nat.zero_sub]; rfl⟩ (by
      rintro j d ρ S hj ⟨⟨y5, y6, y7, y8, rfl⟩, st, gv, fo, J, rfl, lk, ls, lg, og, hst, hgv⟩
      obtain ⟨hj', rfl⟩ := rangeD_get hj
      rw [Nat.zero_add] at *
      have hml := Nat.mod_lt j h0
      have hA : Arity ((l[j % l.length]?).getD 0) := by
        rw [List.getElem?_eq_getElem hml]
        exact ha _ (List.getElem_mem hml)
      unfold Arity at hA
      have hta := ar_eq hnn j
      obtain ⟨z6, z7, z8, gv', J', e1, e2, e3, e4⟩ := link_step S0 h0 hl ha j hj' st gv fo J y6 y7 y8 lk.fl ls lg (ar l j) hta
      rw [Int.zero_add]
      refine ⟨_, _, _, _, rfl, .inl e1, ⟨_, _, _, _, rfl⟩, _, gv', _, J', rfl, lnk_step (fun x hx => (ha x hx).1) h0 lk hta, ?_, e2, fun d hd => ?_, by rw [hst]; rfl, ?_⟩
      · rw [List.length_append]
        unfold kept
        rw [List.length_take]
        simp
        omega
      · rcases e3 d hd with h | h
        · exact og d h
        · exact h
      · rw [e4, hgv, hst]
        by_cases hge : 2 * (l.length : Int) ≤ (j : Int)
        · rw [if_pos hge, show j + 1 - 2 * l.length = (j - 2 * l.length) + 1 by omega]
          unfold gvD
          rw [List.range_succ, List.map_append, List.map_cons, List.map_nil, show 2 * l.length + (j - 2 * l.length) = j by omega]
        · rw [if_neg hge, show j + 1 - 2 * l.length = j - 2 * l.length by omega])
  rw [rangeD_len, Nat.zero_add] at lk hgv
  rw [show 3 * l.length - 2 * l.length = l.length by omega] at hgv
  have hfo := lnk_end h0 lk
  have hB : B__law_links (startD 9 [ti l]) S0 = .rt (.fl [.loc (S0.length + 2), .loc (S0.length + 1)]) (LkS S0 (ni st) gv (on fo) J) := by
    have hst : startD 9 [ti l] = [some (ti l), none, none, none, none, none, none, none, none] := rfl
    have l1 : (S0 ++ [Ob.lst []]).length = S0.length + 1 := by simp
    rw [hst]
    unfold B__law_links
    rw [hS] at hf
    generalize LkS S0 (ni []) [] (on (List.replicate l.length none)) [] = SA at *
    simp only [eVar, eC, eOp, eT, eAnd, eOr, eNot, eIf, eAndV, eOrV, eNotV, eCall, aNil, aCons, aStar, sOf, eTup, eFl, eLoc, eSl, oNone, oSome, iOf, eNeg, eChain, eMt, bOf, eDict0, eRev, eListRg, iZipD, sRaise1, sRaise0, eCallV, List.lookup, R.bind_ok, R.bind_er, R.bind_stuck, R.toS_ok, R.toS_er, R.toS_stuck, SR.next_nx, SR.next_rt, SR.next_er, SR.next_bk, SR.next_ct, SR.next_stuck, sNil, sSeq, sBrk, sCnt, sExp, sRet, sRetN, sIf, sSet, sAsg, sAug, sPar2, sPar3, tN, DL.tTup, DL.tNil, DL.tCons, DL.tSub, iSeq, srcOf_tup, srcOf_fl, srcOf_kl, srcOf_ti, iRange1, iRange2, sFor, startD, List.map_cons, List.map_nil, List.length_cons, List.length_nil, List.replicate, List.cons_append, List.nil_append, List.getElem?_cons_zero, List.getElem?_cons_succ, List.set_cons_zero, List.set_cons_succ, dSub_int, dFdiv_int, dMod_int, dLt_int, dLe_int, dGt_int, dGe_int, dAddI_int, dSubI_int, dIsN_non, isN, dAdd_int, ll0, ll1, ll2, ll3, ll4, ll5, ll6, ll7, ll8, ll9, ll10, ll11, ll12, ll13, ll14, ll15, ll16, ll17, ll18, ll19, ll20, ll21, ll22, ll23, ll24, ll25, ll26, ll27, ll28, ll29, ll30, ll31, ll32, ll33, ll34, ll35, ll36, ll37, ll38, ll39, ll40, Nat.reduceSub, Nat.reduceAdd, Nat.reduceEqDiff, if_true, if_false, ifp_t, ifp_f, reduceIte, Bool.true_eq_false, Bool.false_eq_true, Option.map_some, Option.map_none, Option.bind_some, Option.bind_none, tSq, sSet2, seqOf_fl, seqOf_tup, seqOf_ti, ti_len, l1, ml, m3, hr, Int.toNat_natCast, hf]
  unfold F__law_links fnC
  rw [if_pos (show [ti l].length = 1 from rfl), hB]
  show closeF S0 (.fl [.loc (S0.length + 2), .loc (S0.length + 1)]) (LkS S0 (ni st) gv (on fo) J) = _
  unfold closeF
  have tr : Trunc S0 (LkS S0 (ni st) gv (on fo) J) := Trunc.same _ _
  rw [if_pos tr]
  have tk : (LkS S0 (ni st) gv (on fo) J).take S0.length = S0 := by unfold LkS; rw [List.take_left]
  have fg : ∀ look k, frzWL look k gv = some gv := fun look k => frz_self fun d hd => by
    obtain ⟨os, rfl⟩ := og d hd
    rw [frzW, frz_on]; rfl
  have a2 := lk_at S0 (ni st) gv (on fo) J 2
  have a1 := lk_at S0 (ni st) gv (on fo) J 1
  have k2 : frzK (LkS S0 (ni st) gv (on fo) J) S0.length 8 (S0.length + 2) = some (.fl (on fo)) := by
    show (match (LkS S0 (ni st) gv (on fo) J)[S0.length + 2]? with
      | some (.lst ds) => (frzWL (frzK (LkS S0 (ni st) gv (on fo) J) S0.length 7) S0.length ds).map D.fl
      | _ => none) = _
    rw [a2]
    show (frzWL (frzK (LkS S0 (ni st) gv (on fo) J) S0.length 7) S0.length (on fo)).map D.fl = _
    rw [frz_on]; rfl
  have k1 : frzK (LkS S0 (ni st) gv (on fo) J) S0.length 8 (S0.length + 1) = some (.fl gv) := by
    show (match (LkS S0 (ni st) gv (on fo) J)[S0.length + 1]? with
      | some (.lst ds) => (frzWL (frzK (LkS S0 (ni st) gv (on fo) J) S0.length 7) S0.length ds).map D.fl
      | _ => none) = _
    rw [a1]
    show (frzWL (frzK (LkS S0 (ni st) gv (on fo) J) S0.length 7) S0.length gv).map D.fl = _
    rw [fg]; rfl
  have fz : frz (LkS S0 (ni st) gv (on fo) J) S0.length 8 (.fl [.loc (S0.length + 2), .loc (S0.length + 1)]) = some (.fl [.fl (on fo), .fl gv]) := by
    unfold frz
    rw [frzW, frzWL, frzW, if_neg (by omega), k2, Option.bind_some, frzWL, frzW, if_neg (by omega), k1, Option.bind_some, frzWL]
    rfl
  rw [fz, tk, hfo, hgv]
  rfl
/-- what a token takes: what was there at first, then the values of its givers -/
def grw (l : List Int) (p : Nat) : List (Option Nat) := List.replicate (ar l p - (gvs l p).length) none ++ (gvs l p).map some
theorem gvD_eq {l : List Int} (hl : ∀ t ∈ l, 0 ≤ t) : gvD l l.length = (List.range l.length).map fun p => .fl (on (grw l p)) := by
  unfold gvD
  refine List.map_congr_left fun p hp => ?_
  have hp := List.mem_range.mp hp
  have tg := takl_gvs hl hp
  have ea : ar l (2 * l.length + p) = ar l p := by
    unfold ar
    rw [show 2 * l.length + p = p + l.length * 2 by omega, Nat.add_mul_mod_self_left]
  rw [takn_eq, List.map_append, List.map_replicate, List.map_map]
  unfold grw
  rw [← tg, List.length_map, ea, List.map_map]
  rfl
theorem gvs_ar {l : List Int} (hl : ∀ t ∈ l, 0 ≤ t) {p : Nat} (hp : p < l.length) : (gvs l p).length ≤ ar l p := by
  rw [← takl_gvs hl hp, List.length_map]
  have := takl_le (l := l) (2 * l.length + p)
  have ea : ar l (2 * l.length + p) = ar l p := by
    unfold ar
    rw [show 2 * l.length + p = p + l.length * 2 by omega, Nat.add_mul_mod_self_left]
  omega
theorem grw_none {l : List Int} (hl : ∀ t ∈ l, 0 ≤ t) {p : Nat} (hp : p < l.length) : (((grw l p).count none : Nat) : Int) = (l[p]?).getD 0 - ((tkrs l).count (some p) : Nat) := by
  have e : (grw l p).count none = ar l p - (gvs l p).length := by
    unfold grw
    rw [List.count_append, List.count_replicate_self]
    have : ((gvs l p).map some).count none = 0 := List.count_eq_zero.mpr (by simp)
    omega
  have := gvs_ar hl hp
  have ha := ar_eq hl p
  rw [Nat.mod_eq_of_lt hp] at ha
  rw [e, gvs_len hp, ha]
  omega
end DL
namespace DL
open PySem PySem.Spec L2
open PyProof.Rows hiding St
def tx (p : PyData) : List Nat := p.shown.cps.toList
end DL
namespace DL
open PySem PySem.Spec L2
open PyProof.Rows hiding St
def po : Str := "("
theorem sz : 10 ^ 6 ≤ sizeLine := by decide
def dq (q : Int × Str) : D := .tup [.int q.1, .str q.2]
theorem sl_str {w : Str} (h : w.length ≤ 10 ^ 6) (lo hi : Option Int) (S : Sto) : dSl mkFl (.str w) lo hi S = .ok (.str (cutS w lo hi)) S := ifp_pos (Nat.le_trans h (by decide))
/-- letters alone -/
def ltS (w : Str) : Prop := ∀ c ∈ w.cps.toList, 97 ≤ c ∧ c ≤ 122
theorem ltS.ok {w : Str} (h : ltS w) : okS w := fun c hc => Nat.lt_of_le_of_lt (h c hc).2 (by decide)
structure Gt (n : Nat) (w : Str) : Prop where
  lt : ltS w
  len : w.length ≤ n
theorem Gt.ok {n : Nat} {w : Str} (h : Gt n w) : okS w := h.lt.ok
def em : Str := ""
end DL
namespace DL
open PySem PySem.Spec L2
open PyProof.Rows hiding St
inductive Tre where
  | nd (cs : List Tre)
mutual
def Tre.d : Tre → D
  | .nd cs => .tup (Tre.ds cs)
def Tre.ds : List Tre → List D
  | [] => []
  | t :: ts => t.d :: Tre.ds ts
end
mutual
def Tre.sz : Tre → Nat
  | .nd cs => 1 + Tre.szs cs
def Tre.szs : List Tre → Nat
  | [] => 0
  | t :: ts => t.sz + Tre.szs ts
end
mutual
def Tre.row : Tre → List Int
  | .nd cs => Tre.rows cs ++ [(cs.length : Int)]
def Tre.rows : List Tre → List Int
  | [] => []
  | t :: ts => t.row ++ Tre.rows ts
end
mutual
def Tre.ok : Tre → Prop
  | .nd cs => cs.length ≤ 5 ∧ Tre.oks cs
def Tre.oks : List Tre → Prop
  | [] => True
  | t :: ts => t.ok ∧ Tre.oks ts
end
mutual
theorem Tre.bulk : ∀ t : Tre, bulkD t.d + 1 = t.sz
  | .nd cs => by rw [Tre.d, Tre.sz, bulkD, Tre.bulks cs]; omega
theorem Tre.bulks : ∀ ts : List Tre, bulkL (Tre.ds ts) = Tre.szs ts
  | [] => by rw [Tre.ds, Tre.szs, bulkL]
  | t :: ts => by rw [Tre.ds, Tre.szs, bulkL, Tre.bulk t, Tre.bulks ts]
end
mutual
theorem Tre.dep : ∀ t : Tre, depD t.d ≤ t.sz
  | .nd cs => by
    rw [Tre.d, Tre.sz, depD]
    have := Tre.deps cs
    omega
theorem Tre.deps : ∀ ts : List Tre, depL (Tre.ds ts) ≤ Tre.szs ts
  | [] => by rw [Tre.ds, depL]; omega
  | t :: ts => by
    rw [Tre.ds, Tre.szs, depL]
    have := Tre.dep t
    have := Tre.deps ts
    omega
end
mutual
theorem Tre.low : ∀ (n : Nat) (t : Tre), DL.low n t.d = true
  | n, .nd cs => by rw [Tre.d, DL.low, Tre.lows n cs]
theorem Tre.lows : ∀ (n : Nat) (ts : List Tre), lowL n (Tre.ds ts) = true
  | n, [] => by rw [Tre.ds]; rfl
  | n, t :: ts => by rw [Tre.ds, lowL, Tre.low n t, Tre.lows n ts]; rfl
end
def bt (B : List (List Nat)) : Nat → Nat → Tre
  | 0, _ => .nd []
  | f + 1, i => .nd ((B.getD i []).map (bt B f))
end DL
namespace DL
open PySem PySem.Spec L2
open PyProof.Rows hiding St
def L (l : List Nat) : Str := ⟨l.toArray⟩
def lt (c : Nat) : Bool := decide (97 ≤ c) && decide (c ≤ 122)
structure RS where
  r : List Nat
  row : List Int
  nm : List (List Nat)
  op : List (List Nat × Int)
def clo : List Nat → List Int → List (List Nat) → List (List Nat × Int) → RS
  | [], row, nm, op => ⟨[], row, nm, op⟩
  | c :: r, row, nm, op => if c = 41 then (match op.getLast? with
    | some q => clo r (row ++ [q.2]) (nm ++ [q.1]) op.dropLast
    | none => ⟨c :: r, row, nm, op⟩) else ⟨c :: r, row, nm, op⟩
def nxt (s : RS) : Bool × RS := match s.op.getLast? with
  | none => (false, s)
  | some q => if s.r.take 2 = [44, 32] then (true, ⟨s.r.drop 2, s.row, s.nm, s.op.dropLast ++ [(q.1, q.2 + 1)]⟩) else (false, s)
def aftT (s : RS) : Bool × RS := if (clo s.r s.row s.nm s.op).r = [] then (true, clo s.r s.row s.nm s.op) else nxt (clo s.r s.row s.nm s.op)
def rnm (s : RS) : Bool × RS :=
  if 1 ≤ (s.r.takeWhile lt).length ∧ (s.r.takeWhile lt).length ≤ 8 then
    (if (s.r.dropWhile lt).take 1 = [40] then (true, ⟨(s.r.dropWhile lt).drop 1, s.row, s.nm, s.op ++ [(s.r.takeWhile lt, 1)]⟩)
    else aftT ⟨s.r.dropWhile lt, s.row ++ [0], s.nm ++ [s.r.takeWhile lt], s.op⟩)
  else (false, ⟨s.r.dropWhile lt, s.row, s.nm, s.op⟩)
def fin1 (s : RS) : Bool := s.op.isEmpty && (decide (s.row.length ≤ 24) && decide (maxL s.row ≤ 5))
/-- the whole reading, by fuel -/
def trun : Nat → RS → Bool × RS
  | 0, s => (false, s)
  | f + 1, s => match rnm s with
    | (false, s') => (false, s')
    | (true, s') => if s'.r = [] then (fin1 s', s') else trun f s'
def Sm (M : Nat) (s : RS) : Prop := s.row.length + s.r.length ≤ M ∧ s.nm.length + s.r.length ≤ M ∧ s.op.length + s.r.length ≤ M
theorem last_split {α : Type} {l : List α} {q : α} (h : l.getLast? = some q) : l = l.dropLast ++ [q] := by
  have hne : l ≠ [] := by
    intro e
    rw [e] at h
    cases h
  have := List.dropLast_concat_getLast hne
  rw [List.getLast?_eq_some_getLast hne] at h
  cases h
  exact this.symm
theorem clo_less : ∀ (r : List Nat) (row : List Int) (nm : List (List Nat)) (op : List (List Nat × Int)), (clo r row nm op).row.length + (clo r row nm op).r.length ≤ row.length + r.length ∧ (clo r row nm op).nm.length + (clo r row nm op).r.length ≤ nm.length + r.length ∧ (clo r row nm op).op.length + (clo r row nm op).r.length ≤ op.length + r.length ∧ (clo r row nm op).r.length ≤ r.length ∧ row.length ≤ (clo r row nm op).row.length
  | [], row, nm, op => by rw [clo]; exact ⟨Nat.le_refl _, Nat.le_refl _, Nat.le_refl _, Nat.le_refl _, Nat.le_refl _⟩
  | c :: r, row, nm, op => by
    rw [clo]
    split
    · split
      · rename_i q hq
        have e := congrArg List.length (last_split hq)
        rw [List.length_append, List.length_singleton] at e
        obtain ⟨h1, h2, h3, h4, h5⟩ := clo_less r (row ++ [q.2]) (nm ++ [q.1]) op.dropLast
        rw [List.length_append, List.length_singleton] at h1 h2 h5
        rw [List.length_cons]
        omega
      · exact ⟨Nat.le_refl _, Nat.le_refl _, Nat.le_refl _, Nat.le_refl _, Nat.le_refl _⟩
    · exact ⟨Nat.le_refl _, Nat.le_refl _, Nat.le_refl _, Nat.le_refl _, Nat.le_refl _⟩
theorem nxt_less (s : RS) : (nxt s).2.row = s.row ∧ (nxt s).2.nm = s.nm ∧ (nxt s).2.op.length = s.op.length ∧ (nxt s).2.r.length ≤ s.r.length := by
  unfold nxt
  split
  · exact ⟨rfl, rfl, rfl, Nat.le_refl _⟩
  · rename_i q hq
    have e := congrArg List.length (last_split hq)
    rw [List.length_append, List.length_singleton] at e
    split
    · refine ⟨rfl, rfl, ?_, ?_⟩
      · show (s.op.dropLast ++ [(q.1, q.2 + 1)]).length = _
        rw [List.length_append, List.length_singleton]; omega
      · show (s.r.drop 2).length ≤ _
        rw [List.length_drop]; omega
    · exact ⟨rfl, rfl, rfl, Nat.le_refl _⟩
theorem aftT_less (s : RS) : (aftT s).2.row.length + (aftT s).2.r.length ≤ s.row.length + s.r.length ∧ (aftT s).2.nm.length + (aftT s).2.r.length ≤ s.nm.length + s.r.length ∧ (aftT s).2.op.length + (aftT s).2.r.length ≤ s.op.length + s.r.length ∧ (aftT s).2.r.length ≤ s.r.length ∧ s.row.length ≤ (aftT s).2.row.length := by
  obtain ⟨c1, c2, c3, c4, c5⟩ := clo_less s.r s.row s.nm s.op
  unfold aftT
  split
  · exact ⟨c1, c2, c3, c4, c5⟩
  · obtain ⟨n1, n2, n3, n4⟩ := nxt_less (clo s.r s.row s.nm s.op)
    rw [n1, n2, n3]
    omega
theorem span_len (l : List Nat) : (l.takeWhile lt).length + (l.dropWhile lt).length = l.length := by
  rw [← List.length_append, List.takeWhile_append_dropWhile]
theorem rnm_less (s : RS) : (rnm s).2.row.length + (rnm s).2.r.length ≤ s.row.length + s.r.length ∧ (rnm s).2.nm.length + (rnm s).2.r.length ≤ s.nm.length + s.r.length ∧ (rnm s).2.op.length + (rnm s).2.r.length ≤ s.op.length + s.r.length ∧ ((rnm s).1 = true → (rnm s).2.r.length < s.r.length) := by
  have sp := span_len s.r
  unfold rnm
  split
  · rename_i hn
    split
    · refine ⟨?_, ?_, ?_, fun _ => ?_⟩ <;> simp only [List.length_append, List.length_singleton, List.length_drop] <;> omega
    · obtain ⟨a1, a2, a3, a4, a5⟩ := aftT_less ⟨s.r.dropWhile lt, s.row ++ [0], s.nm ++ [s.r.takeWhile lt], s.op⟩
      simp only [List.length_append, List.length_singleton] at a1 a2 a3 a4
      refine ⟨?_, ?_, ?_, fun _ => ?_⟩ <;> omega
  · refine ⟨?_, ?_, ?_, fun h => by cases h⟩ <;> simp only <;> omega
theorem trun_fuel : ∀ (f g : Nat) (s : RS), s.r.length < f → s.r.length < g → trun f s = trun g s
  | 0, g, s, h, _ => by omega
  | f + 1, 0, s, _, h => by omega
  | f + 1, g + 1, s, hf, hg => by
    rw [trun, trun]
    have hl := (rnm_less s).2.2.2
    cases e : rnm s with
    | mk b s' =>
      rw [e] at hl
      cases b with
      | false => rfl
      | true =>
        simp only
        split
        · rfl
        · have := hl rfl
          exact trun_fuel f g s' (by simp only at this; omega) (by simp only at this; omega)
end DL
namespace DL
open PySem PySem.Spec L2
open PyProof.Rows hiding St
def jnT : List (List Nat) → List Nat
  | [] => []
  | [x] => x
  | x :: y :: r => x ++ [44, 32] ++ jnT (y :: r)
mutual
/-- the text of a tree whose nodes have names (the names of the row's tokens, in its order) -/
def Tre.tx : Tre → List (List Nat) → List Nat
  | .nd cs, ns => (ns.drop (Tre.szs cs)).headD [] ++ (if cs.isEmpty then [] else 40 :: jnT (Tre.txs cs ns) ++ [41])
def Tre.txs : List Tre → List (List Nat) → List (List Nat)
  | [], _ => []
  | t :: ts, ns => t.tx ns :: Tre.txs ts (ns.drop t.sz)
end
def RUN (s : RS) : Bool × RS := trun (s.r.length + 1) s
def FIN (s : RS) : Bool × RS := match aftT s with
  | (false, s') => (false, s')
  | (true, s') => if s'.r = [] then (fin1 s', s') else RUN s'
/-- a name -/
def nmL (l : List Nat) : Prop := (∀ c ∈ l, lt c = true) ∧ 1 ≤ l.length ∧ l.length ≤ 8
/-- what may follow a term -/
def folL (k : List Nat) : Prop := k = [] ∨ ∃ r, k = 41 :: r ∨ k = 44 :: r
theorem span_name {n k : List Nat} (hn : nmL n) (hk : k = [] ∨ ∃ c r, k = c :: r ∧ lt c = false) : (n ++ k).takeWhile lt = n ∧ (n ++ k).dropWhile lt = k := by
  rw [List.takeWhile_append_of_pos hn.1, List.dropWhile_append_of_pos hn.1]
  rcases hk with rfl | ⟨c, r, rfl, hc⟩
  · simp
  · rw [List.takeWhile_cons_of_neg (by rw [hc]; decide), List.dropWhile_cons_of_neg (by rw [hc]; decide)]
    simp
theorem run_rnm {s s' : RS} (h : rnm s = (true, s')) : RUN s = if s'.r = [] then (fin1 s', s') else RUN s' := by
  unfold RUN
  have hl := (rnm_less s).2.2.2
  rw [h] at hl
  rw [trun, h]
  simp only
  split
  · rfl
  · exact trun_fuel _ _ s' (hl rfl) (Nat.lt_succ_self _)
theorem run_leaf {n k : List Nat} (hn : nmL n) (hk : folL k) (row : List Int) (nm : List (List Nat)) (op : List (List Nat × Int)) : RUN ⟨n ++ k, row, nm, op⟩ = FIN ⟨k, row ++ [0], nm ++ [n], op⟩ := by
  obtain ⟨e1, e2⟩ := span_name (n := n) (k := k) hn (by
    rcases hk with rfl | ⟨r, rfl | rfl⟩
    · exact .inl rfl
    · exact .inr ⟨41, r, rfl, by decide⟩
    · exact .inr ⟨44, r, rfl, by decide⟩)
  have h40 : k.take 1 ≠ [40] := by
    rcases hk with rfl | ⟨r, rfl | rfl⟩ <;> simp
  have hr : rnm ⟨n ++ k, row, nm, op⟩ = aftT ⟨k, row ++ [0], nm ++ [n], op⟩ := by
    unfold rnm
    simp only [e1, e2]
    rw [if_pos ⟨hn.2.1, hn.2.2⟩, if_neg h40]
  unfold FIN
  cases ha : aftT ⟨k, row ++ [0], nm ++ [n], op⟩ with
  | mk b s' =>
    rw [ha] at hr
    cases b with
    | true => exact run_rnm hr
    | false =>
      show trun _ _ = _
      rw [trun, hr]
theorem run_node {n X : List Nat} (hn : nmL n) (hX : X ≠ []) (row : List Int) (nm : List (List Nat)) (op : List (List Nat × Int)) : RUN ⟨n ++ 40 :: X, row, nm, op⟩ = RUN ⟨X, row, nm, op ++ [(n, 1)]⟩ := by
  obtain ⟨e1, e2⟩ := span_name (n := n) (k := 40 :: X) hn (.inr ⟨40, X, rfl, by decide⟩)
  have hr : rnm ⟨n ++ 40 :: X, row, nm, op⟩ = (true, ⟨X, row, nm, op ++ [(n, 1)]⟩) := by
    unfold rnm
    simp only [e1, e2]
    rw [if_pos ⟨hn.2.1, hn.2.2⟩, if_pos (show List.take 1 (40 :: X) = [40] from rfl)]
    rfl
  rw [run_rnm hr]
  exact if_neg hX
theorem fin_close (k : List Nat) (row : List Int) (nm : List (List Nat)) (op : List (List Nat × Int)) (n : List Nat) (a : Int) : FIN ⟨41 :: k, row, nm, op ++ [(n, a)]⟩ = FIN ⟨k, row ++ [a], nm ++ [n], op⟩ := by
  unfold FIN aftT
  simp only
  have : clo (41 :: k) row nm (op ++ [(n, a)]) = clo k (row ++ [a]) (nm ++ [n]) op := by
    rw [clo, if_pos rfl, List.getLast?_append]
    simp
  rw [this]
theorem fin_next {X : List Nat} (hX : X ≠ []) (row : List Int) (nm : List (List Nat)) (op : List (List Nat × Int)) (n : List Nat) (a : Int) : FIN ⟨44 :: 32 :: X, row, nm, op ++ [(n, a)]⟩ = RUN ⟨X, row, nm, op ++ [(n, a + 1)]⟩ := by
  unfold FIN aftT
  simp only
  have e : clo (44 :: 32 :: X) row nm (op ++ [(n, a)]) = ⟨44 :: 32 :: X, row, nm, op ++ [(n, a)]⟩ := by
    rw [clo, if_neg (by decide)]
  rw [e]
  have en : nxt ⟨44 :: 32 :: X, row, nm, op ++ [(n, a)]⟩ = (true, ⟨X, row, nm, op ++ [(n, a + 1)]⟩) := by
    unfold nxt
    simp
  simp only [reduceCtorEq, if_false, en]
  exact if_neg hX
theorem jnT_ne : ∀ {l : List (List Nat)}, l ≠ [] → (∀ x ∈ l, x ≠ []) → jnT l ≠ []
  | [], h, _ => absurd rfl h
  | [x], _, h => h x (by simp)
  | x :: y :: r, _, h => by
    rw [jnT]
    simp
theorem Tre.tx_ne (t : Tre) (ns : List (List Nat)) (hs : t.sz ≤ ns.length) (hn : ∀ n ∈ ns, nmL n) : t.tx ns ≠ [] := by
  cases t with
  | nd cs =>
    rw [Tre.sz] at hs
    rw [Tre.tx]
    have hm : (ns.drop (Tre.szs cs)).headD [] ∈ ns := by
      rw [List.headD_eq_head?_getD, List.head?_drop, List.getElem?_eq_getElem (by omega)]
      exact List.getElem_mem _
    have := (hn _ hm).2.1
    intro e
    have e2 := congrArg List.length e
    rw [List.length_append] at e2
    simp only [List.length_nil] at e2
    omega
theorem Tre.txs_ne : ∀ (ts : List Tre) (ns : List (List Nat)), Tre.szs ts ≤ ns.length → (∀ n ∈ ns, nmL n) → ∀ x ∈ Tre.txs ts ns, x ≠ []
  | [], ns, _, _, x, hx => by simp [Tre.txs] at hx
  | t :: ts, ns, hs, hn, x, hx => by
    rw [Tre.szs] at hs
    rw [Tre.txs] at hx
    rcases List.mem_cons.mp hx with rfl | hx
    · exact t.tx_ne ns (by omega) hn
    · exact Tre.txs_ne ts (ns.drop t.sz) (by rw [List.length_drop]; omega) (fun n h => hn n (List.mem_of_mem_drop h)) x hx
mutual
theorem Tre.read : ∀ (t : Tre) (ns : List (List Nat)) (k : List Nat) (row : List Int) (nm : List (List Nat)) (op : List (List Nat × Int)), t.sz ≤ ns.length → (∀ n ∈ ns, nmL n) → folL k →
    RUN ⟨t.tx ns ++ k, row, nm, op⟩ = FIN ⟨k, row ++ t.row, nm ++ ns.take t.sz, op⟩
  | .nd cs, ns, k, row, nm, op, hs, hn, hk => by
    rw [Tre.sz] at hs
    rw [Tre.tx, Tre.row, Tre.sz]
    have e1 : ns.take (1 + Tre.szs cs) = ns.take (Tre.szs cs) ++ [(ns.drop (Tre.szs cs)).headD []] := by
      rw [Nat.add_comm, List.take_succ_eq_append_getElem (by omega)]
      congr 2
      rw [List.headD_eq_head?_getD, List.head?_drop, List.getElem?_eq_getElem (by omega)]
      rfl
    have hm : (ns.drop (Tre.szs cs)).headD [] ∈ ns := by
      rw [List.headD_eq_head?_getD, List.head?_drop, List.getElem?_eq_getElem (by omega)]
      exact List.getElem_mem _
    rw [e1]
    generalize (ns.drop (Tre.szs cs)).headD [] = N at *
    cases hc : cs with
    | nil =>
      rw [show ([] : List Tre).isEmpty = true from rfl, if_pos rfl, List.append_nil, run_leaf (hn N hm) hk]
      simp [Tre.rows, Tre.szs]
    | cons c r =>
      rw [← hc]
      have he : cs.isEmpty = false := by rw [hc]; rfl
      have hx : Tre.txs cs ns ≠ [] := by rw [hc, Tre.txs]; simp
      have hj := jnT_ne hx (Tre.txs_ne cs ns (by omega) hn)
      rw [he, if_neg (by decide)]
      have ea : N ++ (40 :: jnT (Tre.txs cs ns) ++ [41]) ++ k = N ++ 40 :: (jnT (Tre.txs cs ns) ++ 41 :: k) := by simp
      rw [ea, run_node (hn N hm) (by intro z; exact hj (List.append_eq_nil_iff.mp z).1)]
      rw [Tre.reads cs ns k row nm op N 1 (by rw [hc]; simp) (by omega) hn hk]
      have : (1 : Int) + (cs.length : Int) - 1 = (cs.length : Int) := by omega
      rw [this]
      simp [List.append_assoc]
theorem Tre.reads : ∀ (ts : List Tre) (ns : List (List Nat)) (k : List Nat) (row : List Int) (nm : List (List Nat)) (op : List (List Nat × Int)) (n : List Nat) (a : Int), ts ≠ [] → Tre.szs ts ≤ ns.length → (∀ n ∈ ns, nmL n) → folL k →
    RUN ⟨jnT (Tre.txs ts ns) ++ 41 :: k, row, nm, op ++ [(n, a)]⟩ = FIN ⟨k, row ++ Tre.rows ts ++ [a + (ts.length : Int) - 1], nm ++ ns.take (Tre.szs ts) ++ [n], op⟩
  | [], ns, k, row, nm, op, n, a, h, _, _, _ => absurd rfl h
  | [t], ns, k, row, nm, op, n, a, _, hs, hn, hk => by
    rw [Tre.szs, Tre.szs] at hs
    rw [Tre.txs, Tre.txs, jnT, Tre.read t ns (41 :: k) row nm (op ++ [(n, a)]) (by omega) hn (.inr ⟨k, .inl rfl⟩), fin_close]
    simp only [Tre.rows, Tre.szs, List.append_nil, Nat.add_zero, List.length_singleton]
    have : a + ((1 : Nat) : Int) - 1 = a := by omega
    rw [this]
  | t :: t2 :: r, ns, k, row, nm, op, n, a, _, hs, hn, hk => by
    rw [Tre.szs] at hs
    have hs2 : Tre.szs (t2 :: r) ≤ (ns.drop t.sz).length := by rw [List.length_drop]; omega
    have hn2 : ∀ n ∈ ns.drop t.sz, nmL n := fun n h => hn n (List.mem_of_mem_drop h)
    have hx : Tre.txs (t2 :: r) (ns.drop t.sz) ≠ [] := by rw [Tre.txs]; simp
    have hj := jnT_ne hx (Tre.txs_ne _ _ hs2 hn2)
    have ej : jnT (Tre.txs (t :: t2 :: r) ns) ++ 41 :: k = t.tx ns ++ 44 :: 32 :: (jnT (Tre.txs (t2 :: r) (ns.drop t.sz)) ++ 41 :: k) := by
      rw [Tre.txs, Tre.txs, jnT]
      simp
    rw [ej, Tre.read t ns _ row nm (op ++ [(n, a)]) (by omega) hn (.inr ⟨_, .inr rfl⟩), fin_next (by intro z; exact hj (List.append_eq_nil_iff.mp z).1)]
    rw [Tre.reads (t2 :: r) (ns.drop t.sz) k (row ++ t.row) (nm ++ ns.take t.sz) op n (a + 1) (by simp) hs2 hn2 hk]
    have e3 : ns.take (t.sz + Tre.szs (t2 :: r)) = ns.take t.sz ++ (ns.drop t.sz).take (Tre.szs (t2 :: r)) := by rw [List.take_add]
    have e4 : a + 1 + ((t2 :: r).length : Int) - 1 = a + ((t :: t2 :: r).length : Int) - 1 := by simp only [List.length_cons]; omega
    rw [e4, show Tre.rows (t :: t2 :: r) = t.row ++ Tre.rows (t2 :: r) by rw [Tre.rows], show Tre.szs (t :: t2 :: r) = t.sz + Tre.szs (t2 :: r) by rw [Tre.szs], e3]
    simp only [List.append_assoc]
end
end DL
namespace DL
open PySem PySem.Spec L2
open PyProof.Rows hiding St
end DL
namespace DL
open PySem PySem.Spec L2
open PyProof.Rows hiding St
end DL
namespace DL
open PySem PySem.Spec L2
open PyProof.Rows hiding St
def T (s : RS) : Bool × RS := trun (s.r.length + 1) s
end DL
namespace DL
open PySem PySem.Spec L2
open PyProof.Rows hiding St
end DL
namespace DL
open PySem PySem.Spec L2
open PyProof.Rows hiding St
def rlF (now st dn ch bz : D) : List (Str × D) := [("now", now), ("states", st), ("done", dn), ("chosen", ch), ("is_busy", bz)]
def rlO (now st dn ch bz : D) : Ob := .ins "Reel" (rlF now st dn ch bz)
section
variable {S : Sto} {n : Nat} {now st dn ch bz : D}
theorem set_set (o p : Ob) : (S.set n o).set n p = S.set n p := List.set_set ..
end
end DL
namespace DL
open PySem PySem.Spec L2
open PyProof.Rows hiding St
end DL
namespace DL
open PySem PySem.Spec L2
open PyProof.Rows hiding St
structure Rg (l : List Int) : Prop where
  pos : 0 < l.length
  len : l.length ≤ 24
  ar : ∀ t ∈ l, Arity t
def putT (l : List Int) (p : Nat) (a : Int) : List Int := l.take p ++ [a] ++ l.drop (p + 1)
def insT (l : List Int) (p : Nat) (a : Int) : List Int := l.take p ++ [a] ++ l.drop p
def delT (l : List Int) (p : Nat) : List Int := l.take p ++ l.drop (p + 1)
theorem Rg.putT {l : List Int} (h : Rg l) {p : Nat} {a : Int} (hp : p < l.length) (ha : Arity a) : Rg (putT l p a) := by
  have hlen : (DL.putT l p a).length = l.length := by unfold DL.putT; simp; omega
  refine ⟨by rw [hlen]; exact h.pos, by rw [hlen]; exact h.len, fun t ht => ?_⟩
  unfold DL.putT at ht
  rcases List.mem_append.mp ht with ht | ht
  · rcases List.mem_append.mp ht with ht | ht
    · exact h.ar t (List.mem_of_mem_take ht)
    · rw [List.mem_singleton.mp ht]; exact ha
  · exact h.ar t (List.mem_of_mem_drop ht)
theorem Rg.insT {l : List Int} (h : Rg l) {p : Nat} {a : Int} (hp : p ≤ l.length) (hl : ¬ l.length = 24) (ha : Arity a) : Rg (insT l p a) := by
  have hlen : (DL.insT l p a).length = l.length + 1 := by unfold DL.insT; simp; omega
  have := h.len
  refine ⟨by rw [hlen]; omega, by rw [hlen]; omega, fun t ht => ?_⟩
  unfold DL.insT at ht
  rcases List.mem_append.mp ht with ht | ht
  · rcases List.mem_append.mp ht with ht | ht
    · exact h.ar t (List.mem_of_mem_take ht)
    · rw [List.mem_singleton.mp ht]; exact ha
  · exact h.ar t (List.mem_of_mem_drop ht)
theorem Rg.delT {l : List Int} (h : Rg l) {p : Nat} (hp : p < l.length) (hl : ¬ l.length = 1) : Rg (delT l p) := by
  have hlen : (DL.delT l p).length = l.length - 1 := by unfold DL.delT; simp; omega
  have := h.len
  have := h.pos
  refine ⟨by rw [hlen]; omega, by rw [hlen]; omega, fun t ht => ?_⟩
  unfold DL.delT at ht
  rcases List.mem_append.mp ht with ht | ht
  · exact h.ar t (List.mem_of_mem_take ht)
  · exact h.ar t (List.mem_of_mem_drop ht)
def noArity (v : D) : Ex := ⟨.own "NoArity", [("value", v)]⟩
def tooLong : Ex := ⟨.own "TooLong", [("limit", .int 24)]⟩
def lastTok : Ex := ⟨.own "LastToken", []⟩
/-- an edit as it is asked for -/
inductive Ed where
  | put (v a : D)
  | ins (v a : D)
  | rem (v : D)
def Ed.d : Ed → D
  | .put v a => .tup [.str "put", v, a]
  | .ins v a => .tup [.str "insert", v, a]
  | .rem v => .tup [.str "remove", v]
def Ed.on (l : List Int) : Ed → Except Ex (List Int)
  | .put v a => match plc l.length v with
    | none => .error (noPlace v)
    | some p => match plc 6 a with
      | none => .error (noArity a)
      | some t => .ok (putT l p t)
  | .ins v a => match plc (l.length + 1) v with
    | none => .error (noPlace v)
    | some p => match plc 6 a with
      | none => .error (noArity a)
      | some t => if l.length = 24 then .error tooLong else .ok (insT l p t)
  | .rem v => match plc l.length v with
    | none => .error (noPlace v)
    | some p => if l.length = 1 then .error lastTok else .ok (delT l p)
theorem ar6 {t : Nat} (h : t < 6) : Arity (t : Int) := by unfold Arity; omega
theorem Ed.rg {l r : List Int} (h : Rg l) : ∀ {e : Ed}, e.on l = .ok r → Rg r := by
  intro e
  cases e with
  | put v a =>
    intro he
    unfold Ed.on at he
    cases e1 : plc l.length v with
    | none => simp only [e1] at he; cases he
    | some p =>
      cases e2 : plc 6 a with
      | none => simp only [e1, e2] at he; cases he
      | some t =>
        simp only [e1, e2] at he
        cases he
        exact h.putT (plc_some e1).2 (ar6 (plc_some e2).2)
  | ins v a =>
    intro he
    unfold Ed.on at he
    cases e1 : plc (l.length + 1) v with
    | none => simp only [e1] at he; cases he
    | some p =>
      cases e2 : plc 6 a with
      | none => simp only [e1, e2] at he; cases he
      | some t =>
        simp only [e1, e2] at he
        split at he
        · cases he
        · rename_i hc
          cases he
          exact h.insT (by have := (plc_some e1).2; omega) hc (ar6 (plc_some e2).2)
  | rem v =>
    intro he
    unfold Ed.on at he
    cases e1 : plc l.length v with
    | none => simp only [e1] at he; cases he
    | some p =>
      simp only [e1] at he
      split at he
      · cases he
      · rename_i hc
        cases he
        exact h.delT (plc_some e1).2 hc
end DL
namespace DL
open PySem PySem.Spec L2
open PyProof.Rows hiding St
end DL
namespace DL
open PySem PySem.Spec L2
open PyProof.Rows hiding St
theorem i0 (a b c : D) (S : Sto) : dIx (.tup [a, b, c]) (.int 0) S = .ok a S := rfl
theorem i1 (a b c : D) (S : Sto) : dIx (.tup [a, b, c]) (.int 1) S = .ok b S := rfl
theorem i2 (a b c : D) (S : Sto) : dIx (.tup [a, b, c]) (.int 2) S = .ok c S := rfl
theorem tupl {S : Sto} {g : Nat} {xs : List D} (h : S[g]? = some (.lst xs)) : bTuple [.loc g] S = .ok (.tup xs) S := by
  show (match getQ S g with
    | some xs => R.ok (D.tup xs) S
    | none => .stuck) = _
  unfold getQ
  rw [h]
theorem getl {S : Sto} {g : Nat} {xs : List D} (h : S[g]? = some (.lst xs)) : getL S g = some xs := by
  unfold getL
  rw [h]
theorem islst {S : Sto} {g : Nat} {xs : List D} (h : S[g]? = some (.lst xs)) : isLst S (.loc g) = true := by
  unfold isLst
  show (getL S g).isSome = true
  rw [getl h]
  rfl
/-- reel, rings and edits go side by side -/
structure RI (S : Sto) (r g d : Nat) (l : List Int) (sts dn : List D) (ch : D) : Prop where
  reel : S[r]? = some (rlO (ti l) (.tup (sts ++ [ti l])) (.tup dn) ch (.bl false))
  rings : S[g]? = some (.lst (sts ++ [ti l]))
  done : S[d]? = some (.lst dn)
  rg : Rg l
  all : ∀ x ∈ sts, ∃ k, Rg k ∧ x = ti k
  len : sts.length = dn.length
  most : dn.length ≤ 60
  shw : ∀ x ∈ dn, Shw 21 1 x
  ng : g ≠ r ∧ d ≠ r ∧ d ≠ g
  low : 2 ≤ r ∧ 2 ≤ g ∧ 2 ≤ d
theorem Strm.get {S : Sto} {n : Nat} {rest : Sto} (h : Strm S n rest) {i : Nat} (hi : 2 ≤ i) : S[i]? = rest[i - 2]? := by
  obtain ⟨big, cells, t, rfl, _⟩ := h
  obtain ⟨k, rfl⟩ : ∃ k, i = k + 2 := ⟨i - 2, by omega⟩
  rfl
theorem Strm.set {S : Sto} {n : Nat} {rest : Sto} (h : Strm S n rest) {i : Nat} (hi : 2 ≤ i) (o : Ob) : Strm (S.set i o) n (rest.set (i - 2) o) := by
  obtain ⟨big, cells, t, rfl, hk⟩ := h
  obtain ⟨k, rfl⟩ : ∃ k, i = k + 2 := ⟨i - 2, by omega⟩
  exact ⟨big, cells, t, rfl, hk⟩
theorem get_app {S : Sto} {i : Nat} {o : Ob} (h : S[i]? = some o) (t : Sto) : (S ++ t)[i]? = some o := by
  obtain ⟨hn, _⟩ := List.getElem?_eq_some_iff.mp h
  rw [List.getElem?_append_left hn]; exact h
theorem RI.app {S : Sto} {r g d : Nat} {l : List Int} {sts dn : List D} {ch : D} (h : RI S r g d l sts dn ch) (t : Sto) : RI (S ++ t) r g d l sts dn ch :=
  ⟨get_app h.reel t, get_app h.rings t, get_app h.done t, h.rg, h.all, h.len, h.most, h.shw, h.ng, h.low⟩
theorem q2 (a b : D) (S : Sto) : dIx (.fl [a, b]) (.int 0) S = .ok a S := rfl
theorem q3 (a b : D) (S : Sto) : dIx (.fl [a, b]) (.int 1) S = .ok b S := rfl
end DL
namespace DL
open PySem PySem.Spec L2
open PyProof.Rows hiding St
mutual
theorem low_rok : ∀ {d : D}, rok d = true → ∀ n, low n d = true
  | .int _, _, _ => rfl
  | .bl _, _, _ => rfl
  | .non, _, _ => rfl
  | .str _, _, _ => rfl
  | .tup ds, h, n => by
    rw [low]; exact lowL_rok (by rw [rok] at h; exact h) n
  | .fl ds, h, n => by
    rw [low]; exact lowL_rok (by rw [rok] at h; exact h) n
  | .kl ds, h, n => by simp [rok] at h
  | .loc _, h, _ => by simp [rok] at h
  | .ty _, h, _ => by simp [rok] at h
  | .fn _, h, _ => by simp [rok] at h
  | .exc _ _, h, _ => by simp [rok] at h
  | .fd kvs, h, n => by
    rw [low]; exact lowK_rok (by rw [rok] at h; exact h) n
theorem lowL_rok : ∀ {ds : List D}, rokL ds = true → ∀ n, lowL n ds = true
  | [], _, _ => rfl
  | d :: ds, h, n => by
    rw [rokL, Bool.and_eq_true] at h
    rw [lowL, low_rok h.1 n, lowL_rok h.2 n]; rfl
theorem lowK_rok : ∀ {ds : List (Key × D)}, rokK ds = true → ∀ n, lowK n ds = true
  | [], _, _ => rfl
  | (k, d) :: ds, h, n => by
    have h' : rok d = true ∧ rokK ds = true := by
      cases k <;> (simp only [rokK, Bool.and_eq_true] at h; exact ⟨h.1.2, h.2⟩)
    rw [lowK, low_rok h'.1 n, lowK_rok h'.2 n]; rfl
end
theorem lowL_all {n : Nat} : ∀ {ds : List D}, (∀ d ∈ ds, low n d = true) → lowL n ds = true
  | [], _ => rfl
  | d :: ds, h => by
    rw [lowL, h d List.mem_cons_self, lowL_all fun x hx => h x (List.mem_cons_of_mem _ hx)]; rfl
theorem low_ti (l : List Int) (n : Nat) : low n (ti l) = true := by
  unfold ti
  rw [low]
  exact lowL_all fun d hd => by
    obtain ⟨i, _, rfl⟩ := List.mem_map.mp hd
    rfl
theorem RI.trunc {S S' : Sto} {n m : Nat} {rest rest' : Sto} {r g d : Nat} {l : List Int} {sts dn : List D} {ch : D} (s : Strm S n rest) (s' : Strm S' m rest') (h : RI S' r g d l sts dn ch) (hc : rok ch = true) (hb : r < S.length ∧ g < S.length ∧ d < S.length) (hlen : S.length ≤ S'.length)
    (far : ∀ i, 2 ≤ i → i < S.length → i ≠ r → i ≠ g → i ≠ d → S'[i]? = S[i]?) : Trunc S S' ∧ RI (S'.take S.length) r g d l sts dn ch ∧ ∃ rest2, Strm (S'.take S.length) m rest2 := by
  have lsts : lowL S.length (sts ++ [ti l]) = true := lowL_all fun x hx => by
    rcases List.mem_append.mp hx with hx | hx
    · obtain ⟨k, _, rfl⟩ := h.all x hx
      exact low_ti k _
    · rw [List.mem_singleton.mp hx]; exact low_ti l _
  have ldn : lowL S.length dn = true := lowL_all fun x hx => low_rok (h.shw x hx).ok _
  have tk : ∀ i, i < S.length → (S'.take S.length)[i]? = S'[i]? := fun i hi => List.getElem?_take_of_lt hi
  have two : 2 ≤ S.length := by have := s.len; omega
  refine ⟨⟨hlen, fun k o hk e => ?_⟩, ⟨by rw [tk r hb.1]; exact h.reel, by rw [tk g hb.2.1]; exact h.rings, by rw [tk d hb.2.2]; exact h.done, h.rg, h.all, h.len, h.most, h.shw, h.ng, h.low⟩, ?_⟩
  · by_cases k2 : 2 ≤ k
    · by_cases kr : k = r
      · subst kr
        rw [h.reel] at e
        cases e
        right
        have e1 : DL.low S.length (.tup (sts ++ [ti l])) = true := by rw [DL.low]; exact lsts
        have e2 : DL.low S.length (.tup dn) = true := by rw [DL.low]; exact ldn
        have e3 : DL.low S.length (.bl false) = true := rfl
        simp only [rlO, rlF, lowO, lowF, low_ti, e1, e2, e3, low_rok hc, Bool.and_true]
      · by_cases kg : k = g
        · subst kg
          rw [h.rings] at e
          cases e
          right
          exact lsts
        · by_cases kd : k = d
          · subst kd
            rw [h.done] at e
            cases e
            right
            exact ldn
          · left
            rw [← far k k2 hk kr kg kd]
            exact e
    · right
      obtain ⟨b', c', t', rfl, o'⟩ := s'
      match k, k2, e with
      | 0, _, e => cases e; simp [lowO, lowL_ints]
      | 1, _, e =>
        cases e
        have z : 0 < S.length := by omega
        simp [lowO, lowL, DL.low, lowL_ints]
        exact z
      | k + 2, k2, _ => omega
  · obtain ⟨b', c', t', rfl, o'⟩ := s'
    obtain ⟨N, hN⟩ : ∃ N, S.length = N + 2 := ⟨S.length - 2, by omega⟩
    rw [hN]
    exact ⟨rest'.take N, b', c', t', rfl, o'⟩
theorem fnC_trunc {n m : Nat} {B : Ev → Sto → SR} {ds : List D} {S S' : Sto} {d : D} (hm : ds.length = m) (h : B (startD n ds) S = .rt d S') (hlen : S.length < S'.length) (t : Trunc S S') (hl : low S.length d = true) : fnC close n m B ds S = .ok d (S'.take S.length) := by
  unfold fnC
  rw [if_pos hm, h]
  show close S d S' = _
  unfold close
  rw [if_neg (by omega), if_pos ⟨t, hl⟩]
end DL
namespace DL
open PySem PySem.Spec L2
open PyProof.Rows hiding St
def d_PROPERTIES : D := (.tup [(.str "arity"), (.str "beginning"), (.str "free"), (.str "lacking")])
noncomputable def B_is_wish : Ev → Sto → SR :=
  (sSeq (sIf (eT (eOp (dEq false) (eVar 0) (eC (.str "arity")))) (sRet (eAndV (eCall bIsi (aCons (eVar 1) (aCons (eC (.ty "int")) aNil))) (eNotV (eCall bIsi (aCons (eVar 1) (aCons (eC (.ty "bool")) aNil)))))) sNil)
    (sRet (eCall bIsi (aCons (eVar 1) (aCons (eC (.ty "bool")) aNil)))))
noncomputable def F_is_wish : Fn := fnC close 2 2 B_is_wish
noncomputable def E1_values_of (ρ : Ev) (S : Sto) : R D :=
  (eOp dGt (eVar 3) (eC (.int 0))) ρ S
noncomputable def E2_values_of (ρ : Ev) (S : Sto) : R D :=
  (eOp (dIsN false) (eCall F_find_taker (aCons (eVar 0) (aCons (eVar 2) aNil))) (eC .non)) ρ S
noncomputable def E3_values_of (ρ : Ev) (S : Sto) : R D :=
  (eOp (dEq false) (eCall F_need (aCons (eVar 0) (aCons (eVar 2) aNil))) (eC (.int 0))) ρ S
noncomputable def B_values_of : Ev → Sto → SR :=
  (sMatch (eVar 1) (cText "arity" (sRet (eCall (bList mkFl) (aCons (eVar 0) aNil))) (cText "beginning" (sRet (eLc finFl (iRange1 (aCons (eCall bLen (aCons (eVar 0) aNil)) aNil)) (tN 2) [2] cYes E3_values_of)) (cText "free" (sRet (eLc finFl (iRange1 (aCons (eCall bLen (aCons (eVar 0) aNil)) aNil)) (tN 2) [2] cYes E2_values_of)) (cAny (sRet (eLc finFl (iSeq (eCall F_lacks (aCons (eVar 0) aNil))) (tN 3) [3] cYes E1_values_of)))))))
noncomputable def F_values_of : Fn := fnC close 4 2 B_values_of
noncomputable def L1_select (ρ : Ev) (S : Sto) : SR :=
  (sIf (eT (eOp (dIn true) (eVar 2) (eC d_PROPERTIES))) (sRaise1 "NoProperty" "name" (aCons (eVar 2) aNil)) sNil) ρ S
noncomputable def E1_select (ρ : Ev) (S : Sto) : R D :=
  (eVar 6) ρ S
noncomputable def Q1_select (ρ : Ev) (S : Sto) : R Bool :=
  (eT (eOp (dEq false) (eOp dIx (eVar 5) (eVar 6)) (eVar 4))) ρ S
noncomputable def L2_select (ρ : Ev) (S : Sto) : SR :=
  (sSeq (sIf (eNot (eT (eCall F_is_wish (aCons (eVar 2) (aCons (eVar 4) aNil))))) (sRaise1 "BadWish" "value" (aCons (eVar 4) aNil)) sNil)
    (sSeq (sSet 5 (eCall F_values_of (aCons (eVar 0) (aCons (eVar 2) aNil))))
    (sSet 3 (eLc finFl (iSeq (eVar 3)) (tN 6) [6] Q1_select E1_select)))) ρ S
noncomputable def B_select : Ev → Sto → SR :=
  (sSeq (sFor (iKeysD (eVar 1)) (tN 2) L1_select sNil)
    (sSeq (sSet 3 (eListRg mkFl (eCall bLen (aCons (eVar 0) aNil))))
    (sSeq (sFor (iItemsD (eVar 1)) (tTup 2 (tCons (tN 2) (tCons (tN 4) tNil))) L2_select sNil)
    (sRet (eCall bTuple (aCons (eVar 3) aNil))))))
noncomputable def F_select (ks : List Str) : Fn := fnKw close 7 ks B_select
theorem kwb1 : kitB "NoneType" "bool" = some false := by decide +kernel
theorem kwb4 : kitB "str" "bool" = some false := by decide +kernel
theorem kwb5 : kitB "tuple" "bool" = some false := by decide +kernel
theorem kwb6 : kitB "list" "bool" = some false := by decide +kernel
theorem kwb7 : kitB "dict" "bool" = some false := by decide +kernel
theorem isi_boolP {v : D} (h : pl v = true) (S : Sto) : bIsi [v, .ty "bool"] S = .ok (.bl (isBl v)) S := by
  cases v <;> first | (simp [pl] at h; done) | (simp only [bIsi, tyOf, kwb1, ku2, ku3, kwb4, kwb5, kwb6, kwb7, isBl])
/-- whether a value may be wished -/
def okW (nm : Str) (v : D) : Bool := if nm = "arity" then isInt0 v && !isBl v else isBl v
theorem is_wish_ok (nm : Str) {v : D} (h : pl v = true) (S : Sto) : F_is_wish [.str nm, v] S = .ok (.bl (okW nm v)) S := by
  refine fnC_rt rfl ?_ rfl
  have hst : startD 2 [D.str nm, v] = [some (.str nm), some v] := rfl
  rw [hst]
  unfold B_is_wish okW
  have i1 := isi_int h
  have i2 := isi_boolP h
  by_cases hn : nm = "arity"
  · subst hn
    cases hv : isInt0 v with
    | true => rw [hv] at i1; simp only [eVar, eC, eOp, eT, eAnd, eOr, eNot, eIf, eAndV, eOrV, eNotV, eCall, aNil, aCons, aStar, sOf, eTup, eFl, eLoc, eSl, oNone, oSome, iOf, eNeg, eChain, eMt, bOf, eDict0, eRev, eListRg, iZipD, sRaise1, sRaise0, eCallV, List.lookup, R.bind_ok, R.bind_er, R.bind_stuck, R.toS_ok, R.toS_er, R.toS_stuck, SR.next_nx, SR.next_rt, SR.next_er, SR.next_bk, SR.next_ct, SR.next_stuck, sNil, sSeq, sBrk, sCnt, sExp, sRet, sRetN, sIf, sSet, sAsg, sAug, sPar2, sPar3, tN, DL.tTup, DL.tNil, DL.tCons, DL.tSub, iSeq, srcOf_tup, srcOf_fl, srcOf_kl, srcOf_ti, iRange1, iRange2, sFor, startD, List.map_cons, List.map_nil, List.length_cons, List.length_nil, List.replicate, List.cons_append, List.nil_append, List.getElem?_cons_zero, List.getElem?_cons_succ, List.set_cons_zero, List.set_cons_succ, dSub_int, dFdiv_int, dMod_int, dLt_int, dLe_int, dGt_int, dGe_int, dAddI_int, dSubI_int, dIsN_non, isN, dAdd_int, ll0, ll1, ll2, ll3, ll4, ll5, ll6, ll7, ll8, ll9, ll10, ll11, ll12, ll13, ll14, ll15, ll16, ll17, ll18, ll19, ll20, ll21, ll22, ll23, ll24, ll25, ll26, ll27, ll28, ll29, ll30, ll31, ll32, ll33, ll34, ll35, ll36, ll37, ll38, ll39, ll40, Nat.reduceSub, Nat.reduceAdd, Nat.reduceEqDiff, if_true, if_false, ifp_t, ifp_f, reduceIte, Bool.true_eq_false, Bool.false_eq_true, Option.map_some, Option.map_none, Option.bind_some, Option.bind_none, eFld, eMth, eNew, sMatch, cText, cAny, cNil, tAttr, dEq_str, decide_true, i1, i2, Bool.true_and]
    | false => rw [hv] at i1; simp only [eVar, eC, eOp, eT, eAnd, eOr, eNot, eIf, eAndV, eOrV, eNotV, eCall, aNil, aCons, aStar, sOf, eTup, eFl, eLoc, eSl, oNone, oSome, iOf, eNeg, eChain, eMt, bOf, eDict0, eRev, eListRg, iZipD, sRaise1, sRaise0, eCallV, List.lookup, R.bind_ok, R.bind_er, R.bind_stuck, R.toS_ok, R.toS_er, R.toS_stuck, SR.next_nx, SR.next_rt, SR.next_er, SR.next_bk, SR.next_ct, SR.next_stuck, sNil, sSeq, sBrk, sCnt, sExp, sRet, sRetN, sIf, sSet, sAsg, sAug, sPar2, sPar3, tN, DL.tTup, DL.tNil, DL.tCons, DL.tSub, iSeq, srcOf_tup, srcOf_fl, srcOf_kl, srcOf_ti, iRange1, iRange2, sFor, startD, List.map_cons, List.map_nil, List.length_cons, List.length_nil, List.replicate, List.cons_append, List.nil_append, List.getElem?_cons_zero, List.getElem?_cons_succ, List.set_cons_zero, List.set_cons_succ, dSub_int, dFdiv_int, dMod_int, dLt_int, dLe_int, dGt_int, dGe_int, dAddI_int, dSubI_int, dIsN_non, isN, dAdd_int, ll0, ll1, ll2, ll3, ll4, ll5, ll6, ll7, ll8, ll9, ll10, ll11, ll12, ll13, ll14, ll15, ll16, ll17, ll18, ll19, ll20, ll21, ll22, ll23, ll24, ll25, ll26, ll27, ll28, ll29, ll30, ll31, ll32, ll33, ll34, ll35, ll36, ll37, ll38, ll39, ll40, Nat.reduceSub, Nat.reduceAdd, Nat.reduceEqDiff, if_true, if_false, ifp_t, ifp_f, reduceIte, Bool.true_eq_false, Bool.false_eq_true, Option.map_some, Option.map_none, Option.bind_some, Option.bind_none, eFld, eMth, eNew, sMatch, cText, cAny, cNil, tAttr, dEq_str, decide_true, i1, i2, Bool.false_and]
  · rw [if_neg hn]
    simp only [eVar, eC, eOp, eT, eAnd, eOr, eNot, eIf, eAndV, eOrV, eNotV, eCall, aNil, aCons, aStar, sOf, eTup, eFl, eLoc, eSl, oNone, oSome, iOf, eNeg, eChain, eMt, bOf, eDict0, eRev, eListRg, iZipD, sRaise1, sRaise0, eCallV, List.lookup, R.bind_ok, R.bind_er, R.bind_stuck, R.toS_ok, R.toS_er, R.toS_stuck, SR.next_nx, SR.next_rt, SR.next_er, SR.next_bk, SR.next_ct, SR.next_stuck, sNil, sSeq, sBrk, sCnt, sExp, sRet, sRetN, sIf, sSet, sAsg, sAug, sPar2, sPar3, tN, DL.tTup, DL.tNil, DL.tCons, DL.tSub, iSeq, srcOf_tup, srcOf_fl, srcOf_kl, srcOf_ti, iRange1, iRange2, sFor, startD, List.map_cons, List.map_nil, List.length_cons, List.length_nil, List.replicate, List.cons_append, List.nil_append, List.getElem?_cons_zero, List.getElem?_cons_succ, List.set_cons_zero, List.set_cons_succ, dSub_int, dFdiv_int, dMod_int, dLt_int, dLe_int, dGt_int, dGe_int, dAddI_int, dSubI_int, dIsN_non, isN, dAdd_int, ll0, ll1, ll2, ll3, ll4, ll5, ll6, ll7, ll8, ll9, ll10, ll11, ll12, ll13, ll14, ll15, ll16, ll17, ll18, ll19, ll20, ll21, ll22, ll23, ll24, ll25, ll26, ll27, ll28, ll29, ll30, ll31, ll32, ll33, ll34, ll35, ll36, ll37, ll38, ll39, ll40, Nat.reduceSub, Nat.reduceAdd, Nat.reduceEqDiff, if_true, if_false, ifp_t, ifp_f, reduceIte, Bool.true_eq_false, Bool.false_eq_true, Option.map_some, Option.map_none, Option.bind_some, Option.bind_none, eFld, eMth, eNew, sMatch, cText, cAny, cNil, tAttr, dEq_str, decide_eq_false hn, i2]
/-- the values of a property -/
def vls (l : List Int) (nm : Str) : List D := if nm = "arity" then l.map D.int else if nm = "beginning" then (List.range l.length).map fun p => .bl (ne (rot l p) == 0) else if nm = "free" then (List.range l.length).map fun p => .bl (tkr l p).isNone else (lks l).map fun t => .bl (decide (t > 0))
theorem vls_len (l : List Int) (nm : Str) : (vls l nm).length = l.length := by
  unfold vls
  split
  · simp
  · split
    · simp
    · split
      · simp
      · simp [lks]
theorem values_ok (l : List Int) (h0 : 0 < l.length) (hl : l.length ≤ 10 ^ 5) (nm : Str) (S : Sto) : F_values_of [ti l, .str nm] S = .ok (.fl (vls l nm)) S := by
  refine fnC_rt rfl ?_ rfl
  have hst : startD 4 [ti l, D.str nm] = [some (ti l), some (.str nm), none, none] := rfl
  rw [hst]
  unfold B_values_of vls
  have rg : ∀ S, iRange1 (aCons (eCall bLen (aCons (eVar 0) aNil)) aNil) [some (ti l), some (.str nm), none, none] S = .ok (rangeD 0 l.length, yes) S := fun S => rg1 l.length (by
    simp only [eVar, eC, eOp, eT, eAnd, eOr, eNot, eIf, eAndV, eOrV, eNotV, eCall, aNil, aCons, aStar, sOf, eTup, eFl, eLoc, eSl, oNone, oSome, iOf, eNeg, eChain, eMt, bOf, eDict0, eRev, eListRg, iZipD, sRaise1, sRaise0, eCallV, List.lookup, R.bind_ok, R.bind_er, R.bind_stuck, R.toS_ok, R.toS_er, R.toS_stuck, SR.next_nx, SR.next_rt, SR.next_er, SR.next_bk, SR.next_ct, SR.next_stuck, sNil, sSeq, sBrk, sCnt, sExp, sRet, sRetN, sIf, sSet, sAsg, sAug, sPar2, sPar3, tN, DL.tTup, DL.tNil, DL.tCons, DL.tSub, iSeq, srcOf_tup, srcOf_fl, srcOf_kl, srcOf_ti, iRange1, iRange2, sFor, startD, List.map_cons, List.map_nil, List.length_cons, List.length_nil, List.replicate, List.cons_append, List.nil_append, List.getElem?_cons_zero, List.getElem?_cons_succ, List.set_cons_zero, List.set_cons_succ, dSub_int, dFdiv_int, dMod_int, dLt_int, dLe_int, dGt_int, dGe_int, dAddI_int, dSubI_int, dIsN_non, isN, dAdd_int, ll0, ll1, ll2, ll3, ll4, ll5, ll6, ll7, ll8, ll9, ll10, ll11, ll12, ll13, ll14, ll15, ll16, ll17, ll18, ll19, ll20, ll21, ll22, ll23, ll24, ll25, ll26, ll27, ll28, ll29, ll30, ll31, ll32, ll33, ll34, ll35, ll36, ll37, ll38, ll39, ll40, Nat.reduceSub, Nat.reduceAdd, Nat.reduceEqDiff, if_true, if_false, ifp_t, ifp_f, reduceIte, Bool.true_eq_false, Bool.false_eq_true, Option.map_some, Option.map_none, Option.bind_some, Option.bind_none, eFld, eMth, eNew, sMatch, cText, cAny, cNil, tAttr, ti_len]) (by omega)
  by_cases h1 : nm = "arity"
  · subst h1
    have bl : ∀ S, bList mkFl [ti l] S = .ok (.fl (l.map D.int)) S := fun S => rfl
    simp only [eVar, eC, eOp, eT, eAnd, eOr, eNot, eIf, eAndV, eOrV, eNotV, eCall, aNil, aCons, aStar, sOf, eTup, eFl, eLoc, eSl, oNone, oSome, iOf, eNeg, eChain, eMt, bOf, eDict0, eRev, eListRg, iZipD, sRaise1, sRaise0, eCallV, List.lookup, R.bind_ok, R.bind_er, R.bind_stuck, R.toS_ok, R.toS_er, R.toS_stuck, SR.next_nx, SR.next_rt, SR.next_er, SR.next_bk, SR.next_ct, SR.next_stuck, sNil, sSeq, sBrk, sCnt, sExp, sRet, sRetN, sIf, sSet, sAsg, sAug, sPar2, sPar3, tN, DL.tTup, DL.tNil, DL.tCons, DL.tSub, iSeq, srcOf_tup, srcOf_fl, srcOf_kl, srcOf_ti, iRange1, iRange2, sFor, startD, List.map_cons, List.map_nil, List.length_cons, List.length_nil, List.replicate, List.cons_append, List.nil_append, List.getElem?_cons_zero, List.getElem?_cons_succ, List.set_cons_zero, List.set_cons_succ, dSub_int, dFdiv_int, dMod_int, dLt_int, dLe_int, dGt_int, dGe_int, dAddI_int, dSubI_int, dIsN_non, isN, dAdd_int, ll0, ll1, ll2, ll3, ll4, ll5, ll6, ll7, ll8, ll9, ll10, ll11, ll12, ll13, ll14, ll15, ll16, ll17, ll18, ll19, ll20, ll21, ll22, ll23, ll24, ll25, ll26, ll27, ll28, ll29, ll30, ll31, ll32, ll33, ll34, ll35, ll36, ll37, ll38, ll39, ll40, Nat.reduceSub, Nat.reduceAdd, Nat.reduceEqDiff, if_true, if_false, ifp_t, ifp_f, reduceIte, Bool.true_eq_false, Bool.false_eq_true, Option.map_some, Option.map_none, Option.bind_some, Option.bind_none, eFld, eMth, eNew, sMatch, cText, cAny, cNil, tAttr, sMatch, cText, bl]
  · rw [if_neg h1]
    by_cases h2 : nm = "beginning"
    · subst h2
      have key := lc_range (i := 2) (E := E3_values_of) (S := S) l.length (fun p => .bl (ne (rot l p) == 0)) (fun d => [some (ti l), some (.str "beginning"), some d, none]) (rg S) (fun k hk S' => ⟨rfl, by
        have n := need_ok l k hk (by omega)
        simp only [eVar, eC, eOp, eT, eAnd, eOr, eNot, eIf, eAndV, eOrV, eNotV, eCall, aNil, aCons, aStar, sOf, eTup, eFl, eLoc, eSl, oNone, oSome, iOf, eNeg, eChain, eMt, bOf, eDict0, eRev, eListRg, iZipD, sRaise1, sRaise0, eCallV, List.lookup, R.bind_ok, R.bind_er, R.bind_stuck, R.toS_ok, R.toS_er, R.toS_stuck, SR.next_nx, SR.next_rt, SR.next_er, SR.next_bk, SR.next_ct, SR.next_stuck, sNil, sSeq, sBrk, sCnt, sExp, sRet, sRetN, sIf, sSet, sAsg, sAug, sPar2, sPar3, tN, DL.tTup, DL.tNil, DL.tCons, DL.tSub, iSeq, srcOf_tup, srcOf_fl, srcOf_kl, srcOf_ti, iRange1, iRange2, sFor, startD, List.map_cons, List.map_nil, List.length_cons, List.length_nil, List.replicate, List.cons_append, List.nil_append, List.getElem?_cons_zero, List.getElem?_cons_succ, List.set_cons_zero, List.set_cons_succ, dSub_int, dFdiv_int, dMod_int, dLt_int, dLe_int, dGt_int, dGe_int, dAddI_int, dSubI_int, dIsN_non, isN, dAdd_int, ll0, ll1, ll2, ll3, ll4, ll5, ll6, ll7, ll8, ll9, ll10, ll11, ll12, ll13, ll14, ll15, ll16, ll17, ll18, ll19, ll20, ll21, ll22, ll23, ll24, ll25, ll26, ll27, ll28, ll29, ll30, ll31, ll32, ll33, ll34, ll35, ll36, ll37, ll38, ll39, ll40, Nat.reduceSub, Nat.reduceAdd, Nat.reduceEqDiff, if_true, if_false, ifp_t, ifp_f, reduceIte, Bool.true_eq_false, Bool.false_eq_true, Option.map_some, Option.map_none, Option.bind_some, Option.bind_none, eFld, eMth, eNew, sMatch, cText, cAny, cNil, tAttr, E3_values_of, n, dEq_int]⟩) (by omega) (fun _ _ => rfl)
      have e1 : ¬ (("beginning" : Str) = "arity") := by decide
      rw [if_pos rfl]
      simp only [eVar, eC, eOp, eT, eAnd, eOr, eNot, eIf, eAndV, eOrV, eNotV, eCall, aNil, aCons, aStar, sOf, eTup, eFl, eLoc, eSl, oNone, oSome, iOf, eNeg, eChain, eMt, bOf, eDict0, eRev, eListRg, iZipD, sRaise1, sRaise0, eCallV, List.lookup, R.bind_ok, R.bind_er, R.bind_stuck, R.toS_ok, R.toS_er, R.toS_stuck, SR.next_nx, SR.next_rt, SR.next_er, SR.next_bk, SR.next_ct, SR.next_stuck, sNil, sSeq, sBrk, sCnt, sExp, sRet, sRetN, sIf, sSet, sAsg, sAug, sPar2, sPar3, tN, DL.tTup, DL.tNil, DL.tCons, DL.tSub, iSeq, srcOf_tup, srcOf_fl, srcOf_kl, srcOf_ti, iRange1, iRange2, sFor, startD, List.map_cons, List.map_nil, List.length_cons, List.length_nil, List.replicate, List.cons_append, List.nil_append, List.getElem?_cons_zero, List.getElem?_cons_succ, List.set_cons_zero, List.set_cons_succ, dSub_int, dFdiv_int, dMod_int, dLt_int, dLe_int, dGt_int, dGe_int, dAddI_int, dSubI_int, dIsN_non, isN, dAdd_int, ll0, ll1, ll2, ll3, ll4, ll5, ll6, ll7, ll8, ll9, ll10, ll11, ll12, ll13, ll14, ll15, ll16, ll17, ll18, ll19, ll20, ll21, ll22, ll23, ll24, ll25, ll26, ll27, ll28, ll29, ll30, ll31, ll32, ll33, ll34, ll35, ll36, ll37, ll38, ll39, ll40, Nat.reduceSub, Nat.reduceAdd, Nat.reduceEqDiff, if_true, if_false, ifp_t, ifp_f, reduceIte, Bool.true_eq_false, Bool.false_eq_true, Option.map_some, Option.map_none, Option.bind_some, Option.bind_none, eFld, eMth, eNew, sMatch, cText, cAny, cNil, tAttr, sMatch, cText, e1, key]
    · rw [if_neg h2]
      by_cases h3 : nm = "free"
      · subst h3
        have key := lc_range (i := 2) (E := E2_values_of) (S := S) l.length (fun p => .bl (tkr l p).isNone) (fun d => [some (ti l), some (.str "free"), some d, none]) (rg S) (fun k hk S' => ⟨rfl, by
          have n := find_taker_ok (p := k) h0 (Nat.le_trans hl (by decide))
          simp only [eVar, eC, eOp, eT, eAnd, eOr, eNot, eIf, eAndV, eOrV, eNotV, eCall, aNil, aCons, aStar, sOf, eTup, eFl, eLoc, eSl, oNone, oSome, iOf, eNeg, eChain, eMt, bOf, eDict0, eRev, eListRg, iZipD, sRaise1, sRaise0, eCallV, List.lookup, R.bind_ok, R.bind_er, R.bind_stuck, R.toS_ok, R.toS_er, R.toS_stuck, SR.next_nx, SR.next_rt, SR.next_er, SR.next_bk, SR.next_ct, SR.next_stuck, sNil, sSeq, sBrk, sCnt, sExp, sRet, sRetN, sIf, sSet, sAsg, sAug, sPar2, sPar3, tN, DL.tTup, DL.tNil, DL.tCons, DL.tSub, iSeq, srcOf_tup, srcOf_fl, srcOf_kl, srcOf_ti, iRange1, iRange2, sFor, startD, List.map_cons, List.map_nil, List.length_cons, List.length_nil, List.replicate, List.cons_append, List.nil_append, List.getElem?_cons_zero, List.getElem?_cons_succ, List.set_cons_zero, List.set_cons_succ, dSub_int, dFdiv_int, dMod_int, dLt_int, dLe_int, dGt_int, dGe_int, dAddI_int, dSubI_int, dIsN_non, isN, dAdd_int, ll0, ll1, ll2, ll3, ll4, ll5, ll6, ll7, ll8, ll9, ll10, ll11, ll12, ll13, ll14, ll15, ll16, ll17, ll18, ll19, ll20, ll21, ll22, ll23, ll24, ll25, ll26, ll27, ll28, ll29, ll30, ll31, ll32, ll33, ll34, ll35, ll36, ll37, ll38, ll39, ll40, Nat.reduceSub, Nat.reduceAdd, Nat.reduceEqDiff, if_true, if_false, ifp_t, ifp_f, reduceIte, Bool.true_eq_false, Bool.false_eq_true, Option.map_some, Option.map_none, Option.bind_some, Option.bind_none, eFld, eMth, eNew, sMatch, cText, cAny, cNil, tAttr, E2_values_of, n]
          cases tkr l k <;> rfl⟩) (by omega) (fun _ _ => rfl)
        have e1 : ¬ (("free" : Str) = "arity") := by decide
        have e2 : ¬ (("free" : Str) = "beginning") := by decide
        rw [if_pos rfl]
        simp only [eVar, eC, eOp, eT, eAnd, eOr, eNot, eIf, eAndV, eOrV, eNotV, eCall, aNil, aCons, aStar, sOf, eTup, eFl, eLoc, eSl, oNone, oSome, iOf, eNeg, eChain, eMt, bOf, eDict0, eRev, eListRg, iZipD, sRaise1, sRaise0, eCallV, List.lookup, R.bind_ok, R.bind_er, R.bind_stuck, R.toS_ok, R.toS_er, R.toS_stuck, SR.next_nx, SR.next_rt, SR.next_er, SR.next_bk, SR.next_ct, SR.next_stuck, sNil, sSeq, sBrk, sCnt, sExp, sRet, sRetN, sIf, sSet, sAsg, sAug, sPar2, sPar3, tN, DL.tTup, DL.tNil, DL.tCons, DL.tSub, iSeq, srcOf_tup, srcOf_fl, srcOf_kl, srcOf_ti, iRange1, iRange2, sFor, startD, List.map_cons, List.map_nil, List.length_cons, List.length_nil, List.replicate, List.cons_append, List.nil_append, List.getElem?_cons_zero, List.getElem?_cons_succ, List.set_cons_zero, List.set_cons_succ, dSub_int, dFdiv_int, dMod_int, dLt_int, dLe_int, dGt_int, dGe_int, dAddI_int, dSubI_int, dIsN_non, isN, dAdd_int, ll0, ll1, ll2, ll3, ll4, ll5, ll6, ll7, ll8, ll9, ll10, ll11, ll12, ll13, ll14, ll15, ll16, ll17, ll18, ll19, ll20, ll21, ll22, ll23, ll24, ll25, ll26, ll27, ll28, ll29, ll30, ll31, ll32, ll33, ll34, ll35, ll36, ll37, ll38, ll39, ll40, Nat.reduceSub, Nat.reduceAdd, Nat.reduceEqDiff, if_true, if_false, ifp_t, ifp_f, reduceIte, Bool.true_eq_false, Bool.false_eq_true, Option.map_some, Option.map_none, Option.bind_some, Option.bind_none, eFld, eMth, eNew, sMatch, cText, cAny, cNil, tAttr, sMatch, cText, e1, e2, key]
      · rw [if_neg h3]
        have lo := lacks_ok l h0 hl
        have src : ∀ S, iSeq (eCall F_lacks (aCons (eVar 0) aNil)) [some (ti l), some (.str nm), none, none] S = .ok ((lks l).map D.int, yes) S := fun S => by
          simp only [eVar, eC, eOp, eT, eAnd, eOr, eNot, eIf, eAndV, eOrV, eNotV, eCall, aNil, aCons, aStar, sOf, eTup, eFl, eLoc, eSl, oNone, oSome, iOf, eNeg, eChain, eMt, bOf, eDict0, eRev, eListRg, iZipD, sRaise1, sRaise0, eCallV, List.lookup, R.bind_ok, R.bind_er, R.bind_stuck, R.toS_ok, R.toS_er, R.toS_stuck, SR.next_nx, SR.next_rt, SR.next_er, SR.next_bk, SR.next_ct, SR.next_stuck, sNil, sSeq, sBrk, sCnt, sExp, sRet, sRetN, sIf, sSet, sAsg, sAug, sPar2, sPar3, tN, DL.tTup, DL.tNil, DL.tCons, DL.tSub, iSeq, srcOf_tup, srcOf_fl, srcOf_kl, srcOf_ti, iRange1, iRange2, sFor, startD, List.map_cons, List.map_nil, List.length_cons, List.length_nil, List.replicate, List.cons_append, List.nil_append, List.getElem?_cons_zero, List.getElem?_cons_succ, List.set_cons_zero, List.set_cons_succ, dSub_int, dFdiv_int, dMod_int, dLt_int, dLe_int, dGt_int, dGe_int, dAddI_int, dSubI_int, dIsN_non, isN, dAdd_int, ll0, ll1, ll2, ll3, ll4, ll5, ll6, ll7, ll8, ll9, ll10, ll11, ll12, ll13, ll14, ll15, ll16, ll17, ll18, ll19, ll20, ll21, ll22, ll23, ll24, ll25, ll26, ll27, ll28, ll29, ll30, ll31, ll32, ll33, ll34, ll35, ll36, ll37, ll38, ll39, ll40, Nat.reduceSub, Nat.reduceAdd, Nat.reduceEqDiff, if_true, if_false, ifp_t, ifp_f, reduceIte, Bool.true_eq_false, Bool.false_eq_true, Option.map_some, Option.map_none, Option.bind_some, Option.bind_none, eFld, eMth, eNew, sMatch, cText, cAny, cNil, tAttr, lo]
        have key := eLc_pure (src := iSeq (eCall F_lacks (aCons (eVar 0) aNil))) (T := tN 3) (vs := [3]) (c := cYes) (f := E1_values_of) (ρ := [some (ti l), some (.str nm), none, none]) (S := S) ((lks l).map D.int) (fun d => [some (ti l), some (.str nm), none, some d]) (fun _ => true) (fun d => match d with | .int t => .bl (decide (t > 0)) | _ => .non) (src S) (fun d hd S' => by
          obtain ⟨t, _, rfl⟩ := List.mem_map.mp hd
          exact ⟨rfl, rfl, fun _ => by simp only [eVar, eC, eOp, eT, eAnd, eOr, eNot, eIf, eAndV, eOrV, eNotV, eCall, aNil, aCons, aStar, sOf, eTup, eFl, eLoc, eSl, oNone, oSome, iOf, eNeg, eChain, eMt, bOf, eDict0, eRev, eListRg, iZipD, sRaise1, sRaise0, eCallV, List.lookup, R.bind_ok, R.bind_er, R.bind_stuck, R.toS_ok, R.toS_er, R.toS_stuck, SR.next_nx, SR.next_rt, SR.next_er, SR.next_bk, SR.next_ct, SR.next_stuck, sNil, sSeq, sBrk, sCnt, sExp, sRet, sRetN, sIf, sSet, sAsg, sAug, sPar2, sPar3, tN, DL.tTup, DL.tNil, DL.tCons, DL.tSub, iSeq, srcOf_tup, srcOf_fl, srcOf_kl, srcOf_ti, iRange1, iRange2, sFor, startD, List.map_cons, List.map_nil, List.length_cons, List.length_nil, List.replicate, List.cons_append, List.nil_append, List.getElem?_cons_zero, List.getElem?_cons_succ, List.set_cons_zero, List.set_cons_succ, dSub_int, dFdiv_int, dMod_int, dLt_int, dLe_int, dGt_int, dGe_int, dAddI_int, dSubI_int, dIsN_non, isN, dAdd_int, ll0, ll1, ll2, ll3, ll4, ll5, ll6, ll7, ll8, ll9, ll10, ll11, ll12, ll13, ll14, ll15, ll16, ll17, ll18, ll19, ll20, ll21, ll22, ll23, ll24, ll25, ll26, ll27, ll28, ll29, ll30, ll31, ll32, ll33, ll34, ll35, ll36, ll37, ll38, ll39, ll40, Nat.reduceSub, Nat.reduceAdd, Nat.reduceEqDiff, if_true, if_false, ifp_t, ifp_f, reduceIte, Bool.true_eq_false, Bool.false_eq_true, Option.map_some, Option.map_none, Option.bind_some, Option.bind_none, eFld, eMth, eNew, sMatch, cText, cAny, cNil, tAttr, E1_values_of]⟩) (by simp [lks]; exact Nat.le_trans hl (by decide)) (fun d hd _ => by
          obtain ⟨t, _, rfl⟩ := List.mem_map.mp hd
          rfl)
        rw [List.filter_eq_self.mpr (fun _ _ => rfl), List.map_map] at key
        have hf : ((fun d => match d with | D.int t => D.bl (decide (t > 0)) | _ => D.non) ∘ D.int) = fun t : Int => D.bl (decide (t > 0)) := rfl
        rw [hf] at key
        simp only [eVar, eC, eOp, eT, eAnd, eOr, eNot, eIf, eAndV, eOrV, eNotV, eCall, aNil, aCons, aStar, sOf, eTup, eFl, eLoc, eSl, oNone, oSome, iOf, eNeg, eChain, eMt, bOf, eDict0, eRev, eListRg, iZipD, sRaise1, sRaise0, eCallV, List.lookup, R.bind_ok, R.bind_er, R.bind_stuck, R.toS_ok, R.toS_er, R.toS_stuck, SR.next_nx, SR.next_rt, SR.next_er, SR.next_bk, SR.next_ct, SR.next_stuck, sNil, sSeq, sBrk, sCnt, sExp, sRet, sRetN, sIf, sSet, sAsg, sAug, sPar2, sPar3, tN, DL.tTup, DL.tNil, DL.tCons, DL.tSub, iSeq, srcOf_tup, srcOf_fl, srcOf_kl, srcOf_ti, iRange1, iRange2, sFor, startD, List.map_cons, List.map_nil, List.length_cons, List.length_nil, List.replicate, List.cons_append, List.nil_append, List.getElem?_cons_zero, List.getElem?_cons_succ, List.set_cons_zero, List.set_cons_succ, dSub_int, dFdiv_int, dMod_int, dLt_int, dLe_int, dGt_int, dGe_int, dAddI_int, dSubI_int, dIsN_non, isN, dAdd_int, ll0, ll1, ll2, ll3, ll4, ll5, ll6, ll7, ll8, ll9, ll10, ll11, ll12, ll13, ll14, ll15, ll16, ll17, ll18, ll19, ll20, ll21, ll22, ll23, ll24, ll25, ll26, ll27, ll28, ll29, ll30, ll31, ll32, ll33, ll34, ll35, ll36, ll37, ll38, ll39, ll40, Nat.reduceSub, Nat.reduceAdd, Nat.reduceEqDiff, if_true, if_false, ifp_t, ifp_f, reduceIte, Bool.true_eq_false, Bool.false_eq_true, Option.map_some, Option.map_none, Option.bind_some, Option.bind_none, eFld, eMth, eNew, sMatch, cText, cAny, cNil, tAttr, sMatch, cText, cAny, h1, h2, h3, key]
def props : List V := [V.str "arity", V.str "beginning", V.str "free", V.str "lacking"]
def isProp (nm : Str) : Bool := inV (.str nm) props
theorem notIn_props (nm : Str) (S : Sto) : dIn true (.str nm) d_PROPERTIES S = .ok (.bl (!isProp nm)) S := rfl
theorem key_loop (x0 x1 : Option D) (xs : Ev) (S : Sto) : ∀ (ks : List Str) (x2 : Option D), (match ks.find? fun k => !isProp k with
    | none => ∃ y2, forD yes (tN 2) L1_select sNil (ks.map D.str) (x0 :: x1 :: x2 :: xs) S = .nx (x0 :: x1 :: y2 :: xs) S
    | some n => ∃ ρ', forD yes (tN 2) L1_select sNil (ks.map D.str) (x0 :: x1 :: x2 :: xs) S = .er ⟨.own "NoProperty", [("name", .str n)]⟩ ρ' S)
  | [], x2 => ⟨x2, by
      show forD yes _ L1_select sNil [] _ _ = _
      rw [forD_nil trivial]; rfl⟩
  | k :: ks, x2 => by
    have hT : tN 2 (.str k) (x0 :: x1 :: x2 :: xs) S = some (x0 :: x1 :: some (.str k) :: xs, S) := rfl
    have np := notIn_props k
    cases hp : isProp k with
    | true =>
      rw [hp] at np
      have st : L1_select (x0 :: x1 :: some (.str k) :: xs) S = .nx (x0 :: x1 :: some (.str k) :: xs) S := by
        simp only [eVar, eC, eOp, eT, eAnd, eOr, eNot, eIf, eAndV, eOrV, eNotV, eCall, aNil, aCons, aStar, sOf, eTup, eFl, eLoc, eSl, oNone, oSome, iOf, eNeg, eChain, eMt, bOf, eDict0, eRev, eListRg, iZipD, sRaise1, sRaise0, eCallV, List.lookup, R.bind_ok, R.bind_er, R.bind_stuck, R.toS_ok, R.toS_er, R.toS_stuck, SR.next_nx, SR.next_rt, SR.next_er, SR.next_bk, SR.next_ct, SR.next_stuck, sNil, sSeq, sBrk, sCnt, sExp, sRet, sRetN, sIf, sSet, sAsg, sAug, sPar2, sPar3, tN, DL.tTup, DL.tNil, DL.tCons, DL.tSub, iSeq, srcOf_tup, srcOf_fl, srcOf_kl, srcOf_ti, iRange1, iRange2, sFor, startD, List.map_cons, List.map_nil, List.length_cons, List.length_nil, List.replicate, List.cons_append, List.nil_append, List.getElem?_cons_zero, List.getElem?_cons_succ, List.set_cons_zero, List.set_cons_succ, dSub_int, dFdiv_int, dMod_int, dLt_int, dLe_int, dGt_int, dGe_int, dAddI_int, dSubI_int, dIsN_non, isN, dAdd_int, ll0, ll1, ll2, ll3, ll4, ll5, ll6, ll7, ll8, ll9, ll10, ll11, ll12, ll13, ll14, ll15, ll16, ll17, ll18, ll19, ll20, ll21, ll22, ll23, ll24, ll25, ll26, ll27, ll28, ll29, ll30, ll31, ll32, ll33, ll34, ll35, ll36, ll37, ll38, ll39, ll40, Nat.reduceSub, Nat.reduceAdd, Nat.reduceEqDiff, if_true, if_false, ifp_t, ifp_f, reduceIte, Bool.true_eq_false, Bool.false_eq_true, Option.map_some, Option.map_none, Option.bind_some, Option.bind_none, eFld, eMth, eNew, sMatch, cText, cAny, cNil, tAttr, L1_select, np, Bool.not_true]
      have ih := key_loop x0 x1 xs S ks (some (.str k))
      rw [List.find?_cons_of_neg (by simp [hp])]
      rw [List.map_cons, forD_cons (g := yes) (T := tN 2) (B := L1_select) (Z := sNil) (ds := ks.map D.str) True.intro hT st]
      exact ih
    | false =>
      rw [hp] at np
      have st : L1_select (x0 :: x1 :: some (.str k) :: xs) S = .er ⟨.own "NoProperty", [("name", .str k)]⟩ (x0 :: x1 :: some (.str k) :: xs) S := by
        simp only [eVar, eC, eOp, eT, eAnd, eOr, eNot, eIf, eAndV, eOrV, eNotV, eCall, aNil, aCons, aStar, sOf, eTup, eFl, eLoc, eSl, oNone, oSome, iOf, eNeg, eChain, eMt, bOf, eDict0, eRev, eListRg, iZipD, sRaise1, sRaise0, eCallV, List.lookup, R.bind_ok, R.bind_er, R.bind_stuck, R.toS_ok, R.toS_er, R.toS_stuck, SR.next_nx, SR.next_rt, SR.next_er, SR.next_bk, SR.next_ct, SR.next_stuck, sNil, sSeq, sBrk, sCnt, sExp, sRet, sRetN, sIf, sSet, sAsg, sAug, sPar2, sPar3, tN, DL.tTup, DL.tNil, DL.tCons, DL.tSub, iSeq, srcOf_tup, srcOf_fl, srcOf_kl, srcOf_ti, iRange1, iRange2, sFor, startD, List.map_cons, List.map_nil, List.length_cons, List.length_nil, List.replicate, List.cons_append, List.nil_append, List.getElem?_cons_zero, List.getElem?_cons_succ, List.set_cons_zero, List.set_cons_succ, dSub_int, dFdiv_int, dMod_int, dLt_int, dLe_int, dGt_int, dGe_int, dAddI_int, dSubI_int, dIsN_non, isN, dAdd_int, ll0, ll1, ll2, ll3, ll4, ll5, ll6, ll7, ll8, ll9, ll10, ll11, ll12, ll13, ll14, ll15, ll16, ll17, ll18, ll19, ll20, ll21, ll22, ll23, ll24, ll25, ll26, ll27, ll28, ll29, ll30, ll31, ll32, ll33, ll34, ll35, ll36, ll37, ll38, ll39, ll40, Nat.reduceSub, Nat.reduceAdd, Nat.reduceEqDiff, if_true, if_false, ifp_t, ifp_f, reduceIte, Bool.true_eq_false, Bool.false_eq_true, Option.map_some, Option.map_none, Option.bind_some, Option.bind_none, eFld, eMth, eNew, sMatch, cText, cAny, cNil, tAttr, L1_select, np, Bool.not_false]
      rw [List.find?_cons_of_pos (by simp [hp])]
      refine ⟨x0 :: x1 :: some (.str k) :: xs, ?_⟩
      rw [List.map_cons]
      unfold forD
      rw [if_pos (show yes S from trivial), hT]
      simp only [st]
def hitB (a v : D) : Bool := match a, v with
  | .int i, .int j => i == j
  | .bl a, .bl b => a == b
  | _, _ => false
def selF (l : List Int) : List (Str × D) → List Nat → Except D (List Nat)
  | [], f => .ok f
  | (nm, v) :: r, f => if okW nm v = true then selF l r (f.filter fun p => hitB ((vls l nm)[p]?.getD .non) v) else .error v
theorem dEq_bl (a b : Bool) (S : Sto) : dEq false (.bl a) (.bl b) S = .ok (.bl (a == b)) S := by cases a <;> cases b <;> rfl
theorem hit_eq {l : List Int} {nm : Str} {v : D} (h : okW nm v = true) {p : Nat} (hp : p < l.length) (S : Sto) : dEq false ((vls l nm)[p]?.getD .non) v S = .ok (.bl (hitB ((vls l nm)[p]?.getD .non) v)) S := by
  unfold okW at h
  by_cases h1 : nm = "arity"
  · rw [if_pos h1] at h
    cases v with
    | int j =>
      have : (vls l nm)[p]?.getD .non = .int ((l[p]?).getD 0) := by
        unfold vls
        rw [if_pos h1, List.getElem?_map, List.getElem?_eq_getElem hp]
        rfl
      rw [this, dEq_int]; rfl
    | _ => simp [isInt0, isBl] at h
  · rw [if_neg h1] at h
    cases v with
    | bl b =>
      have : ∃ a, (vls l nm)[p]?.getD .non = .bl a := by
        have hk : ∀ x ∈ vls l nm, ∃ a, x = .bl a := by
          intro x hx
          unfold vls at hx
          rw [if_neg h1] at hx
          split at hx
          · obtain ⟨k, _, rfl⟩ := List.mem_map.mp hx; exact ⟨_, rfl⟩
          · split at hx
            · obtain ⟨k, _, rfl⟩ := List.mem_map.mp hx; exact ⟨_, rfl⟩
            · obtain ⟨k, _, rfl⟩ := List.mem_map.mp hx; exact ⟨_, rfl⟩
        rw [List.getElem?_eq_getElem (by rw [vls_len]; exact hp)]
        exact hk _ (List.getElem_mem _)
      obtain ⟨a, ea⟩ := this
      rw [ea, dEq_bl]; rfl
    | _ => simp [isBl] at h
theorem sel_step (l : List Int) (h0 : 0 < l.length) (hl : l.length ≤ 10 ^ 5) (x1 x5 x6 : Option D) (S : Sto) (nm : Str) {v : D} (hv : pl v = true) (found : List Nat) (hf : ∀ p ∈ found, p < l.length) (hfl : found.length ≤ 10 ^ 5) :
    if okW nm v = true then L2_select [some (ti l), x1, some (.str nm), some (.fl (ni found)), some v, x5, x6] S = .nx [some (ti l), x1, some (.str nm), some (.fl (ni (found.filter fun p => hitB ((vls l nm)[p]?.getD .non) v))), some v, some (.fl (vls l nm)), x6] S
    else L2_select [some (ti l), x1, some (.str nm), some (.fl (ni found)), some v, x5, x6] S = .er ⟨.own "BadWish", [("value", v)]⟩ [some (ti l), x1, some (.str nm), some (.fl (ni found)), some v, x5, x6] S := by
  have iw := is_wish_ok nm hv
  have vo := values_ok l h0 hl nm
  cases hk : okW nm v with
  | false =>
    rw [if_neg (by decide)]
    rw [hk] at iw
    simp only [eVar, eC, eOp, eT, eAnd, eOr, eNot, eIf, eAndV, eOrV, eNotV, eCall, aNil, aCons, aStar, sOf, eTup, eFl, eLoc, eSl, oNone, oSome, iOf, eNeg, eChain, eMt, bOf, eDict0, eRev, eListRg, iZipD, sRaise1, sRaise0, eCallV, List.lookup, R.bind_ok, R.bind_er, R.bind_stuck, R.toS_ok, R.toS_er, R.toS_stuck, SR.next_nx, SR.next_rt, SR.next_er, SR.next_bk, SR.next_ct, SR.next_stuck, sNil, sSeq, sBrk, sCnt, sExp, sRet, sRetN, sIf, sSet, sAsg, sAug, sPar2, sPar3, tN, DL.tTup, DL.tNil, DL.tCons, DL.tSub, iSeq, srcOf_tup, srcOf_fl, srcOf_kl, srcOf_ti, iRange1, iRange2, sFor, startD, List.map_cons, List.map_nil, List.length_cons, List.length_nil, List.replicate, List.cons_append, List.nil_append, List.getElem?_cons_zero, List.getElem?_cons_succ, List.set_cons_zero, List.set_cons_succ, dSub_int, dFdiv_int, dMod_int, dLt_int, dLe_int, dGt_int, dGe_int, dAddI_int, dSubI_int, dIsN_non, isN, dAdd_int, ll0, ll1, ll2, ll3, ll4, ll5, ll6, ll7, ll8, ll9, ll10, ll11, ll12, ll13, ll14, ll15, ll16, ll17, ll18, ll19, ll20, ll21, ll22, ll23, ll24, ll25, ll26, ll27, ll28, ll29, ll30, ll31, ll32, ll33, ll34, ll35, ll36, ll37, ll38, ll39, ll40, Nat.reduceSub, Nat.reduceAdd, Nat.reduceEqDiff, if_true, if_false, ifp_t, ifp_f, reduceIte, Bool.true_eq_false, Bool.false_eq_true, Option.map_some, Option.map_none, Option.bind_some, Option.bind_none, eFld, eMth, eNew, sMatch, cText, cAny, cNil, tAttr, L2_select, iw, Bool.not_false]
  | true =>
    rw [if_pos rfl]
    rw [hk] at iw
    have key := eLc_pure (src := iSeq (eVar 3)) (T := tN 6) (vs := [6]) (c := Q1_select) (f := E1_select) (ρ := [some (ti l), x1, some (.str nm), some (.fl (ni found)), some v, some (.fl (vls l nm)), x6]) (S := S) (ni found)
      (fun d => [some (ti l), x1, some (.str nm), some (.fl (ni found)), some v, some (.fl (vls l nm)), some d]) (fun d => match d with | .int p => hitB ((vls l nm)[p.toNat]?.getD .non) v | _ => false) (fun d => d) rfl (fun d hd S' => by
        obtain ⟨p, hp, rfl⟩ := List.mem_map.mp hd
        have hpl := hf p hp
        refine ⟨rfl, ?_, fun _ => ?_⟩
        · have ix : ∀ S, dIx (.fl (vls l nm)) (.int (p : Int)) S = .ok ((vls l nm)[p]?.getD .non) S := fun S => dIx_fl (by
            rw [atI_nn (by omega) (by rw [vls_len]; omega), Int.toNat_natCast, List.getElem?_eq_getElem (by rw [vls_len]; exact hpl)]
            rfl)
          have he := hit_eq hk hpl
          show Q1_select [some (ti l), x1, some (.str nm), some (.fl (ni found)), some v, some (.fl (vls l nm)), some (.int (p : Int))] S' = .ok (hitB ((vls l nm)[p]?.getD .non) v) S'
          generalize (vls l nm)[p]?.getD .non = A at *
          simp only [eVar, eC, eOp, eT, eAnd, eOr, eNot, eIf, eAndV, eOrV, eNotV, eCall, aNil, aCons, aStar, sOf, eTup, eFl, eLoc, eSl, oNone, oSome, iOf, eNeg, eChain, eMt, bOf, eDict0, eRev, eListRg, iZipD, sRaise1, sRaise0, eCallV, List.lookup, R.bind_ok, R.bind_er, R.bind_stuck, R.toS_ok, R.toS_er, R.toS_stuck, SR.next_nx, SR.next_rt, SR.next_er, SR.next_bk, SR.next_ct, SR.next_stuck, sNil, sSeq, sBrk, sCnt, sExp, sRet, sRetN, sIf, sSet, sAsg, sAug, sPar2, sPar3, tN, DL.tTup, DL.tNil, DL.tCons, DL.tSub, iSeq, srcOf_tup, srcOf_fl, srcOf_kl, srcOf_ti, iRange1, iRange2, sFor, startD, List.map_cons, List.map_nil, List.length_cons, List.length_nil, List.replicate, List.cons_append, List.nil_append, List.getElem?_cons_zero, List.getElem?_cons_succ, List.set_cons_zero, List.set_cons_succ, dSub_int, dFdiv_int, dMod_int, dLt_int, dLe_int, dGt_int, dGe_int, dAddI_int, dSubI_int, dIsN_non, isN, dAdd_int, ll0, ll1, ll2, ll3, ll4, ll5, ll6, ll7, ll8, ll9, ll10, ll11, ll12, ll13, ll14, ll15, ll16, ll17, ll18, ll19, ll20, ll21, ll22, ll23, ll24, ll25, ll26, ll27, ll28, ll29, ll30, ll31, ll32, ll33, ll34, ll35, ll36, ll37, ll38, ll39, ll40, Nat.reduceSub, Nat.reduceAdd, Nat.reduceEqDiff, if_true, if_false, ifp_t, ifp_f, reduceIte, Bool.true_eq_false, Bool.false_eq_true, Option.map_some, Option.map_none, Option.bind_some, Option.bind_none, eFld, eMth, eNew, sMatch, cText, cAny, cNil, tAttr, Q1_select, ix, he, Int.toNat_natCast]
        · simp only [eVar, eC, eOp, eT, eAnd, eOr, eNot, eIf, eAndV, eOrV, eNotV, eCall, aNil, aCons, aStar, sOf, eTup, eFl, eLoc, eSl, oNone, oSome, iOf, eNeg, eChain, eMt, bOf, eDict0, eRev, eListRg, iZipD, sRaise1, sRaise0, eCallV, List.lookup, R.bind_ok, R.bind_er, R.bind_stuck, R.toS_ok, R.toS_er, R.toS_stuck, SR.next_nx, SR.next_rt, SR.next_er, SR.next_bk, SR.next_ct, SR.next_stuck, sNil, sSeq, sBrk, sCnt, sExp, sRet, sRetN, sIf, sSet, sAsg, sAug, sPar2, sPar3, tN, DL.tTup, DL.tNil, DL.tCons, DL.tSub, iSeq, srcOf_tup, srcOf_fl, srcOf_kl, srcOf_ti, iRange1, iRange2, sFor, startD, List.map_cons, List.map_nil, List.length_cons, List.length_nil, List.replicate, List.cons_append, List.nil_append, List.getElem?_cons_zero, List.getElem?_cons_succ, List.set_cons_zero, List.set_cons_succ, dSub_int, dFdiv_int, dMod_int, dLt_int, dLe_int, dGt_int, dGe_int, dAddI_int, dSubI_int, dIsN_non, isN, dAdd_int, ll0, ll1, ll2, ll3, ll4, ll5, ll6, ll7, ll8, ll9, ll10, ll11, ll12, ll13, ll14, ll15, ll16, ll17, ll18, ll19, ll20, ll21, ll22, ll23, ll24, ll25, ll26, ll27, ll28, ll29, ll30, ll31, ll32, ll33, ll34, ll35, ll36, ll37, ll38, ll39, ll40, Nat.reduceSub, Nat.reduceAdd, Nat.reduceEqDiff, if_true, if_false, ifp_t, ifp_f, reduceIte, Bool.true_eq_false, Bool.false_eq_true, Option.map_some, Option.map_none, Option.bind_some, Option.bind_none, eFld, eMth, eNew, sMatch, cText, cAny, cNil, tAttr, E1_select]) (by unfold ni; rw [List.length_map]; exact Nat.le_trans hfl (by decide)) (fun d hd _ => by
        obtain ⟨p, _, rfl⟩ := List.mem_map.mp hd
        rfl)
    have e : ((ni found).filter (fun d => match d with | .int p => hitB ((vls l nm)[p.toNat]?.getD .non) v | _ => false)).map (fun d => d) = ni (found.filter fun p => hitB ((vls l nm)[p]?.getD .non) v) := by
      unfold ni
      rw [List.map_id', List.filter_map]
      rfl
    rw [e] at key
    generalize vls l nm = VL at *
    simp only [eVar, eC, eOp, eT, eAnd, eOr, eNot, eIf, eAndV, eOrV, eNotV, eCall, aNil, aCons, aStar, sOf, eTup, eFl, eLoc, eSl, oNone, oSome, iOf, eNeg, eChain, eMt, bOf, eDict0, eRev, eListRg, iZipD, sRaise1, sRaise0, eCallV, List.lookup, R.bind_ok, R.bind_er, R.bind_stuck, R.toS_ok, R.toS_er, R.toS_stuck, SR.next_nx, SR.next_rt, SR.next_er, SR.next_bk, SR.next_ct, SR.next_stuck, sNil, sSeq, sBrk, sCnt, sExp, sRet, sRetN, sIf, sSet, sAsg, sAug, sPar2, sPar3, tN, DL.tTup, DL.tNil, DL.tCons, DL.tSub, iSeq, srcOf_tup, srcOf_fl, srcOf_kl, srcOf_ti, iRange1, iRange2, sFor, startD, List.map_cons, List.map_nil, List.length_cons, List.length_nil, List.replicate, List.cons_append, List.nil_append, List.getElem?_cons_zero, List.getElem?_cons_succ, List.set_cons_zero, List.set_cons_succ, dSub_int, dFdiv_int, dMod_int, dLt_int, dLe_int, dGt_int, dGe_int, dAddI_int, dSubI_int, dIsN_non, isN, dAdd_int, ll0, ll1, ll2, ll3, ll4, ll5, ll6, ll7, ll8, ll9, ll10, ll11, ll12, ll13, ll14, ll15, ll16, ll17, ll18, ll19, ll20, ll21, ll22, ll23, ll24, ll25, ll26, ll27, ll28, ll29, ll30, ll31, ll32, ll33, ll34, ll35, ll36, ll37, ll38, ll39, ll40, Nat.reduceSub, Nat.reduceAdd, Nat.reduceEqDiff, if_true, if_false, ifp_t, ifp_f, reduceIte, Bool.true_eq_false, Bool.false_eq_true, Option.map_some, Option.map_none, Option.bind_some, Option.bind_none, eFld, eMth, eNew, sMatch, cText, cAny, cNil, tAttr, L2_select, iw, Bool.not_true, vo, key]
theorem sel_loop (l : List Int) (h0 : 0 < l.length) (hl : l.length ≤ 10 ^ 5) (x1 : Option D) (S : Sto) : ∀ (kvs : List (Str × D)) (found : List Nat) (x2 x4 x5 x6 : Option D), (∀ q ∈ kvs, pl q.2 = true) → (∀ p ∈ found, p < l.length) → found.length ≤ 10 ^ 5 →
    (match selF l kvs found with
    | .ok f => ∃ y2 y4 y5 y6, forD yes (tTup 2 (tCons (tN 2) (tCons (tN 4) tNil))) L2_select sNil (kvs.map fun q => .tup [.str q.1, q.2]) [some (ti l), x1, x2, some (.fl (ni found)), x4, x5, x6] S = .nx [some (ti l), x1, y2, some (.fl (ni f)), y4, y5, y6] S
    | .error v => ∃ ρ', forD yes (tTup 2 (tCons (tN 2) (tCons (tN 4) tNil))) L2_select sNil (kvs.map fun q => .tup [.str q.1, q.2]) [some (ti l), x1, x2, some (.fl (ni found)), x4, x5, x6] S = .er ⟨.own "BadWish", [("value", v)]⟩ ρ' S)
  | [], found, x2, x4, x5, x6, _, _, _ => ⟨x2, x4, x5, x6, by
      show forD yes _ L2_select sNil [] _ _ = _
      rw [forD_nil trivial]; rfl⟩
  | (nm, v) :: kvs, found, x2, x4, x5, x6, hv, hf, hfl => by
    have hT : tTup 2 (tCons (tN 2) (tCons (tN 4) tNil)) (.tup [.str nm, v]) [some (ti l), x1, x2, some (.fl (ni found)), x4, x5, x6] S = some ([some (ti l), x1, some (.str nm), some (.fl (ni found)), some v, x5, x6], S) := rfl
    have st := sel_step l h0 hl x1 x5 x6 S nm (hv _ List.mem_cons_self) found hf hfl
    unfold selF
    cases hk : okW nm v with
    | true =>
      rw [hk, if_pos rfl] at st
      have ih := sel_loop l h0 hl x1 S kvs (found.filter fun p => hitB ((vls l nm)[p]?.getD .non) v) (some (.str nm)) (some v) (some (.fl (vls l nm))) x6 (fun q hq => hv q (List.mem_cons_of_mem _ hq)) (fun p hp => hf p (List.mem_filter.mp hp).1) (Nat.le_trans (List.length_filter_le _ _) hfl)
      rw [if_pos rfl, List.map_cons, forD_cons (g := yes) (T := tTup 2 (tCons (tN 2) (tCons (tN 4) tNil))) (B := L2_select) (Z := sNil) (ds := kvs.map fun q => .tup [.str q.1, q.2]) True.intro hT st]
      exact ih
    | false =>
      rw [hk, if_neg (by decide)] at st
      rw [if_neg (by decide)]
      refine ⟨[some (ti l), x1, some (.str nm), some (.fl (ni found)), some v, x5, x6], ?_⟩
      rw [List.map_cons]
      unfold forD
      rw [if_pos (show yes S from trivial), hT]
      simp only [st]
theorem keysD_kw : ∀ (ks : List Str) (zs : List D), zs.length = ks.length → keysD (kwD ks zs) = ks.map D.str
  | [], _, _ => rfl
  | k :: ks, [], h => by simp at h
  | k :: ks, z :: zs, h => by
    have := keysD_kw ks zs (by simpa using h)
    show D.str k :: keysD (kwD ks zs) = _
    rw [this]; rfl
theorem itemsD_kw : ∀ (ks : List Str) (zs : List D), itemsD (kwD ks zs) = (ks.zip zs).map fun q => .tup [.str q.1, q.2]
  | [], _ => rfl
  | k :: ks, [] => rfl
  | k :: ks, z :: zs => by
    have := itemsD_kw ks zs
    show D.tup [.str k, z] :: itemsD (kwD ks zs) = _
    rw [this]; rfl
theorem range_ni (n : Nat) : rangeD 0 n = ni (List.range n) := by
  unfold rangeD ni
  apply List.map_congr_left
  intro k _
  simp
theorem select_any (ks : List Str) (zs : List D) (hz : zs.length = ks.length) (hp : ∀ v ∈ zs, pl v = true) (l : List Int) (h0 : 0 < l.length) (hl : l.length ≤ 10 ^ 5) (S : Sto) :
    match ks.find? fun k => !isProp k with
    | some n => F_select ks (ti l :: zs) S = .er ⟨.own "NoProperty", [("name", .str n)]⟩ (S ++ [.dtt (kwD ks zs)])
    | none => match selF l (ks.zip zs) (List.range l.length) with
      | .ok f => F_select ks (ti l :: zs) S = .ok (.tup (ni f)) (S ++ [.dtt (kwD ks zs)])
      | .error v => F_select ks (ti l :: zs) S = .er ⟨.own "BadWish", [("value", v)]⟩ (S ++ [.dtt (kwD ks zs)]) := by
  have e0 : F_select ks (ti l :: zs) S = fnC close 7 2 B_select [ti l, .loc S.length] (S ++ [.dtt (kwD ks zs)]) := by
    unfold F_select fnKw
    simp only
    rw [if_pos hz]
  have at1 : (S ++ [.dtt (kwD ks zs)] : Sto)[S.length]? = some (.dtt (kwD ks zs)) := by simp
  have ik : ∀ x0 x2 x3 x4 x5 x6, iKeysD (eVar 1) [x0, some (.loc S.length), x2, x3, x4, x5, x6] (S ++ [.dtt (kwD ks zs)]) = .ok (ks.map D.str, yes) (S ++ [.dtt (kwD ks zs)]) := fun x0 x2 x3 x4 x5 x6 => by
    rw [← keysD_kw ks zs hz]
    simp only [eVar, eC, eOp, eT, eAnd, eOr, eNot, eIf, eAndV, eOrV, eNotV, eCall, aNil, aCons, aStar, sOf, eTup, eFl, eLoc, eSl, oNone, oSome, iOf, eNeg, eChain, eMt, bOf, eDict0, eRev, eListRg, iZipD, sRaise1, sRaise0, eCallV, List.lookup, R.bind_ok, R.bind_er, R.bind_stuck, R.toS_ok, R.toS_er, R.toS_stuck, SR.next_nx, SR.next_rt, SR.next_er, SR.next_bk, SR.next_ct, SR.next_stuck, sNil, sSeq, sBrk, sCnt, sExp, sRet, sRetN, sIf, sSet, sAsg, sAug, sPar2, sPar3, tN, DL.tTup, DL.tNil, DL.tCons, DL.tSub, iSeq, srcOf_tup, srcOf_fl, srcOf_kl, srcOf_ti, iRange1, iRange2, sFor, startD, List.map_cons, List.map_nil, List.length_cons, List.length_nil, List.replicate, List.cons_append, List.nil_append, List.getElem?_cons_zero, List.getElem?_cons_succ, List.set_cons_zero, List.set_cons_succ, dSub_int, dFdiv_int, dMod_int, dLt_int, dLe_int, dGt_int, dGe_int, dAddI_int, dSubI_int, dIsN_non, isN, dAdd_int, ll0, ll1, ll2, ll3, ll4, ll5, ll6, ll7, ll8, ll9, ll10, ll11, ll12, ll13, ll14, ll15, ll16, ll17, ll18, ll19, ll20, ll21, ll22, ll23, ll24, ll25, ll26, ll27, ll28, ll29, ll30, ll31, ll32, ll33, ll34, ll35, ll36, ll37, ll38, ll39, ll40, Nat.reduceSub, Nat.reduceAdd, Nat.reduceEqDiff, if_true, if_false, ifp_t, ifp_f, reduceIte, Bool.true_eq_false, Bool.false_eq_true, Option.map_some, Option.map_none, Option.bind_some, Option.bind_none, eFld, eMth, eNew, sMatch, cText, cAny, cNil, tAttr, iKeysD, at1]
  have ii : ∀ x0 x2 x3 x4 x5 x6, iItemsD (eVar 1) [x0, some (.loc S.length), x2, x3, x4, x5, x6] (S ++ [.dtt (kwD ks zs)]) = .ok ((ks.zip zs).map fun q => .tup [.str q.1, q.2], yes) (S ++ [.dtt (kwD ks zs)]) := fun x0 x2 x3 x4 x5 x6 => by
    rw [← itemsD_kw ks zs]
    simp only [eVar, eC, eOp, eT, eAnd, eOr, eNot, eIf, eAndV, eOrV, eNotV, eCall, aNil, aCons, aStar, sOf, eTup, eFl, eLoc, eSl, oNone, oSome, iOf, eNeg, eChain, eMt, bOf, eDict0, eRev, eListRg, iZipD, sRaise1, sRaise0, eCallV, List.lookup, R.bind_ok, R.bind_er, R.bind_stuck, R.toS_ok, R.toS_er, R.toS_stuck, SR.next_nx, SR.next_rt, SR.next_er, SR.next_bk, SR.next_ct, SR.next_stuck, sNil, sSeq, sBrk, sCnt, sExp, sRet, sRetN, sIf, sSet, sAsg, sAug, sPar2, sPar3, tN, DL.tTup, DL.tNil, DL.tCons, DL.tSub, iSeq, srcOf_tup, srcOf_fl, srcOf_kl, srcOf_ti, iRange1, iRange2, sFor, startD, List.map_cons, List.map_nil, List.length_cons, List.length_nil, List.replicate, List.cons_append, List.nil_append, List.getElem?_cons_zero, List.getElem?_cons_succ, List.set_cons_zero, List.set_cons_succ, dSub_int, dFdiv_int, dMod_int, dLt_int, dLe_int, dGt_int, dGe_int, dAddI_int, dSubI_int, dIsN_non, isN, dAdd_int, ll0, ll1, ll2, ll3, ll4, ll5, ll6, ll7, ll8, ll9, ll10, ll11, ll12, ll13, ll14, ll15, ll16, ll17, ll18, ll19, ll20, ll21, ll22, ll23, ll24, ll25, ll26, ll27, ll28, ll29, ll30, ll31, ll32, ll33, ll34, ll35, ll36, ll37, ll38, ll39, ll40, Nat.reduceSub, Nat.reduceAdd, Nat.reduceEqDiff, if_true, if_false, ifp_t, ifp_f, reduceIte, Bool.true_eq_false, Bool.false_eq_true, Option.map_some, Option.map_none, Option.bind_some, Option.bind_none, eFld, eMth, eNew, sMatch, cText, cAny, cNil, tAttr, iItemsD, at1]
  have hst : startD 7 [ti l, D.loc S.length] = [some (ti l), some (.loc S.length), none, none, none, none, none] := rfl
  have kl := key_loop (some (ti l)) (some (.loc S.length)) [none, none, none, none] (S ++ [.dtt (kwD ks zs)]) ks none
  rw [e0]
  generalize hS1 : (S ++ [.dtt (kwD ks zs)] : Sto) = S1 at *
  cases hf : ks.find? fun k => !isProp k with
  | some n =>
    rw [hf] at kl
    obtain ⟨ρ', kl⟩ := kl
    dsimp only
    refine fnC_er rfl (ρ := ρ') ?_ rfl
    rw [hst]
    unfold B_select
    generalize ks.map D.str = KS at *
    simp only [eVar, eC, eOp, eT, eAnd, eOr, eNot, eIf, eAndV, eOrV, eNotV, eCall, aNil, aCons, aStar, sOf, eTup, eFl, eLoc, eSl, oNone, oSome, iOf, eNeg, eChain, eMt, bOf, eDict0, eRev, eListRg, iZipD, sRaise1, sRaise0, eCallV, List.lookup, R.bind_ok, R.bind_er, R.bind_stuck, R.toS_ok, R.toS_er, R.toS_stuck, SR.next_nx, SR.next_rt, SR.next_er, SR.next_bk, SR.next_ct, SR.next_stuck, sNil, sSeq, sBrk, sCnt, sExp, sRet, sRetN, sIf, sSet, sAsg, sAug, sPar2, sPar3, tN, DL.tTup, DL.tNil, DL.tCons, DL.tSub, iSeq, srcOf_tup, srcOf_fl, srcOf_kl, srcOf_ti, iRange1, iRange2, sFor, startD, List.map_cons, List.map_nil, List.length_cons, List.length_nil, List.replicate, List.cons_append, List.nil_append, List.getElem?_cons_zero, List.getElem?_cons_succ, List.set_cons_zero, List.set_cons_succ, dSub_int, dFdiv_int, dMod_int, dLt_int, dLe_int, dGt_int, dGe_int, dAddI_int, dSubI_int, dIsN_non, isN, dAdd_int, ll0, ll1, ll2, ll3, ll4, ll5, ll6, ll7, ll8, ll9, ll10, ll11, ll12, ll13, ll14, ll15, ll16, ll17, ll18, ll19, ll20, ll21, ll22, ll23, ll24, ll25, ll26, ll27, ll28, ll29, ll30, ll31, ll32, ll33, ll34, ll35, ll36, ll37, ll38, ll39, ll40, Nat.reduceSub, Nat.reduceAdd, Nat.reduceEqDiff, if_true, if_false, ifp_t, ifp_f, reduceIte, Bool.true_eq_false, Bool.false_eq_true, Option.map_some, Option.map_none, Option.bind_some, Option.bind_none, eFld, eMth, eNew, sMatch, cText, cAny, cNil, tAttr, ik, kl]
  | none =>
    rw [hf] at kl
    obtain ⟨y2, kl⟩ := kl
    dsimp only
    have sl := sel_loop l h0 hl (some (.loc S.length)) S1 (ks.zip zs) (List.range l.length) y2 none none none (fun q hq => hp _ (List.of_mem_zip hq).2) (fun p hp => List.mem_range.mp hp) (by simpa using hl)
    have lr2 : ∀ S, (ifp (RgOk 0 (l.length : Int)) (mkFl (rangeD 0 (l.length : Int).toNat) S) .stuck : R D) = .ok (.fl (ni (List.range l.length))) S := fun S => by
      rw [ifp_pos (show RgOk 0 (l.length : Int) from ⟨by omega, by omega, by omega, by omega, by omega⟩), ← range_ni]
      rfl
    have bt : ∀ (f : List Nat) S, bTuple [.fl (ni f)] S = .ok (.tup (ni f)) S := fun f S => rfl
    cases hs : selF l (ks.zip zs) (List.range l.length) with
    | ok f =>
      rw [hs] at sl
      obtain ⟨z2, z4, z5, z6, sl⟩ := sl
      dsimp only
      refine fnC_rt rfl ?_ rfl
      rw [hst]
      unfold B_select
      generalize ks.map D.str = KS at *
      generalize ((ks.zip zs).map fun q => D.tup [.str q.1, q.2]) = KZ at *
      generalize ni (List.range l.length) = NR at *
      simp only [eVar, eC, eOp, eT, eAnd, eOr, eNot, eIf, eAndV, eOrV, eNotV, eCall, aNil, aCons, aStar, sOf, eTup, eFl, eLoc, eSl, oNone, oSome, iOf, eNeg, eChain, eMt, bOf, eDict0, eRev, eListRg, iZipD, sRaise1, sRaise0, eCallV, List.lookup, R.bind_ok, R.bind_er, R.bind_stuck, R.toS_ok, R.toS_er, R.toS_stuck, SR.next_nx, SR.next_rt, SR.next_er, SR.next_bk, SR.next_ct, SR.next_stuck, sNil, sSeq, sBrk, sCnt, sExp, sRet, sRetN, sIf, sSet, sAsg, sAug, sPar2, sPar3, tN, DL.tTup, DL.tNil, DL.tCons, DL.tSub, iSeq, srcOf_tup, srcOf_fl, srcOf_kl, srcOf_ti, iRange1, iRange2, sFor, startD, List.map_cons, List.map_nil, List.length_cons, List.length_nil, List.replicate, List.cons_append, List.nil_append, List.getElem?_cons_zero, List.getElem?_cons_succ, List.set_cons_zero, List.set_cons_succ, dSub_int, dFdiv_int, dMod_int, dLt_int, dLe_int, dGt_int, dGe_int, dAddI_int, dSubI_int, dIsN_non, isN, dAdd_int, ll0, ll1, ll2, ll3, ll4, ll5, ll6, ll7, ll8, ll9, ll10, ll11, ll12, ll13, ll14, ll15, ll16, ll17, ll18, ll19, ll20, ll21, ll22, ll23, ll24, ll25, ll26, ll27, ll28, ll29, ll30, ll31, ll32, ll33, ll34, ll35, ll36, ll37, ll38, ll39, ll40, Nat.reduceSub, Nat.reduceAdd, Nat.reduceEqDiff, if_true, if_false, ifp_t, ifp_f, reduceIte, Bool.true_eq_false, Bool.false_eq_true, Option.map_some, Option.map_none, Option.bind_some, Option.bind_none, eFld, eMth, eNew, sMatch, cText, cAny, cNil, tAttr, ik, kl, eListRg, ti_len, lr2, ii, sl, bt]
    | error v =>
      rw [hs] at sl
      obtain ⟨ρ', sl⟩ := sl
      dsimp only
      refine fnC_er rfl (ρ := ρ') ?_ rfl
      rw [hst]
      unfold B_select
      generalize ks.map D.str = KS at *
      generalize ((ks.zip zs).map fun q => D.tup [.str q.1, q.2]) = KZ at *
      generalize ni (List.range l.length) = NR at *
      simp only [eVar, eC, eOp, eT, eAnd, eOr, eNot, eIf, eAndV, eOrV, eNotV, eCall, aNil, aCons, aStar, sOf, eTup, eFl, eLoc, eSl, oNone, oSome, iOf, eNeg, eChain, eMt, bOf, eDict0, eRev, eListRg, iZipD, sRaise1, sRaise0, eCallV, List.lookup, R.bind_ok, R.bind_er, R.bind_stuck, R.toS_ok, R.toS_er, R.toS_stuck, SR.next_nx, SR.next_rt, SR.next_er, SR.next_bk, SR.next_ct, SR.next_stuck, sNil, sSeq, sBrk, sCnt, sExp, sRet, sRetN, sIf, sSet, sAsg, sAug, sPar2, sPar3, tN, DL.tTup, DL.tNil, DL.tCons, DL.tSub, iSeq, srcOf_tup, srcOf_fl, srcOf_kl, srcOf_ti, iRange1, iRange2, sFor, startD, List.map_cons, List.map_nil, List.length_cons, List.length_nil, List.replicate, List.cons_append, List.nil_append, List.getElem?_cons_zero, List.getElem?_cons_succ, List.set_cons_zero, List.set_cons_succ, dSub_int, dFdiv_int, dMod_int, dLt_int, dLe_int, dGt_int, dGe_int, dAddI_int, dSubI_int, dIsN_non, isN, dAdd_int, ll0, ll1, ll2, ll3, ll4, ll5, ll6, ll7, ll8, ll9, ll10, ll11, ll12, ll13, ll14, ll15, ll16, ll17, ll18, ll19, ll20, ll21, ll22, ll23, ll24, ll25, ll26, ll27, ll28, ll29, ll30, ll31, ll32, ll33, ll34, ll35, ll36, ll37, ll38, ll39, ll40, Nat.reduceSub, Nat.reduceAdd, Nat.reduceEqDiff, if_true, if_false, ifp_t, ifp_f, reduceIte, Bool.true_eq_false, Bool.false_eq_true, Option.map_some, Option.map_none, Option.bind_some, Option.bind_none, eFld, eMth, eNew, sMatch, cText, cAny, cNil, tAttr, ik, kl, eListRg, ti_len, lr2, ii, sl]
end DL
namespace TX
open PySem PySem.Spec L2 DL
open PyProof.Rows hiding St
def topS (i : Nat) : Stmt := PySem.Challenge.pw_ringpostfix_k43_places_selected.main.body.getD i (.Pass ⟨0, 0, 0, 0⟩)
abbrev st__law_stream : Stmt := topS 23
abbrev nm__law_stream : List Str := ["_law_script", "_law_cells", "_law_cell"]
abbrev st__law_draw : Stmt := topS 24
abbrev nm__law_draw : List Str := ["_law_stream_here", "_law_many", "_law_rest", "_law_turn", "_law_cell", "_law_mixed"]
abbrev st__law_pick : Stmt := topS 25
abbrev nm__law_pick : List Str := ["_law_stream_here", "_law_items"]
abbrev st__law_ring : Stmt := topS 26
abbrev nm__law_ring : List Str := ["_law_stream_here", "_law_most", "_law_menus", "_law_menu", "_law_size", "_law_tokens", "_law_goal", "_law_turn", "_law_place", "_law_over", "_law_k"]
abbrev st__law_missing : Stmt := topS 27
abbrev nm__law_missing : List Str := ["_law_row", "_law_depth", "_law_missing_here", "_law_token"]
abbrev st__law_from : Stmt := topS 28
abbrev nm__law_from : List Str := ["_law_ring_here", "_law_place"]
abbrev st__law_begins : Stmt := topS 29
abbrev nm__law_begins : List Str := ["_law_ring_here", "_law_place"]
abbrev st__law_links : Stmt := topS 30
abbrev nm__law_links : List Str := ["_law_ring_here", "_law_size", "_law_stack", "_law_given", "_law_found", "_law_number", "_law_taken", "_law_k", "_law_one"]
abbrev st__law_due : Stmt := topS 32
abbrev nm__law_due : List Str := ["_law_rows", "_law_way", "_law_wish", "_law_used", "_law_due_here", "_law_place", "_law_row", "_law_k"]
abbrev st_is_wish : Stmt := topS 19
abbrev nm_is_wish : List Str := ["name", "value"]
abbrev st_later_places : Stmt := topS 13
abbrev nm_later_places : List Str := ["ring", "place", "step"]
abbrev st_find_taker : Stmt := topS 14
abbrev nm_find_taker : List Str := ["ring", "place", "above", "other"]
abbrev st_takersZ : Stmt := topS 15
abbrev nm_takersZ : List Str := ["ring", "place"]
abbrev st_lacks : Stmt := topS 16
abbrev nm_lacks : List Str := ["ring", "given", "place", "arity"]
abbrev st_heights_of : Stmt := topS 9
abbrev nm_heights_of : List Str := ["row", "found", "height", "arity"]
abbrev st_need_of : Stmt := topS 10
abbrev nm_need_of : List Str := ["row"]
abbrev st_is_integer : Stmt := topS 6
abbrev nm_is_integer : List Str := ["value", "low", "high"]
abbrev st_check_place : Stmt := topS 7
abbrev nm_check_place : List Str := ["ring", "value"]
abbrev st_turned : Stmt := topS 8
abbrev nm_turned : List Str := ["ring", "place"]
abbrev st_need : Stmt := topS 11
abbrev nm_need : List Str := ["ring", "place"]
abbrev st_values_of : Stmt := topS 20
abbrev nm_values_of : List Str := ["ring", "name", "place", "many"]
abbrev st_select : Stmt := topS 21
abbrev nm_select : List Str := ["ring", "wanted", "name", "found", "value", "values", "place"]
abbrev st__law_selected : Stmt := topS 31
abbrev nm__law_selected : List Str := ["_law_ring_here", "_law_way", "_law_wish"]
abbrev st_law : Stmt := topS 33
abbrev nm_law : List Str := ["_law_script", "_law_stream_here", "_law_turn", "_law_ring_here", "_law_shown", "_law_starts", "_law_rows", "_law_ends", "_law_given", "_law_place", "_law_token", "_law_way", "_law_many", "_law_wish", "_law_due_here", "_law_again", "_law_k"]
noncomputable def E1__law_due (ρ : Ev) (S : Sto) : R D :=
  (eVar 7) ρ S
noncomputable def Q1__law_due (ρ : Ev) (S : Sto) : R Bool :=
  (eT (eOp (dEq true) (eOp dIx (eVar 2) (eVar 7)) (eOp dIx (eVar 6) (eVar 7)))) ρ S
noncomputable def L1__law_due (ρ : Ev) (S : Sto) : SR :=
  (sIf (eT (eOp (dEqY false) (eLc finFl (iSeq (eVar 3)) (tN 7) [7] Q1__law_due E1__law_due) (eFl aNil))) (sExp (eMt isLst mAppend (eVar 4) (aCons (eVar 5) aNil))) sNil) ρ S
noncomputable def B__law_due : Ev → Sto → SR :=
  (sSeq (sPar2 3 4 (aCons (eOp dIx (eFl (aCons (eFl aNil) (aCons (eFl (aCons (eC (.int 0)) aNil)) (aCons (eFl (aCons (eC (.int 1)) aNil)) (aCons (eFl (aCons (eC (.int 2)) aNil)) (aCons (eFl (aCons (eC (.int 3)) aNil)) (aCons (eFl (aCons (eC (.int 0)) (aCons (eC (.int 2)) aNil))) (aCons (eFl (aCons (eC (.int 1)) (aCons (eC (.int 3)) aNil))) (aCons (eFl (aCons (eC (.int 0)) (aCons (eC (.int 1)) (aCons (eC (.int 3)) aNil)))) (aCons (eFl (aCons (eC (.int 0)) (aCons (eC (.int 1)) (aCons (eC (.int 2)) (aCons (eC (.int 3)) aNil))))) aNil)))))))))) (eVar 1)) (aCons (eLoc aNil) aNil)))
    (sSeq (sFor (iEnumD (aCons (eVar 0) aNil)) (tTup 2 (tCons (tN 5) (tCons (tN 6) tNil))) L1__law_due sNil)
    (sRet (eCall bTuple (aCons (eVar 4) aNil)))))
noncomputable def F__law_due : Fn := fnC close 8 3 B__law_due
noncomputable def B__law_selected : Ev → Sto → SR :=
  (sSeq (sIf (eT (eOp (dEq false) (eVar 1) (eC (.int 0)))) (sRet (eCall (F_select []) (aCons (eVar 0) aNil))) sNil)
    (sSeq (sIf (eT (eOp (dEq false) (eVar 1) (eC (.int 1)))) (sRet (eCallK 1 (F_select ["arity"]) (aCons (eVar 0) aNil) (aCons (eOp dIx (eVar 2) (eC (.int 0))) aNil))) sNil)
    (sSeq (sIf (eT (eOp (dEq false) (eVar 1) (eC (.int 2)))) (sRet (eCallK 1 (F_select ["beginning"]) (aCons (eVar 0) aNil) (aCons (eOp dIx (eVar 2) (eC (.int 1))) aNil))) sNil)
    (sSeq (sIf (eT (eOp (dEq false) (eVar 1) (eC (.int 3)))) (sRet (eCallK 1 (F_select ["free"]) (aCons (eVar 0) aNil) (aCons (eOp dIx (eVar 2) (eC (.int 2))) aNil))) sNil)
    (sSeq (sIf (eT (eOp (dEq false) (eVar 1) (eC (.int 4)))) (sRet (eCallK 1 (F_select ["lacking"]) (aCons (eVar 0) aNil) (aCons (eOp dIx (eVar 2) (eC (.int 3))) aNil))) sNil)
    (sSeq (sIf (eT (eOp (dEq false) (eVar 1) (eC (.int 5)))) (sRet (eCallK 2 (F_select ["free", "arity"]) (aCons (eVar 0) aNil) (aCons (eOp dIx (eVar 2) (eC (.int 2))) (aCons (eOp dIx (eVar 2) (eC (.int 0))) aNil)))) sNil)
    (sSeq (sIf (eT (eOp (dEq false) (eVar 1) (eC (.int 6)))) (sRet (eCallK 2 (F_select ["beginning", "lacking"]) (aCons (eVar 0) aNil) (aCons (eOp dIx (eVar 2) (eC (.int 1))) (aCons (eOp dIx (eVar 2) (eC (.int 3))) aNil)))) sNil)
    (sSeq (sIf (eT (eOp (dEq false) (eVar 1) (eC (.int 7)))) (sRet (eCallK 3 (F_select ["lacking", "arity", "beginning"]) (aCons (eVar 0) aNil) (aCons (eOp dIx (eVar 2) (eC (.int 3))) (aCons (eOp dIx (eVar 2) (eC (.int 0))) (aCons (eOp dIx (eVar 2) (eC (.int 1))) aNil))))) sNil)
    (sRet (eCallK 4 (F_select ["arity", "beginning", "free", "lacking"]) (aCons (eVar 0) aNil) (aCons (eOp dIx (eVar 2) (eC (.int 0))) (aCons (eOp dIx (eVar 2) (eC (.int 1))) (aCons (eOp dIx (eVar 2) (eC (.int 2))) (aCons (eOp dIx (eVar 2) (eC (.int 3))) aNil))))))))))))))
noncomputable def F__law_selected : Fn := fnC close 3 3 B__law_selected
noncomputable def L1_law (ρ : Ev) (S : Sto) : SR :=
  (sExp (eMt isLst mAppend (eVar 6) (aCons (eFl (aCons (eVar 10) (aCons (eOp (dIn false) (eVar 9) (eVar 5)) (aCons (eOp (dIsN false) (eOp dIx (eVar 7) (eVar 9)) (eC .non)) (aCons (eOp (dIn false) (eC .non) (eOp dIx (eVar 8) (eVar 9))) aNil))))) aNil))) ρ S
noncomputable def E1_law (ρ : Ev) (S : Sto) : R D :=
  (eOp (dEq false) (eCall F__law_draw (aCons (eVar 1) (aCons (eC (.int 2)) aNil))) (eC (.int 0))) ρ S
noncomputable def L2_law (ρ : Ev) (S : Sto) : SR :=
  (sIf (eOr (eT (eOp (dEq true) (eCall bRepr (aCons (eCall F__law_selected (aCons (eVar 3) (aCons (eVar 11) (aCons (eVar 13) aNil)))) aNil)) (eVar 14))) (eT (eOp (dEq true) (eCall bRepr (aCons (eVar 3) aNil)) (eVar 4)))) (sRet (eC (.bl false))) sNil) ρ S
noncomputable def L3_law (ρ : Ev) (S : Sto) : SR :=
  (sSeq (sSet 12 (eOp dIx (eFl (aCons (eCall F__law_draw (aCons (eVar 1) (aCons (eC (.int 6)) aNil))) (aCons (eCall F__law_pick (aCons (eVar 1) (aCons (eVar 3) aNil))) (aCons (eNeg (eC (.int 1))) (aCons (eOp dPow (eC (.int 10)) (eC (.int 29))) aNil))))) (eCall F__law_draw (aCons (eVar 1) (aCons (eC (.int 4)) aNil)))))
    (sSeq (sSet 13 (eOp dAdd (eFl (aCons (eVar 12) aNil)) (eLc finFl (iRange1 (aCons (eC (.int 3)) aNil)) (tN 16) [16] cYes E1_law)))
    (sSeq (sSet 14 (eCall bRepr (aCons (eCall F__law_due (aCons (eVar 6) (aCons (eVar 11) (aCons (eVar 13) aNil)))) aNil)))
    (sFor (iRange1 (aCons (eC (.int 2)) aNil)) (tN 15) L2_law sNil)))) ρ S
noncomputable def L4_law (ρ : Ev) (S : Sto) : SR :=
  (sSeq (sSet 3 (eCall F__law_ring (aCons (eVar 1) (aCons (eC (.int 24)) aNil))))
    (sSeq (sPar3 4 5 6 (aCons (eCall bRepr (aCons (eVar 3) aNil)) (aCons (eCall F__law_begins (aCons (eVar 3) aNil)) (aCons (eLoc aNil) aNil))))
    (sSeq (sAsg (eCall F__law_links (aCons (eVar 3) aNil)) (tSq 2 (tCons (tN 7) (tCons (tN 8) tNil))))
    (sSeq (sFor (iEnumD (aCons (eVar 3) aNil)) (tTup 2 (tCons (tN 9) (tCons (tN 10) tNil))) L1_law sNil)
    (sFor (iRange1 (aCons (eC (.int 9)) aNil)) (tN 11) L3_law sNil))))) ρ S
noncomputable def B_law : Ev → Sto → SR :=
  (sSeq (sSet 1 (eCall F__law_stream (aCons (eVar 0) aNil)))
    (sSeq (sFor (iRange1 (aCons (eC (.int 5)) aNil)) (tN 2) L4_law sNil)
    (sRet (eC (.bl true)))))
noncomputable def F_law : Fn := fnC close 17 1 B_law
end TX
namespace TX
open PySem PySem.Spec L2 DL
open PyProof.Rows hiding St
def out (ks : List Str) (zs : List D) (l : List Int) : Except Ex (List Nat) := match ks.find? fun k => !isProp k with
  | some n => .error ⟨.own "NoProperty", [("name", .str n)]⟩
  | none => match selF l (ks.zip zs) (List.range l.length) with
    | .ok f => .ok f
    | .error v => .error ⟨.own "BadWish", [("value", v)]⟩
theorem sel_out (ks : List Str) (zs : List D) (hz : zs.length = ks.length) (hp : ∀ v ∈ zs, pl v = true) (l : List Int) (h0 : 0 < l.length) (hl : l.length ≤ 10 ^ 5) (S : Sto) : F_select ks (ti l :: zs) S = (match out ks zs l with
    | .ok f => .ok (.tup (ni f)) (S ++ [.dtt (kwD ks zs)])
    | .error e => .er e (S ++ [.dtt (kwD ks zs)])) := by
  have := select_any ks zs hz hp l h0 hl S
  unfold out
  revert this
  cases ks.find? (fun k => !isProp k) with
  | some n => exact id
  | none =>
    cases selF l (ks.zip zs) (List.range l.length) with
    | ok f => exact id
    | error v => exact id
def SRof (ρ : Ev) : R D → SR
  | .ok d S => .rt d S
  | .er e S => .er e ρ S
  | .stuck => .stuck
def kw : Nat → List Str
  | 0 => []
  | 1 => ["arity"]
  | 2 => ["beginning"]
  | 3 => ["free"]
  | 4 => ["lacking"]
  | 5 => ["free", "arity"]
  | 6 => ["beginning", "lacking"]
  | 7 => ["lacking", "arity", "beginning"]
  | _ => ["arity", "beginning", "free", "lacking"]
def zw (m a b c : D) : Nat → List D
  | 0 => []
  | 1 => [m]
  | 2 => [a]
  | 3 => [b]
  | 4 => [c]
  | 5 => [b, m]
  | 6 => [a, c]
  | 7 => [c, m, a]
  | _ => [m, a, b, c]
def us : Nat → List Nat
  | 0 => []
  | 1 => [0]
  | 2 => [1]
  | 3 => [2]
  | 4 => [3]
  | 5 => [0, 2]
  | 6 => [1, 3]
  | 7 => [0, 1, 3]
  | _ => [0, 1, 2, 3]
theorem cw0 (l : List Int) (m a b c : D) (S : Sto) : B__law_selected [some (ti l), some (.int 0), some (.fl [m, a, b, c])] S = SRof [some (ti l), some (.int 0), some (.fl [m, a, b, c])] (F_select [] (ti l :: []) S) := by
  have e0 : ∀ S, dEq false (.int 0) (.int 0) S = .ok (.bl true) S := fun S => rfl
  have i0 : ∀ S, dIx (.fl [m, a, b, c]) (.int 0) S = .ok m S := fun S => rfl
  have i1 : ∀ S, dIx (.fl [m, a, b, c]) (.int 1) S = .ok a S := fun S => rfl
  have i2 : ∀ S, dIx (.fl [m, a, b, c]) (.int 2) S = .ok b S := fun S => rfl
  have i3 : ∀ S, dIx (.fl [m, a, b, c]) (.int 3) S = .ok c S := fun S => rfl
  unfold B__law_selected
  generalize h : F_select [] (ti l :: []) S = r
  cases r <;> simp only [eVar, eC, eOp, eT, eAnd, eOr, eNot, eIf, eAndV, eOrV, eNotV, eCall, aNil, aCons, aStar, sOf, eTup, eFl, eLoc, eSl, oNone, oSome, iOf, eNeg, eChain, eMt, bOf, eDict0, eRev, eListRg, iZipD, sRaise1, sRaise0, eCallV, List.lookup, R.bind_ok, R.bind_er, R.bind_stuck, R.toS_ok, R.toS_er, R.toS_stuck, SR.next_nx, SR.next_rt, SR.next_er, SR.next_bk, SR.next_ct, SR.next_stuck, sNil, sSeq, sBrk, sCnt, sExp, sRet, sRetN, sIf, sSet, sAsg, sAug, sPar2, sPar3, tN, DL.tTup, DL.tNil, DL.tCons, DL.tSub, iSeq, srcOf_tup, srcOf_fl, srcOf_kl, srcOf_ti, iRange1, iRange2, sFor, startD, List.map_cons, List.map_nil, List.length_cons, List.length_nil, List.replicate, List.cons_append, List.nil_append, List.getElem?_cons_zero, List.getElem?_cons_succ, List.set_cons_zero, List.set_cons_succ, dSub_int, dFdiv_int, dMod_int, dLt_int, dLe_int, dGt_int, dGe_int, dAddI_int, dSubI_int, dIsN_non, isN, dAdd_int, ll0, ll1, ll2, ll3, ll4, ll5, ll6, ll7, ll8, ll9, ll10, ll11, ll12, ll13, ll14, ll15, ll16, ll17, ll18, ll19, ll20, ll21, ll22, ll23, ll24, ll25, ll26, ll27, ll28, ll29, ll30, ll31, ll32, ll33, ll34, ll35, ll36, ll37, ll38, ll39, ll40, Nat.reduceSub, Nat.reduceAdd, Nat.reduceEqDiff, if_true, if_false, ifp_t, ifp_f, reduceIte, Bool.true_eq_false, Bool.false_eq_true, Option.map_some, Option.map_none, Option.bind_some, Option.bind_none, tSq, sSet2, seqOf_fl, seqOf_tup, seqOf_ti, eFld, eMth, eNew, sMatch, cText, cAny, cNil, tAttr, e0, i0, i1, i2, i3, eCallK, h, SRof, eq_self]
theorem cw1 (l : List Int) (m a b c : D) (S : Sto) : B__law_selected [some (ti l), some (.int 1), some (.fl [m, a, b, c])] S = SRof [some (ti l), some (.int 1), some (.fl [m, a, b, c])] (F_select ["arity"] (ti l :: [m]) S) := by
  have e0 : ∀ S, dEq false (.int 1) (.int 0) S = .ok (.bl false) S := fun S => rfl
  have e1 : ∀ S, dEq false (.int 1) (.int 1) S = .ok (.bl true) S := fun S => rfl
  have i0 : ∀ S, dIx (.fl [m, a, b, c]) (.int 0) S = .ok m S := fun S => rfl
  have i1 : ∀ S, dIx (.fl [m, a, b, c]) (.int 1) S = .ok a S := fun S => rfl
  have i2 : ∀ S, dIx (.fl [m, a, b, c]) (.int 2) S = .ok b S := fun S => rfl
  have i3 : ∀ S, dIx (.fl [m, a, b, c]) (.int 3) S = .ok c S := fun S => rfl
  unfold B__law_selected
  generalize h : F_select ["arity"] (ti l :: [m]) S = r
  cases r <;> simp only [eVar, eC, eOp, eT, eAnd, eOr, eNot, eIf, eAndV, eOrV, eNotV, eCall, aNil, aCons, aStar, sOf, eTup, eFl, eLoc, eSl, oNone, oSome, iOf, eNeg, eChain, eMt, bOf, eDict0, eRev, eListRg, iZipD, sRaise1, sRaise0, eCallV, List.lookup, R.bind_ok, R.bind_er, R.bind_stuck, R.toS_ok, R.toS_er, R.toS_stuck, SR.next_nx, SR.next_rt, SR.next_er, SR.next_bk, SR.next_ct, SR.next_stuck, sNil, sSeq, sBrk, sCnt, sExp, sRet, sRetN, sIf, sSet, sAsg, sAug, sPar2, sPar3, tN, DL.tTup, DL.tNil, DL.tCons, DL.tSub, iSeq, srcOf_tup, srcOf_fl, srcOf_kl, srcOf_ti, iRange1, iRange2, sFor, startD, List.map_cons, List.map_nil, List.length_cons, List.length_nil, List.replicate, List.cons_append, List.nil_append, List.getElem?_cons_zero, List.getElem?_cons_succ, List.set_cons_zero, List.set_cons_succ, dSub_int, dFdiv_int, dMod_int, dLt_int, dLe_int, dGt_int, dGe_int, dAddI_int, dSubI_int, dIsN_non, isN, dAdd_int, ll0, ll1, ll2, ll3, ll4, ll5, ll6, ll7, ll8, ll9, ll10, ll11, ll12, ll13, ll14, ll15, ll16, ll17, ll18, ll19, ll20, ll21, ll22, ll23, ll24, ll25, ll26, ll27, ll28, ll29, ll30, ll31, ll32, ll33, ll34, ll35, ll36, ll37, ll38, ll39, ll40, Nat.reduceSub, Nat.reduceAdd, Nat.reduceEqDiff, if_true, if_false, ifp_t, ifp_f, reduceIte, Bool.true_eq_false, Bool.false_eq_true, Option.map_some, Option.map_none, Option.bind_some, Option.bind_none, tSq, sSet2, seqOf_fl, seqOf_tup, seqOf_ti, eFld, eMth, eNew, sMatch, cText, cAny, cNil, tAttr, e0, e1, i0, i1, i2, i3, eCallK, h, SRof, eq_self]
theorem cw2 (l : List Int) (m a b c : D) (S : Sto) : B__law_selected [some (ti l), some (.int 2), some (.fl [m, a, b, c])] S = SRof [some (ti l), some (.int 2), some (.fl [m, a, b, c])] (F_select ["beginning"] (ti l :: [a]) S) := by
  have e0 : ∀ S, dEq false (.int 2) (.int 0) S = .ok (.bl false) S := fun S => rfl
  have e1 : ∀ S, dEq false (.int 2) (.int 1) S = .ok (.bl false) S := fun S => rfl
  have e2 : ∀ S, dEq false (.int 2) (.int 2) S = .ok (.bl true) S := fun S => rfl
  have i0 : ∀ S, dIx (.fl [m, a, b, c]) (.int 0) S = .ok m S := fun S => rfl
  have i1 : ∀ S, dIx (.fl [m, a, b, c]) (.int 1) S = .ok a S := fun S => rfl
  have i2 : ∀ S, dIx (.fl [m, a, b, c]) (.int 2) S = .ok b S := fun S => rfl
  have i3 : ∀ S, dIx (.fl [m, a, b, c]) (.int 3) S = .ok c S := fun S => rfl
  unfold B__law_selected
  generalize h : F_select ["beginning"] (ti l :: [a]) S = r
  cases r <;> simp only [eVar, eC, eOp, eT, eAnd, eOr, eNot, eIf, eAndV, eOrV, eNotV, eCall, aNil, aCons, aStar, sOf, eTup, eFl, eLoc, eSl, oNone, oSome, iOf, eNeg, eChain, eMt, bOf, eDict0, eRev, eListRg, iZipD, sRaise1, sRaise0, eCallV, List.lookup, R.bind_ok, R.bind_er, R.bind_stuck, R.toS_ok, R.toS_er, R.toS_stuck, SR.next_nx, SR.next_rt, SR.next_er, SR.next_bk, SR.next_ct, SR.next_stuck, sNil, sSeq, sBrk, sCnt, sExp, sRet, sRetN, sIf, sSet, sAsg, sAug, sPar2, sPar3, tN, DL.tTup, DL.tNil, DL.tCons, DL.tSub, iSeq, srcOf_tup, srcOf_fl, srcOf_kl, srcOf_ti, iRange1, iRange2, sFor, startD, List.map_cons, List.map_nil, List.length_cons, List.length_nil, List.replicate, List.cons_append, List.nil_append, List.getElem?_cons_zero, List.getElem?_cons_succ, List.set_cons_zero, List.set_cons_succ, dSub_int, dFdiv_int, dMod_int, dLt_int, dLe_int, dGt_int, dGe_int, dAddI_int, dSubI_int, dIsN_non, isN, dAdd_int, ll0, ll1, ll2, ll3, ll4, ll5, ll6, ll7, ll8, ll9, ll10, ll11, ll12, ll13, ll14, ll15, ll16, ll17, ll18, ll19, ll20, ll21, ll22, ll23, ll24, ll25, ll26, ll27, ll28, ll29, ll30, ll31, ll32, ll33, ll34, ll35, ll36, ll37, ll38, ll39, ll40, Nat.reduceSub, Nat.reduceAdd, Nat.reduceEqDiff, if_true, if_false, ifp_t, ifp_f, reduceIte, Bool.true_eq_false, Bool.false_eq_true, Option.map_some, Option.map_none, Option.bind_some, Option.bind_none, tSq, sSet2, seqOf_fl, seqOf_tup, seqOf_ti, eFld, eMth, eNew, sMatch, cText, cAny, cNil, tAttr, e0, e1, e2, i0, i1, i2, i3, eCallK, h, SRof, eq_self]
theorem cw3 (l : List Int) (m a b c : D) (S : Sto) : B__law_selected [some (ti l), some (.int 3), some (.fl [m, a, b, c])] S = SRof [some (ti l), some (.int 3), some (.fl [m, a, b, c])] (F_select ["free"] (ti l :: [b]) S) := by
  have e0 : ∀ S, dEq false (.int 3) (.int 0) S = .ok (.bl false) S := fun S => rfl
  have e1 : ∀ S, dEq false (.int 3) (.int 1) S = .ok (.bl false) S := fun S => rfl
  have e2 : ∀ S, dEq false (.int 3) (.int 2) S = .ok (.bl false) S := fun S => rfl
  have e3 : ∀ S, dEq false (.int 3) (.int 3) S = .ok (.bl true) S := fun S => rfl
  have i0 : ∀ S, dIx (.fl [m, a, b, c]) (.int 0) S = .ok m S := fun S => rfl
  have i1 : ∀ S, dIx (.fl [m, a, b, c]) (.int 1) S = .ok a S := fun S => rfl
  have i2 : ∀ S, dIx (.fl [m, a, b, c]) (.int 2) S = .ok b S := fun S => rfl
  have i3 : ∀ S, dIx (.fl [m, a, b, c]) (.int 3) S = .ok c S := fun S => rfl
  unfold B__law_selected
  generalize h : F_select ["free"] (ti l :: [b]) S = r
  cases r <;> simp only [eVar, eC, eOp, eT, eAnd, eOr, eNot, eIf, eAndV, eOrV, eNotV, eCall, aNil, aCons, aStar, sOf, eTup, eFl, eLoc, eSl, oNone, oSome, iOf, eNeg, eChain, eMt, bOf, eDict0, eRev, eListRg, iZipD, sRaise1, sRaise0, eCallV, List.lookup, R.bind_ok, R.bind_er, R.bind_stuck, R.toS_ok, R.toS_er, R.toS_stuck, SR.next_nx, SR.next_rt, SR.next_er, SR.next_bk, SR.next_ct, SR.next_stuck, sNil, sSeq, sBrk, sCnt, sExp, sRet, sRetN, sIf, sSet, sAsg, sAug, sPar2, sPar3, tN, DL.tTup, DL.tNil, DL.tCons, DL.tSub, iSeq, srcOf_tup, srcOf_fl, srcOf_kl, srcOf_ti, iRange1, iRange2, sFor, startD, List.map_cons, List.map_nil, List.length_cons, List.length_nil, List.replicate, List.cons_append, List.nil_append, List.getElem?_cons_zero, List.getElem?_cons_succ, List.set_cons_zero, List.set_cons_succ, dSub_int, dFdiv_int, dMod_int, dLt_int, dLe_int, dGt_int, dGe_int, dAddI_int, dSubI_int, dIsN_non, isN, dAdd_int, ll0, ll1, ll2, ll3, ll4, ll5, ll6, ll7, ll8, ll9, ll10, ll11, ll12, ll13, ll14, ll15, ll16, ll17, ll18, ll19, ll20, ll21, ll22, ll23, ll24, ll25, ll26, ll27, ll28, ll29, ll30, ll31, ll32, ll33, ll34, ll35, ll36, ll37, ll38, ll39, ll40, Nat.reduceSub, Nat.reduceAdd, Nat.reduceEqDiff, if_true, if_false, ifp_t, ifp_f, reduceIte, Bool.true_eq_false, Bool.false_eq_true, Option.map_some, Option.map_none, Option.bind_some, Option.bind_none, tSq, sSet2, seqOf_fl, seqOf_tup, seqOf_ti, eFld, eMth, eNew, sMatch, cText, cAny, cNil, tAttr, e0, e1, e2, e3, i0, i1, i2, i3, eCallK, h, SRof, eq_self]
theorem cw4 (l : List Int) (m a b c : D) (S : Sto) : B__law_selected [some (ti l), some (.int 4), some (.fl [m, a, b, c])] S = SRof [some (ti l), some (.int 4), some (.fl [m, a, b, c])] (F_select ["lacking"] (ti l :: [c]) S) := by
  have e0 : ∀ S, dEq false (.int 4) (.int 0) S = .ok (.bl false) S := fun S => rfl
  have e1 : ∀ S, dEq false (.int 4) (.int 1) S = .ok (.bl false) S := fun S => rfl
  have e2 : ∀ S, dEq false (.int 4) (.int 2) S = .ok (.bl false) S := fun S => rfl
  have e3 : ∀ S, dEq false (.int 4) (.int 3) S = .ok (.bl false) S := fun S => rfl
  have e4 : ∀ S, dEq false (.int 4) (.int 4) S = .ok (.bl true) S := fun S => rfl
  have i0 : ∀ S, dIx (.fl [m, a, b, c]) (.int 0) S = .ok m S := fun S => rfl
  have i1 : ∀ S, dIx (.fl [m, a, b, c]) (.int 1) S = .ok a S := fun S => rfl
  have i2 : ∀ S, dIx (.fl [m, a, b, c]) (.int 2) S = .ok b S := fun S => rfl
  have i3 : ∀ S, dIx (.fl [m, a, b, c]) (.int 3) S = .ok c S := fun S => rfl
  unfold B__law_selected
  generalize h : F_select ["lacking"] (ti l :: [c]) S = r
  cases r <;> simp only [eVar, eC, eOp, eT, eAnd, eOr, eNot, eIf, eAndV, eOrV, eNotV, eCall, aNil, aCons, aStar, sOf, eTup, eFl, eLoc, eSl, oNone, oSome, iOf, eNeg, eChain, eMt, bOf, eDict0, eRev, eListRg, iZipD, sRaise1, sRaise0, eCallV, List.lookup, R.bind_ok, R.bind_er, R.bind_stuck, R.toS_ok, R.toS_er, R.toS_stuck, SR.next_nx, SR.next_rt, SR.next_er, SR.next_bk, SR.next_ct, SR.next_stuck, sNil, sSeq, sBrk, sCnt, sExp, sRet, sRetN, sIf, sSet, sAsg, sAug, sPar2, sPar3, tN, DL.tTup, DL.tNil, DL.tCons, DL.tSub, iSeq, srcOf_tup, srcOf_fl, srcOf_kl, srcOf_ti, iRange1, iRange2, sFor, startD, List.map_cons, List.map_nil, List.length_cons, List.length_nil, List.replicate, List.cons_append, List.nil_append, List.getElem?_cons_zero, List.getElem?_cons_succ, List.set_cons_zero, List.set_cons_succ, dSub_int, dFdiv_int, dMod_int, dLt_int, dLe_int, dGt_int, dGe_int, dAddI_int, dSubI_int, dIsN_non, isN, dAdd_int, ll0, ll1, ll2, ll3, ll4, ll5, ll6, ll7, ll8, ll9, ll10, ll11, ll12, ll13, ll14, ll15, ll16, ll17, ll18, ll19, ll20, ll21, ll22, ll23, ll24, ll25, ll26, ll27, ll28, ll29, ll30, ll31, ll32, ll33, ll34, ll35, ll36, ll37, ll38, ll39, ll40, Nat.reduceSub, Nat.reduceAdd, Nat.reduceEqDiff, if_true, if_false, ifp_t, ifp_f, reduceIte, Bool.true_eq_false, Bool.false_eq_true, Option.map_some, Option.map_none, Option.bind_some, Option.bind_none, tSq, sSet2, seqOf_fl, seqOf_tup, seqOf_ti, eFld, eMth, eNew, sMatch, cText, cAny, cNil, tAttr, e0, e1, e2, e3, e4, i0, i1, i2, i3, eCallK, h, SRof, eq_self]
theorem cw5 (l : List Int) (m a b c : D) (S : Sto) : B__law_selected [some (ti l), some (.int 5), some (.fl [m, a, b, c])] S = SRof [some (ti l), some (.int 5), some (.fl [m, a, b, c])] (F_select ["free", "arity"] (ti l :: [b, m]) S) := by
  have e0 : ∀ S, dEq false (.int 5) (.int 0) S = .ok (.bl false) S := fun S => rfl
  have e1 : ∀ S, dEq false (.int 5) (.int 1) S = .ok (.bl false) S := fun S => rfl
  have e2 : ∀ S, dEq false (.int 5) (.int 2) S = .ok (.bl false) S := fun S => rfl
  have e3 : ∀ S, dEq false (.int 5) (.int 3) S = .ok (.bl false) S := fun S => rfl
  have e4 : ∀ S, dEq false (.int 5) (.int 4) S = .ok (.bl false) S := fun S => rfl
  have e5 : ∀ S, dEq false (.int 5) (.int 5) S = .ok (.bl true) S := fun S => rfl
  have i0 : ∀ S, dIx (.fl [m, a, b, c]) (.int 0) S = .ok m S := fun S => rfl
  have i1 : ∀ S, dIx (.fl [m, a, b, c]) (.int 1) S = .ok a S := fun S => rfl
  have i2 : ∀ S, dIx (.fl [m, a, b, c]) (.int 2) S = .ok b S := fun S => rfl
  have i3 : ∀ S, dIx (.fl [m, a, b, c]) (.int 3) S = .ok c S := fun S => rfl
  unfold B__law_selected
  generalize h : F_select ["free", "arity"] (ti l :: [b, m]) S = r
  cases r <;> simp only [eVar, eC, eOp, eT, eAnd, eOr, eNot, eIf, eAndV, eOrV, eNotV, eCall, aNil, aCons, aStar, sOf, eTup, eFl, eLoc, eSl, oNone, oSome, iOf, eNeg, eChain, eMt, bOf, eDict0, eRev, eListRg, iZipD, sRaise1, sRaise0, eCallV, List.lookup, R.bind_ok, R.bind_er, R.bind_stuck, R.toS_ok, R.toS_er, R.toS_stuck, SR.next_nx, SR.next_rt, SR.next_er, SR.next_bk, SR.next_ct, SR.next_stuck, sNil, sSeq, sBrk, sCnt, sExp, sRet, sRetN, sIf, sSet, sAsg, sAug, sPar2, sPar3, tN, DL.tTup, DL.tNil, DL.tCons, DL.tSub, iSeq, srcOf_tup, srcOf_fl, srcOf_kl, srcOf_ti, iRange1, iRange2, sFor, startD, List.map_cons, List.map_nil, List.length_cons, List.length_nil, List.replicate, List.cons_append, List.nil_append, List.getElem?_cons_zero, List.getElem?_cons_succ, List.set_cons_zero, List.set_cons_succ, dSub_int, dFdiv_int, dMod_int, dLt_int, dLe_int, dGt_int, dGe_int, dAddI_int, dSubI_int, dIsN_non, isN, dAdd_int, ll0, ll1, ll2, ll3, ll4, ll5, ll6, ll7, ll8, ll9, ll10, ll11, ll12, ll13, ll14, ll15, ll16, ll17, ll18, ll19, ll20, ll21, ll22, ll23, ll24, ll25, ll26, ll27, ll28, ll29, ll30, ll31, ll32, ll33, ll34, ll35, ll36, ll37, ll38, ll39, ll40, Nat.reduceSub, Nat.reduceAdd, Nat.reduceEqDiff, if_true, if_false, ifp_t, ifp_f, reduceIte, Bool.true_eq_false, Bool.false_eq_true, Option.map_some, Option.map_none, Option.bind_some, Option.bind_none, tSq, sSet2, seqOf_fl, seqOf_tup, seqOf_ti, eFld, eMth, eNew, sMatch, cText, cAny, cNil, tAttr, e0, e1, e2, e3, e4, e5, i0, i1, i2, i3, eCallK, h, SRof, eq_self]
theorem cw6 (l : List Int) (m a b c : D) (S : Sto) : B__law_selected [some (ti l), some (.int 6), some (.fl [m, a, b, c])] S = SRof [some (ti l), some (.int 6), some (.fl [m, a, b, c])] (F_select ["beginning", "lacking"] (ti l :: [a, c]) S) := by
  have e0 : ∀ S, dEq false (.int 6) (.int 0) S = .ok (.bl false) S := fun S => rfl
  have e1 : ∀ S, dEq false (.int 6) (.int 1) S = .ok (.bl false) S := fun S => rfl
  have e2 : ∀ S, dEq false (.int 6) (.int 2) S = .ok (.bl false) S := fun S => rfl
  have e3 : ∀ S, dEq false (.int 6) (.int 3) S = .ok (.bl false) S := fun S => rfl
  have e4 : ∀ S, dEq false (.int 6) (.int 4) S = .ok (.bl false) S := fun S => rfl
  have e5 : ∀ S, dEq false (.int 6) (.int 5) S = .ok (.bl false) S := fun S => rfl
  have e6 : ∀ S, dEq false (.int 6) (.int 6) S = .ok (.bl true) S := fun S => rfl
  have i0 : ∀ S, dIx (.fl [m, a, b, c]) (.int 0) S = .ok m S := fun S => rfl
  have i1 : ∀ S, dIx (.fl [m, a, b, c]) (.int 1) S = .ok a S := fun S => rfl
  have i2 : ∀ S, dIx (.fl [m, a, b, c]) (.int 2) S = .ok b S := fun S => rfl
  have i3 : ∀ S, dIx (.fl [m, a, b, c]) (.int 3) S = .ok c S := fun S => rfl
  unfold B__law_selected
  generalize h : F_select ["beginning", "lacking"] (ti l :: [a, c]) S = r
  cases r <;> simp only [eVar, eC, eOp, eT, eAnd, eOr, eNot, eIf, eAndV, eOrV, eNotV, eCall, aNil, aCons, aStar, sOf, eTup, eFl, eLoc, eSl, oNone, oSome, iOf, eNeg, eChain, eMt, bOf, eDict0, eRev, eListRg, iZipD, sRaise1, sRaise0, eCallV, List.lookup, R.bind_ok, R.bind_er, R.bind_stuck, R.toS_ok, R.toS_er, R.toS_stuck, SR.next_nx, SR.next_rt, SR.next_er, SR.next_bk, SR.next_ct, SR.next_stuck, sNil, sSeq, sBrk, sCnt, sExp, sRet, sRetN, sIf, sSet, sAsg, sAug, sPar2, sPar3, tN, DL.tTup, DL.tNil, DL.tCons, DL.tSub, iSeq, srcOf_tup, srcOf_fl, srcOf_kl, srcOf_ti, iRange1, iRange2, sFor, startD, List.map_cons, List.map_nil, List.length_cons, List.length_nil, List.replicate, List.cons_append, List.nil_append, List.getElem?_cons_zero, List.getElem?_cons_succ, List.set_cons_zero, List.set_cons_succ, dSub_int, dFdiv_int, dMod_int, dLt_int, dLe_int, dGt_int, dGe_int, dAddI_int, dSubI_int, dIsN_non, isN, dAdd_int, ll0, ll1, ll2, ll3, ll4, ll5, ll6, ll7, ll8, ll9, ll10, ll11, ll12, ll13, ll14, ll15, ll16, ll17, ll18, ll19, ll20, ll21, ll22, ll23, ll24, ll25, ll26, ll27, ll28, ll29, ll30, ll31, ll32, ll33, ll34, ll35, ll36, ll37, ll38, ll39, ll40, Nat.reduceSub, Nat.reduceAdd, Nat.reduceEqDiff, if_true, if_false, ifp_t, ifp_f, reduceIte, Bool.true_eq_false, Bool.false_eq_true, Option.map_some, Option.map_none, Option.bind_some, Option.bind_none, tSq, sSet2, seqOf_fl, seqOf_tup, seqOf_ti, eFld, eMth, eNew, sMatch, cText, cAny, cNil, tAttr, e0, e1, e2, e3, e4, e5, e6, i0, i1, i2, i3, eCallK, h, SRof, eq_self]
theorem cw7 (l : List Int) (m a b c : D) (S : Sto) : B__law_selected [some (ti l), some (.int 7), some (.fl [m, a, b, c])] S = SRof [some (ti l), some (.int 7), some (.fl [m, a, b, c])] (F_select ["lacking", "arity", "beginning"] (ti l :: [c, m, a]) S) := by
  have e0 : ∀ S, dEq false (.int 7) (.int 0) S = .ok (.bl false) S := fun S => rfl
  have e1 : ∀ S, dEq false (.int 7) (.int 1) S = .ok (.bl false) S := fun S => rfl
  have e2 : ∀ S, dEq false (.int 7) (.int 2) S = .ok (.bl false) S := fun S => rfl
  have e3 : ∀ S, dEq false (.int 7) (.int 3) S = .ok (.bl false) S := fun S => rfl
  have e4 : ∀ S, dEq false (.int 7) (.int 4) S = .ok (.bl false) S := fun S => rfl
  have e5 : ∀ S, dEq false (.int 7) (.int 5) S = .ok (.bl false) S := fun S => rfl
  have e6 : ∀ S, dEq false (.int 7) (.int 6) S = .ok (.bl false) S := fun S => rfl
  have e7 : ∀ S, dEq false (.int 7) (.int 7) S = .ok (.bl true) S := fun S => rfl
  have i0 : ∀ S, dIx (.fl [m, a, b, c]) (.int 0) S = .ok m S := fun S => rfl
  have i1 : ∀ S, dIx (.fl [m, a, b, c]) (.int 1) S = .ok a S := fun S => rfl
  have i2 : ∀ S, dIx (.fl [m, a, b, c]) (.int 2) S = .ok b S := fun S => rfl
  have i3 : ∀ S, dIx (.fl [m, a, b, c]) (.int 3) S = .ok c S := fun S => rfl
  unfold B__law_selected
  generalize h : F_select ["lacking", "arity", "beginning"] (ti l :: [c, m, a]) S = r
  cases r <;> simp only [eVar, eC, eOp, eT, eAnd, eOr, eNot, eIf, eAndV, eOrV, eNotV, eCall, aNil, aCons, aStar, sOf, eTup, eFl, eLoc, eSl, oNone, oSome, iOf, eNeg, eChain, eMt, bOf, eDict0, eRev, eListRg, iZipD, sRaise1, sRaise0, eCallV, List.lookup, R.bind_ok, R.bind_er, R.bind_stuck, R.toS_ok, R.toS_er, R.toS_stuck, SR.next_nx, SR.next_rt, SR.next_er, SR.next_bk, SR.next_ct, SR.next_stuck, sNil, sSeq, sBrk, sCnt, sExp, sRet, sRetN, sIf, sSet, sAsg, sAug, sPar2, sPar3, tN, DL.tTup, DL.tNil, DL.tCons, DL.tSub, iSeq, srcOf_tup, srcOf_fl, srcOf_kl, srcOf_ti, iRange1, iRange2, sFor, startD, List.map_cons, List.map_nil, List.length_cons, List.length_nil, List.replicate, List.cons_append, List.nil_append, List.getElem?_cons_zero, List.getElem?_cons_succ, List.set_cons_zero, List.set_cons_succ, dSub_int, dFdiv_int, dMod_int, dLt_int, dLe_int, dGt_int, dGe_int, dAddI_int, dSubI_int, dIsN_non, isN, dAdd_int, ll0, ll1, ll2, ll3, ll4, ll5, ll6, ll7, ll8, ll9, ll10, ll11, ll12, ll13, ll14, ll15, ll16, ll17, ll18, ll19, ll20, ll21, ll22, ll23, ll24, ll25, ll26, ll27, ll28, ll29, ll30, ll31, ll32, ll33, ll34, ll35, ll36, ll37, ll38, ll39, ll40, Nat.reduceSub, Nat.reduceAdd, Nat.reduceEqDiff, if_true, if_false, ifp_t, ifp_f, reduceIte, Bool.true_eq_false, Bool.false_eq_true, Option.map_some, Option.map_none, Option.bind_some, Option.bind_none, tSq, sSet2, seqOf_fl, seqOf_tup, seqOf_ti, eFld, eMth, eNew, sMatch, cText, cAny, cNil, tAttr, e0, e1, e2, e3, e4, e5, e6, e7, i0, i1, i2, i3, eCallK, h, SRof, eq_self]
theorem cw8 (l : List Int) (m a b c : D) (S : Sto) : B__law_selected [some (ti l), some (.int 8), some (.fl [m, a, b, c])] S = SRof [some (ti l), some (.int 8), some (.fl [m, a, b, c])] (F_select ["arity", "beginning", "free", "lacking"] (ti l :: [m, a, b, c]) S) := by
  have e0 : ∀ S, dEq false (.int 8) (.int 0) S = .ok (.bl false) S := fun S => rfl
  have e1 : ∀ S, dEq false (.int 8) (.int 1) S = .ok (.bl false) S := fun S => rfl
  have e2 : ∀ S, dEq false (.int 8) (.int 2) S = .ok (.bl false) S := fun S => rfl
  have e3 : ∀ S, dEq false (.int 8) (.int 3) S = .ok (.bl false) S := fun S => rfl
  have e4 : ∀ S, dEq false (.int 8) (.int 4) S = .ok (.bl false) S := fun S => rfl
  have e5 : ∀ S, dEq false (.int 8) (.int 5) S = .ok (.bl false) S := fun S => rfl
  have e6 : ∀ S, dEq false (.int 8) (.int 6) S = .ok (.bl false) S := fun S => rfl
  have e7 : ∀ S, dEq false (.int 8) (.int 7) S = .ok (.bl false) S := fun S => rfl
  have i0 : ∀ S, dIx (.fl [m, a, b, c]) (.int 0) S = .ok m S := fun S => rfl
  have i1 : ∀ S, dIx (.fl [m, a, b, c]) (.int 1) S = .ok a S := fun S => rfl
  have i2 : ∀ S, dIx (.fl [m, a, b, c]) (.int 2) S = .ok b S := fun S => rfl
  have i3 : ∀ S, dIx (.fl [m, a, b, c]) (.int 3) S = .ok c S := fun S => rfl
  unfold B__law_selected
  generalize h : F_select ["arity", "beginning", "free", "lacking"] (ti l :: [m, a, b, c]) S = r
  cases r <;> simp only [eVar, eC, eOp, eT, eAnd, eOr, eNot, eIf, eAndV, eOrV, eNotV, eCall, aNil, aCons, aStar, sOf, eTup, eFl, eLoc, eSl, oNone, oSome, iOf, eNeg, eChain, eMt, bOf, eDict0, eRev, eListRg, iZipD, sRaise1, sRaise0, eCallV, List.lookup, R.bind_ok, R.bind_er, R.bind_stuck, R.toS_ok, R.toS_er, R.toS_stuck, SR.next_nx, SR.next_rt, SR.next_er, SR.next_bk, SR.next_ct, SR.next_stuck, sNil, sSeq, sBrk, sCnt, sExp, sRet, sRetN, sIf, sSet, sAsg, sAug, sPar2, sPar3, tN, DL.tTup, DL.tNil, DL.tCons, DL.tSub, iSeq, srcOf_tup, srcOf_fl, srcOf_kl, srcOf_ti, iRange1, iRange2, sFor, startD, List.map_cons, List.map_nil, List.length_cons, List.length_nil, List.replicate, List.cons_append, List.nil_append, List.getElem?_cons_zero, List.getElem?_cons_succ, List.set_cons_zero, List.set_cons_succ, dSub_int, dFdiv_int, dMod_int, dLt_int, dLe_int, dGt_int, dGe_int, dAddI_int, dSubI_int, dIsN_non, isN, dAdd_int, ll0, ll1, ll2, ll3, ll4, ll5, ll6, ll7, ll8, ll9, ll10, ll11, ll12, ll13, ll14, ll15, ll16, ll17, ll18, ll19, ll20, ll21, ll22, ll23, ll24, ll25, ll26, ll27, ll28, ll29, ll30, ll31, ll32, ll33, ll34, ll35, ll36, ll37, ll38, ll39, ll40, Nat.reduceSub, Nat.reduceAdd, Nat.reduceEqDiff, if_true, if_false, ifp_t, ifp_f, reduceIte, Bool.true_eq_false, Bool.false_eq_true, Option.map_some, Option.map_none, Option.bind_some, Option.bind_none, tSq, sSet2, seqOf_fl, seqOf_tup, seqOf_ti, eFld, eMth, eNew, sMatch, cText, cAny, cNil, tAttr, e0, e1, e2, e3, e4, e5, e6, e7, i0, i1, i2, i3, eCallK, h, SRof, eq_self]
theorem cw_any (l : List Int) (m a b c : D) (S : Sto) : ∀ w < 9, B__law_selected [some (ti l), some (.int (w : Nat)), some (.fl [m, a, b, c])] S = SRof [some (ti l), some (.int (w : Nat)), some (.fl [m, a, b, c])] (F_select (kw w) (ti l :: zw m a b c w) S)
  | 0, _ => cw0 l m a b c S
  | 1, _ => cw1 l m a b c S
  | 2, _ => cw2 l m a b c S
  | 3, _ => cw3 l m a b c S
  | 4, _ => cw4 l m a b c S
  | 5, _ => cw5 l m a b c S
  | 6, _ => cw6 l m a b c S
  | 7, _ => cw7 l m a b c S
  | 8, _ => cw8 l m a b c S
  | n + 9, h => absurd h (by omega)
theorem zw_len (m a b c : D) : ∀ w, w < 9 → (zw m a b c w).length = (kw w).length
  | 0, _ => rfl
  | 1, _ => rfl
  | 2, _ => rfl
  | 3, _ => rfl
  | 4, _ => rfl
  | 5, _ => rfl
  | 6, _ => rfl
  | 7, _ => rfl
  | 8, _ => rfl
  | n + 9, h => absurd h (by omega)
theorem zw_pl {m a b c : D} (hm : pl m = true) (ha : pl a = true) (hb : pl b = true) (hc : pl c = true) : ∀ w, w < 9 → ∀ x ∈ zw m a b c w, pl x = true
  | 0, _ => fun x h => by simp [zw] at h
  | 1, _ => fun x h => by simp only [zw, List.mem_cons, List.not_mem_nil, or_false] at h; subst h; assumption
  | 2, _ => fun x h => by simp only [zw, List.mem_cons, List.not_mem_nil, or_false] at h; subst h; assumption
  | 3, _ => fun x h => by simp only [zw, List.mem_cons, List.not_mem_nil, or_false] at h; subst h; assumption
  | 4, _ => fun x h => by simp only [zw, List.mem_cons, List.not_mem_nil, or_false] at h; subst h; assumption
  | 5, _ => fun x h => by simp only [zw, List.mem_cons, List.not_mem_nil, or_false] at h; rcases h with rfl | rfl <;> assumption
  | 6, _ => fun x h => by simp only [zw, List.mem_cons, List.not_mem_nil, or_false] at h; rcases h with rfl | rfl <;> assumption
  | 7, _ => fun x h => by simp only [zw, List.mem_cons, List.not_mem_nil, or_false] at h; rcases h with rfl | rfl | rfl <;> assumption
  | 8, _ => fun x h => by simp only [zw, List.mem_cons, List.not_mem_nil, or_false] at h; rcases h with rfl | rfl | rfl | rfl <;> assumption
  | n + 9, h => absurd h (by omega)
/-- the places that agree -/
def pV (l : List Int) (nm : Str) (v : D) (p : Nat) : Bool := hitB ((vls l nm)[p]?.getD .non) v
theorem selF_all (l : List Int) : ∀ (kvs : List (Str × D)) (f : List Nat), (∀ q ∈ kvs, okW q.1 q.2 = true) → selF l kvs f = .ok (f.filter fun p => kvs.all fun q => pV l q.1 q.2 p)
  | [], f, _ => by
    show Except.ok f = Except.ok (f.filter fun p => true)
    rw [List.filter_eq_self.mpr (fun _ _ => rfl)]
  | (nm, v) :: r, f, h => by
    unfold selF
    rw [if_pos (h _ List.mem_cons_self), selF_all l r _ fun q hq => h q (List.mem_cons_of_mem _ hq), List.filter_filter]
    congr 1
    apply List.filter_congr
    intro p _
    rw [List.all_cons, Bool.and_comm]
    rfl
def hit (l : List Int) (m : Int) (a b c : Bool) (p : Nat) : Nat → Bool
  | 0 => (l[p]?).getD 0 == m
  | 1 => (ne (rot l p) == 0) == a
  | 2 => (tkr l p).isNone == b
  | _ => decide ((lks l)[p]?.getD 0 > 0) == c
def sel (l : List Int) (m : Int) (a b c : Bool) (w : Nat) : List Nat := (List.range l.length).filter fun p => (us w).all (hit l m a b c p)
theorem n1 : ¬ ("beginning" : Str) = "arity" := by decide
theorem n2 : ¬ ("free" : Str) = "arity" := by decide
theorem n3 : ¬ ("lacking" : Str) = "arity" := by decide
theorem n4 : ¬ ("free" : Str) = "beginning" := by decide
theorem n5 : ¬ ("lacking" : Str) = "beginning" := by decide
theorem n6 : ¬ ("lacking" : Str) = "free" := by decide
theorem pv0 {l : List Int} {p : Nat} (hp : p < l.length) (m : Int) : pV l "arity" (.int m) p = ((l[p]?).getD 0 == m) := by
  unfold pV vls
  rw [if_pos rfl, List.getElem?_map, List.getElem?_eq_getElem hp]; rfl
theorem pv1 {l : List Int} {p : Nat} (hp : p < l.length) (a : Bool) : pV l "beginning" (.bl a) p = ((ne (rot l p) == 0) == a) := by
  unfold pV vls
  rw [if_neg n1, if_pos rfl, List.getElem?_map, List.getElem?_range hp]; rfl
theorem pv2 {l : List Int} {p : Nat} (hp : p < l.length) (a : Bool) : pV l "free" (.bl a) p = ((tkr l p).isNone == a) := by
  unfold pV vls
  rw [if_neg n2, if_neg n4, if_pos rfl, List.getElem?_map, List.getElem?_range hp]; rfl
theorem pv3 {l : List Int} {p : Nat} (hp : p < l.length) (a : Bool) : pV l "lacking" (.bl a) p = (decide ((lks l)[p]?.getD 0 > 0) == a) := by
  have h : p < (lks l).length := by unfold lks; simpa using hp
  unfold pV vls
  rw [if_neg n3, if_neg n5, if_neg n6, List.getElem?_map, List.getElem?_eq_getElem h]; rfl
theorem sel_w (l : List Int) (m : Int) (a b c : Bool) : ∀ w < 9, out (kw w) (zw (.int m) (.bl a) (.bl b) (.bl c) w) l = .ok (sel l m a b c w)
  | 0, _ => by
    have hp : (kw 0).find? (fun k => !isProp k) = none := by decide +kernel
    have hs := selF_all l ((kw 0).zip (zw (.int m) (.bl a) (.bl b) (.bl c) 0)) (List.range l.length) (by
      intro q hq
      simp [kw, zw] at hq)
    unfold out
    rw [hp, hs]
    show Except.ok _ = Except.ok _
    congr 1
    skip
  | 1, _ => by
    have hp : (kw 1).find? (fun k => !isProp k) = none := by decide +kernel
    have hs := selF_all l ((kw 1).zip (zw (.int m) (.bl a) (.bl b) (.bl c) 1)) (List.range l.length) (by
      intro q hq
      simp only [kw, zw, List.zip_cons_cons, List.zip_nil_right, List.zip_nil_left, List.mem_cons, List.not_mem_nil, or_false] at hq; subst hq; rfl)
    unfold out
    rw [hp, hs]
    show Except.ok _ = Except.ok _
    congr 1
    unfold sel
    apply List.filter_congr
    intro p hp
    have hp := List.mem_range.mp hp
    simp only [kw, zw, us, List.zip_cons_cons, List.zip_nil_right, List.zip_nil_left, List.all_cons, List.all_nil, hit, pv0 hp, pv1 hp, pv2 hp, pv3 hp, Bool.and_true]
    skip
  | 2, _ => by
    have hp : (kw 2).find? (fun k => !isProp k) = none := by decide +kernel
    have hs := selF_all l ((kw 2).zip (zw (.int m) (.bl a) (.bl b) (.bl c) 2)) (List.range l.length) (by
      intro q hq
      simp only [kw, zw, List.zip_cons_cons, List.zip_nil_right, List.zip_nil_left, List.mem_cons, List.not_mem_nil, or_false] at hq; subst hq; rfl)
    unfold out
    rw [hp, hs]
    show Except.ok _ = Except.ok _
    congr 1
    unfold sel
    apply List.filter_congr
    intro p hp
    have hp := List.mem_range.mp hp
    simp only [kw, zw, us, List.zip_cons_cons, List.zip_nil_right, List.zip_nil_left, List.all_cons, List.all_nil, hit, pv0 hp, pv1 hp, pv2 hp, pv3 hp, Bool.and_true]
    skip
  | 3, _ => by
    have hp : (kw 3).find? (fun k => !isProp k) = none := by decide +kernel
    have hs := selF_all l ((kw 3).zip (zw (.int m) (.bl a) (.bl b) (.bl c) 3)) (List.range l.length) (by
      intro q hq
      simp only [kw, zw, List.zip_cons_cons, List.zip_nil_right, List.zip_nil_left, List.mem_cons, List.not_mem_nil, or_false] at hq; subst hq; rfl)
    unfold out
    rw [hp, hs]
    show Except.ok _ = Except.ok _
    congr 1
    unfold sel
    apply List.filter_congr
    intro p hp
    have hp := List.mem_range.mp hp
    simp only [kw, zw, us, List.zip_cons_cons, List.zip_nil_right, List.zip_nil_left, List.all_cons, List.all_nil, hit, pv0 hp, pv1 hp, pv2 hp, pv3 hp, Bool.and_true]
    skip
  | 4, _ => by
    have hp : (kw 4).find? (fun k => !isProp k) = none := by decide +kernel
    have hs := selF_all l ((kw 4).zip (zw (.int m) (.bl a) (.bl b) (.bl c) 4)) (List.range l.length) (by
      intro q hq
      simp only [kw, zw, List.zip_cons_cons, List.zip_nil_right, List.zip_nil_left, List.mem_cons, List.not_mem_nil, or_false] at hq; subst hq; rfl)
    unfold out
    rw [hp, hs]
    show Except.ok _ = Except.ok _
    congr 1
    unfold sel
    apply List.filter_congr
    intro p hp
    have hp := List.mem_range.mp hp
    simp only [kw, zw, us, List.zip_cons_cons, List.zip_nil_right, List.zip_nil_left, List.all_cons, List.all_nil, hit, pv0 hp, pv1 hp, pv2 hp, pv3 hp, Bool.and_true]
    skip
  | 5, _ => by
    have hp : (kw 5).find? (fun k => !isProp k) = none := by decide +kernel
    have hs := selF_all l ((kw 5).zip (zw (.int m) (.bl a) (.bl b) (.bl c) 5)) (List.range l.length) (by
      intro q hq
      simp only [kw, zw, List.zip_cons_cons, List.zip_nil_right, List.zip_nil_left, List.mem_cons, List.not_mem_nil, or_false] at hq; rcases hq with rfl | rfl <;> rfl)
    unfold out
    rw [hp, hs]
    show Except.ok _ = Except.ok _
    congr 1
    unfold sel
    apply List.filter_congr
    intro p hp
    have hp := List.mem_range.mp hp
    simp only [kw, zw, us, List.zip_cons_cons, List.zip_nil_right, List.zip_nil_left, List.all_cons, List.all_nil, hit, pv0 hp, pv1 hp, pv2 hp, pv3 hp, Bool.and_true]
    rw [Bool.and_comm]
  | 6, _ => by
    have hp : (kw 6).find? (fun k => !isProp k) = none := by decide +kernel
    have hs := selF_all l ((kw 6).zip (zw (.int m) (.bl a) (.bl b) (.bl c) 6)) (List.range l.length) (by
      intro q hq
      simp only [kw, zw, List.zip_cons_cons, List.zip_nil_right, List.zip_nil_left, List.mem_cons, List.not_mem_nil, or_false] at hq; rcases hq with rfl | rfl <;> rfl)
    unfold out
    rw [hp, hs]
    show Except.ok _ = Except.ok _
    congr 1
    unfold sel
    apply List.filter_congr
    intro p hp
    have hp := List.mem_range.mp hp
    simp only [kw, zw, us, List.zip_cons_cons, List.zip_nil_right, List.zip_nil_left, List.all_cons, List.all_nil, hit, pv0 hp, pv1 hp, pv2 hp, pv3 hp, Bool.and_true]
    skip
  | 7, _ => by
    have hp : (kw 7).find? (fun k => !isProp k) = none := by decide +kernel
    have hs := selF_all l ((kw 7).zip (zw (.int m) (.bl a) (.bl b) (.bl c) 7)) (List.range l.length) (by
      intro q hq
      simp only [kw, zw, List.zip_cons_cons, List.zip_nil_right, List.zip_nil_left, List.mem_cons, List.not_mem_nil, or_false] at hq; rcases hq with rfl | rfl | rfl <;> rfl)
    unfold out
    rw [hp, hs]
    show Except.ok _ = Except.ok _
    congr 1
    unfold sel
    apply List.filter_congr
    intro p hp
    have hp := List.mem_range.mp hp
    simp only [kw, zw, us, List.zip_cons_cons, List.zip_nil_right, List.zip_nil_left, List.all_cons, List.all_nil, hit, pv0 hp, pv1 hp, pv2 hp, pv3 hp, Bool.and_true]
    generalize ((l[p]?).getD 0 == m) = x1; generalize ((ne (rot l p) == 0) == a) = x2; generalize (decide ((lks l)[p]?.getD 0 > 0) == c) = x3; cases x1 <;> cases x2 <;> cases x3 <;> rfl
  | 8, _ => by
    have hp : (kw 8).find? (fun k => !isProp k) = none := by decide +kernel
    have hs := selF_all l ((kw 8).zip (zw (.int m) (.bl a) (.bl b) (.bl c) 8)) (List.range l.length) (by
      intro q hq
      simp only [kw, zw, List.zip_cons_cons, List.zip_nil_right, List.zip_nil_left, List.mem_cons, List.not_mem_nil, or_false] at hq; rcases hq with rfl | rfl | rfl | rfl <;> rfl)
    unfold out
    rw [hp, hs]
    show Except.ok _ = Except.ok _
    congr 1
    unfold sel
    apply List.filter_congr
    intro p hp
    have hp := List.mem_range.mp hp
    simp only [kw, zw, us, List.zip_cons_cons, List.zip_nil_right, List.zip_nil_left, List.all_cons, List.all_nil, hit, pv0 hp, pv1 hp, pv2 hp, pv3 hp, Bool.and_true]
    skip
  | n + 9, h => absurd h (by omega)
theorem low_ni (f : List Nat) (n : Nat) : low n (.tup (ni f)) = true := by
  rw [DL.low]
  refine lowL_all fun d hd => ?_
  unfold ni at hd
  obtain ⟨k, _, rfl⟩ := List.mem_map.mp hd
  rfl
theorem selected_ok (l : List Int) (h0 : 0 < l.length) (hl : l.length ≤ 24) (m : Int) (a b c : Bool) (w : Nat) (hw : w < 9) (S : Sto) : F__law_selected [ti l, .int w, .fl [.int m, .bl a, .bl b, .bl c]] S = .ok (.tup (ni (sel l m a b c w))) S := by
  have so := sel_out (kw w) (zw (.int m) (.bl a) (.bl b) (.bl c) w) (zw_len _ _ _ _ w hw) (zw_pl rfl rfl rfl rfl w hw) l h0 (by omega) S
  have cw := cw_any l (.int m) (.bl a) (.bl b) (.bl c) S w hw
  rw [so, sel_w l m a b c w hw] at cw
  dsimp only at cw
  have hst : startD 3 [ti l, D.int w, .fl [.int m, .bl a, .bl b, .bl c]] = [some (ti l), some (.int w), some (.fl [.int m, .bl a, .bl b, .bl c])] := rfl
  have hlen : S.length < (S ++ [Ob.dtt (kwD (kw w) (zw (.int m) (.bl a) (.bl b) (.bl c) w))]).length := by simp
  have := fnC_trunc (n := 3) (m := 3) (B := B__law_selected) (ds := [ti l, .int w, .fl [.int m, .bl a, .bl b, .bl c]]) rfl (by rw [hst]; exact cw) hlen (Trunc.same _ _) (low_ni _ _)
  rw [List.take_left] at this
  exact this
def rowD (l : List Int) (p : Nat) : D := .fl [.int ((l[p]?).getD 0), .bl (decide (p ∈ begs l)), .bl (tkr l p).isNone, .bl (decide (none ∈ grw l p))]
def vO : Option Nat → V
  | none => .non
  | some q => .int q
theorem fVs_on : ∀ (os : List (Option Nat)), fVs (on os) = some (os.map vO)
  | [] => rfl
  | o :: os => by
    have ih := fVs_on os
    show fVs (optN o :: on os) = _
    cases o <;> (rw [fVs, ih]; rfl)
theorem inV_on (os : List (Option Nat)) : inV .non (os.map vO) = decide (none ∈ os) := by
  unfold inV
  induction os with
  | nil => rfl
  | cons o os ih =>
    rw [List.map_cons, List.any_cons, ih]
    cases o with
    | none => simp [vO, eqV]
    | some q => simp [vO, eqV]
theorem non_in (os : List (Option Nat)) (S : Sto) : dIn false .non (.fl (on os)) S = .ok (.bl (decide (none ∈ os))) S := by
  have e : dIn false .non (.fl (on os)) S = (match fV .non, (seqOf S (.fl (on os))).bind fVs with
    | some x, some ys => R.ok (D.bl (if false then !inV x ys else inV x ys)) S
    | _, _ => .stuck) := rfl
  have h1 : (seqOf S (.fl (on os))).bind fVs = some (os.map vO) := by
    show fVs (on os) = _
    exact fVs_on os
  rw [e, h1]
  show R.ok (D.bl (inV .non (os.map vO))) S = _
  rw [inV_on]
abbrev TKs (l : List Int) : List D := on (tkrs l)
abbrev GVs (l : List Int) : List D := (List.range l.length).map fun p => .fl (on (grw l p))
theorem rows_loop (l : List Int) (hl : l.length ≤ 24) (x0 x1 x2 x4 : Option D) (g : Nat) (tl : Ev) : ∀ (m k : Nat) (S : Sto) (x9 x10 : Option D), k + m = l.length → S[g]? = some (.lst ((List.range k).map (rowD l))) →
    ∃ y9 y10, forD yes (tTup 2 (tCons (tN 9) (tCons (tN 10) tNil))) L1_law sNil (enumD k ((l.drop k).map D.int)) (x0 :: x1 :: x2 :: some (ti l) :: x4 :: some (.fl (ni (begs l))) :: some (.loc g) :: some (.fl (TKs l)) :: some (.fl (GVs l)) :: x9 :: x10 :: tl) S = .nx (x0 :: x1 :: x2 :: some (ti l) :: x4 :: some (.fl (ni (begs l))) :: some (.loc g) :: some (.fl (TKs l)) :: some (.fl (GVs l)) :: y9 :: y10 :: tl) (S.set g (.lst ((List.range l.length).map (rowD l))))
  | 0, k, S, x9, x10, hk, hS => by
    have : k = l.length := by omega
    subst this
    rw [List.drop_length]
    refine ⟨x9, x10, ?_⟩
    show forD yes _ L1_law sNil [] _ _ = _
    rw [forD_nil trivial]
    have : S.set g (.lst ((List.range l.length).map (rowD l))) = S := by
      apply List.ext_getElem?
      intro i
      rw [List.getElem?_set]
      by_cases hi : g = i
      · subst hi
        have := (List.getElem?_eq_some_iff.mp hS).1
        rw [if_pos rfl, if_pos this, hS]
      · rw [if_neg hi]
    rw [this]
    rfl
  | m + 1, k, S, x9, x10, hk, hS => by
    have hkl : k < l.length := by omega
    rw [List.drop_eq_getElem_cons hkl, List.map_cons, enumD]
    have hT : tTup 2 (tCons (tN 9) (tCons (tN 10) tNil)) (.tup [.int (k : Int), .int l[k]]) (x0 :: x1 :: x2 :: some (ti l) :: x4 :: some (.fl (ni (begs l))) :: some (.loc g) :: some (.fl (TKs l)) :: some (.fl (GVs l)) :: x9 :: x10 :: tl) S = some (x0 :: x1 :: x2 :: some (ti l) :: x4 :: some (.fl (ni (begs l))) :: some (.loc g) :: some (.fl (TKs l)) :: some (.fl (GVs l)) :: some (.int (k : Int)) :: some (.int l[k]) :: tl, S) := rfl
    have st : L1_law (x0 :: x1 :: x2 :: some (ti l) :: x4 :: some (.fl (ni (begs l))) :: some (.loc g) :: some (.fl (TKs l)) :: some (.fl (GVs l)) :: some (.int (k : Int)) :: some (.int l[k]) :: tl) S = .nx (x0 :: x1 :: x2 :: some (ti l) :: x4 :: some (.fl (ni (begs l))) :: some (.loc g) :: some (.fl (TKs l)) :: some (.fl (GVs l)) :: some (.int (k : Int)) :: some (.int l[k]) :: tl) (S.set g (.lst ((List.range (k + 1)).map (rowD l)))) := by
      have h1 := in_fl_ni false k (begs l)
      simp only [Bool.false_eq_true, if_false] at h1
      have h2 : ∀ S, dIx (.fl (TKs l)) (.int (k : Int)) S = .ok (optN (tkr l k)) S := fun S => dIx_fl (by
        rw [atI_nn (by omega) (by simp [TKs, on, tkrs]; omega), Int.toNat_natCast]
        simp [TKs, on, tkrs, hkl])
      have h3 : ∀ S, dIx (.fl (GVs l)) (.int (k : Int)) S = .ok (.fl (on (grw l k))) S := fun S => dIx_fl (by
        rw [atI_nn (by omega) (by simp [GVs]; omega), Int.toNat_natCast]
        simp [GVs, hkl])
      have h4 := isN_opt (tkr l k)
      have h5 := non_in (grw l k)
      have isl : isLst S (.loc g) = true := islst hS
      have ap : mAppend (.loc g) [rowD l k] S = .ok .non (S.set g (.lst ((List.range (k + 1)).map (rowD l)))) := by
        rw [append_at (getl hS) (by simp; omega), List.range_succ, List.map_append]; rfl
      have er : rowD l k = .fl [.int l[k], .bl (decide (k ∈ begs l)), .bl (tkr l k).isNone, .bl (decide (none ∈ grw l k))] := by
        unfold rowD
        rw [List.getElem?_eq_getElem hkl]; rfl
      rw [er] at ap
      generalize S.set g (.lst ((List.range (k + 1)).map (rowD l))) = S1 at *
      generalize ni (begs l) = NB at *
      generalize hT : TKs l = TK at *
      generalize hG : GVs l = GV at *
      generalize on (grw l k) = GK at *
      cases hq : tkr l k with
      | none =>
        simp only [hq, optN, Option.isNone_none] at h2 ap
        simp only [eVar, eC, eOp, eT, eAnd, eOr, eNot, eIf, eAndV, eOrV, eNotV, eCall, aNil, aCons, aStar, sOf, eTup, eFl, eLoc, eSl, oNone, oSome, iOf, eNeg, eChain, eMt, bOf, eDict0, eRev, eListRg, iZipD, sRaise1, sRaise0, eCallV, List.lookup, R.bind_ok, R.bind_er, R.bind_stuck, R.toS_ok, R.toS_er, R.toS_stuck, SR.next_nx, SR.next_rt, SR.next_er, SR.next_bk, SR.next_ct, SR.next_stuck, sNil, sSeq, sBrk, sCnt, sExp, sRet, sRetN, sIf, sSet, sAsg, sAug, sPar2, sPar3, tN, DL.tTup, DL.tNil, DL.tCons, DL.tSub, iSeq, srcOf_tup, srcOf_fl, srcOf_kl, srcOf_ti, iRange1, iRange2, sFor, startD, List.map_cons, List.map_nil, List.length_cons, List.length_nil, List.replicate, List.cons_append, List.nil_append, List.getElem?_cons_zero, List.getElem?_cons_succ, List.set_cons_zero, List.set_cons_succ, dSub_int, dFdiv_int, dMod_int, dLt_int, dLe_int, dGt_int, dGe_int, dAddI_int, dSubI_int, dIsN_non, isN, dAdd_int, ll0, ll1, ll2, ll3, ll4, ll5, ll6, ll7, ll8, ll9, ll10, ll11, ll12, ll13, ll14, ll15, ll16, ll17, ll18, ll19, ll20, ll21, ll22, ll23, ll24, ll25, ll26, ll27, ll28, ll29, ll30, ll31, ll32, ll33, ll34, ll35, ll36, ll37, ll38, ll39, ll40, Nat.reduceSub, Nat.reduceAdd, Nat.reduceEqDiff, if_true, if_false, ifp_t, ifp_f, reduceIte, Bool.true_eq_false, Bool.false_eq_true, Option.map_some, Option.map_none, Option.bind_some, Option.bind_none, tSq, sSet2, seqOf_fl, seqOf_tup, seqOf_ti, eFld, eMth, eNew, sMatch, cText, cAny, cNil, tAttr, L1_law, h1, h2, h3, h5, isl, ap]
      | some q =>
        simp only [hq, optN, Option.isNone_some] at h2 ap
        simp only [eVar, eC, eOp, eT, eAnd, eOr, eNot, eIf, eAndV, eOrV, eNotV, eCall, aNil, aCons, aStar, sOf, eTup, eFl, eLoc, eSl, oNone, oSome, iOf, eNeg, eChain, eMt, bOf, eDict0, eRev, eListRg, iZipD, sRaise1, sRaise0, eCallV, List.lookup, R.bind_ok, R.bind_er, R.bind_stuck, R.toS_ok, R.toS_er, R.toS_stuck, SR.next_nx, SR.next_rt, SR.next_er, SR.next_bk, SR.next_ct, SR.next_stuck, sNil, sSeq, sBrk, sCnt, sExp, sRet, sRetN, sIf, sSet, sAsg, sAug, sPar2, sPar3, tN, DL.tTup, DL.tNil, DL.tCons, DL.tSub, iSeq, srcOf_tup, srcOf_fl, srcOf_kl, srcOf_ti, iRange1, iRange2, sFor, startD, List.map_cons, List.map_nil, List.length_cons, List.length_nil, List.replicate, List.cons_append, List.nil_append, List.getElem?_cons_zero, List.getElem?_cons_succ, List.set_cons_zero, List.set_cons_succ, dSub_int, dFdiv_int, dMod_int, dLt_int, dLe_int, dGt_int, dGe_int, dAddI_int, dSubI_int, dIsN_non, isN, dAdd_int, ll0, ll1, ll2, ll3, ll4, ll5, ll6, ll7, ll8, ll9, ll10, ll11, ll12, ll13, ll14, ll15, ll16, ll17, ll18, ll19, ll20, ll21, ll22, ll23, ll24, ll25, ll26, ll27, ll28, ll29, ll30, ll31, ll32, ll33, ll34, ll35, ll36, ll37, ll38, ll39, ll40, Nat.reduceSub, Nat.reduceAdd, Nat.reduceEqDiff, if_true, if_false, ifp_t, ifp_f, reduceIte, Bool.true_eq_false, Bool.false_eq_true, Option.map_some, Option.map_none, Option.bind_some, Option.bind_none, tSq, sSet2, seqOf_fl, seqOf_tup, seqOf_ti, eFld, eMth, eNew, sMatch, cText, cAny, cNil, tAttr, L1_law, h1, h2, h3, h5, isl, ap]
    obtain ⟨y9, y10, ih⟩ := rows_loop l hl x0 x1 x2 x4 g tl m (k + 1) (S.set g (.lst ((List.range (k + 1)).map (rowD l)))) (some (.int (k : Int))) (some (.int l[k])) (by omega) (by
      rw [List.getElem?_set_self (List.getElem?_eq_some_iff.mp hS).1])
    refine ⟨y9, y10, ?_⟩
    rw [forD_cons (g := yes) (T := tTup 2 (tCons (tN 9) (tCons (tN 10) tNil))) (B := L1_law) (Z := sNil) True.intro hT st, ih]
    rw [List.set_set]
def rwB (l : List Int) (m : Int) (a b c : Bool) (p k : Nat) : Bool := match k with
  | 0 => (l[p]?).getD 0 == m
  | 1 => decide (p ∈ begs l) == a
  | 2 => (tkr l p).isNone == b
  | _ => decide (none ∈ grw l p) == c
theorem rw_hit {l : List Int} (h0 : ∀ t ∈ l, 0 ≤ t) {p : Nat} (hp : p < l.length) (m : Int) (a b c : Bool) : ∀ k, rwB l m a b c p k = hit l m a b c p k
  | 0 => rfl
  | 1 => by
    show (decide (p ∈ begs l) == a) = ((ne (rot l p) == 0) == a)
    have : decide (p ∈ begs l) = (ne (rot l p) == 0) := by
      by_cases h : p ∈ begs l
      · have e := (mem_begs.mp h).2
        rw [decide_eq_true h, e]; rfl
      · have e : ¬ ne (rot l p) = 0 := fun e => h (mem_begs.mpr ⟨hp, e⟩)
        rw [decide_eq_false h]
        symm
        simpa using e
    rw [this]
  | 2 => rfl
  | k + 3 => by
    show (decide (none ∈ grw l p) == c) = (decide ((lks l)[p]?.getD 0 > 0) == c)
    have hk : p < (lks l).length := by unfold lks; simpa using hp
    have e : (lks l)[p]?.getD 0 = (((grw l p).count none : Nat) : Int) := by
      rw [grw_none h0 hp]
      unfold lks
      rw [List.getElem?_map, List.getElem?_range hp]; rfl
    rw [e]
    have : decide (none ∈ grw l p) = decide ((((grw l p).count none : Nat) : Int) > 0) := by
      apply decide_eq_decide.mpr
      rw [← List.count_pos_iff]
      omega
    rw [this]
theorem neq_bl (a b : Bool) (S : Sto) : dEq true (.bl a) (.bl b) S = .ok (.bl (!(b == a))) S := by cases a <;> cases b <;> rfl
theorem neq_int (a b : Int) (S : Sto) : dEq true (.int a) (.int b) S = .ok (.bl (!(b == a))) S := by
  have : ∀ S, dEq true (.int a) (.int b) S = .ok (.bl (!(a == b))) S := fun S => rfl
  rw [this, Bool.beq_comm]
abbrev WD (m : Int) (a b c : Bool) : D := .fl [.int m, .bl a, .bl b, .bl c]
theorem q_at (l : List Int) (m : Int) (a b c : Bool) (p : Nat) (x0 x1 x3 x4 x5 : Option D) (S : Sto) : ∀ k < 4, Q1__law_due [x0, x1, some (WD m a b c), x3, x4, x5, some (rowD l p), some (.int (k : Nat))] S = .ok (!rwB l m a b c p k) S

  | 0, _ => by
    unfold rowD
    have h1 : ∀ S, dIx (WD m a b c) (.int 0) S = .ok (.int m) S := fun S => rfl
    have h2 : ∀ S, dIx (.fl [.int ((l[p]?).getD 0), .bl (decide (p ∈ begs l)), .bl (tkr l p).isNone, .bl (decide (none ∈ grw l p))]) (.int 0) S = .ok (.int ((l[p]?).getD 0)) S := fun S => rfl
    show Q1__law_due [x0, x1, some (WD m a b c), x3, x4, x5, some (.fl [.int ((l[p]?).getD 0), .bl (decide (p ∈ begs l)), .bl (tkr l p).isNone, .bl (decide (none ∈ grw l p))]), some (.int 0)] S = .ok (!((l[p]?).getD 0 == m)) S
    simp only [eVar, eC, eOp, eT, eAnd, eOr, eNot, eIf, eAndV, eOrV, eNotV, eCall, aNil, aCons, aStar, sOf, eTup, eFl, eLoc, eSl, oNone, oSome, iOf, eNeg, eChain, eMt, bOf, eDict0, eRev, eListRg, iZipD, sRaise1, sRaise0, eCallV, List.lookup, R.bind_ok, R.bind_er, R.bind_stuck, R.toS_ok, R.toS_er, R.toS_stuck, SR.next_nx, SR.next_rt, SR.next_er, SR.next_bk, SR.next_ct, SR.next_stuck, sNil, sSeq, sBrk, sCnt, sExp, sRet, sRetN, sIf, sSet, sAsg, sAug, sPar2, sPar3, tN, DL.tTup, DL.tNil, DL.tCons, DL.tSub, iSeq, srcOf_tup, srcOf_fl, srcOf_kl, srcOf_ti, iRange1, iRange2, sFor, startD, List.map_cons, List.map_nil, List.length_cons, List.length_nil, List.replicate, List.cons_append, List.nil_append, List.getElem?_cons_zero, List.getElem?_cons_succ, List.set_cons_zero, List.set_cons_succ, dSub_int, dFdiv_int, dMod_int, dLt_int, dLe_int, dGt_int, dGe_int, dAddI_int, dSubI_int, dIsN_non, isN, dAdd_int, ll0, ll1, ll2, ll3, ll4, ll5, ll6, ll7, ll8, ll9, ll10, ll11, ll12, ll13, ll14, ll15, ll16, ll17, ll18, ll19, ll20, ll21, ll22, ll23, ll24, ll25, ll26, ll27, ll28, ll29, ll30, ll31, ll32, ll33, ll34, ll35, ll36, ll37, ll38, ll39, ll40, Nat.reduceSub, Nat.reduceAdd, Nat.reduceEqDiff, if_true, if_false, ifp_t, ifp_f, reduceIte, Bool.true_eq_false, Bool.false_eq_true, Option.map_some, Option.map_none, Option.bind_some, Option.bind_none, tSq, sSet2, seqOf_fl, seqOf_tup, seqOf_ti, eFld, eMth, eNew, sMatch, cText, cAny, cNil, tAttr, Q1__law_due, h1, h2, neq_bl, neq_int]
  | 1, _ => by
    unfold rowD
    have h1 : ∀ S, dIx (WD m a b c) (.int 1) S = .ok (.bl a) S := fun S => rfl
    have h2 : ∀ S, dIx (.fl [.int ((l[p]?).getD 0), .bl (decide (p ∈ begs l)), .bl (tkr l p).isNone, .bl (decide (none ∈ grw l p))]) (.int 1) S = .ok (.bl (decide (p ∈ begs l))) S := fun S => rfl
    show Q1__law_due [x0, x1, some (WD m a b c), x3, x4, x5, some (.fl [.int ((l[p]?).getD 0), .bl (decide (p ∈ begs l)), .bl (tkr l p).isNone, .bl (decide (none ∈ grw l p))]), some (.int 1)] S = .ok (!(decide (p ∈ begs l) == a)) S
    simp only [eVar, eC, eOp, eT, eAnd, eOr, eNot, eIf, eAndV, eOrV, eNotV, eCall, aNil, aCons, aStar, sOf, eTup, eFl, eLoc, eSl, oNone, oSome, iOf, eNeg, eChain, eMt, bOf, eDict0, eRev, eListRg, iZipD, sRaise1, sRaise0, eCallV, List.lookup, R.bind_ok, R.bind_er, R.bind_stuck, R.toS_ok, R.toS_er, R.toS_stuck, SR.next_nx, SR.next_rt, SR.next_er, SR.next_bk, SR.next_ct, SR.next_stuck, sNil, sSeq, sBrk, sCnt, sExp, sRet, sRetN, sIf, sSet, sAsg, sAug, sPar2, sPar3, tN, DL.tTup, DL.tNil, DL.tCons, DL.tSub, iSeq, srcOf_tup, srcOf_fl, srcOf_kl, srcOf_ti, iRange1, iRange2, sFor, startD, List.map_cons, List.map_nil, List.length_cons, List.length_nil, List.replicate, List.cons_append, List.nil_append, List.getElem?_cons_zero, List.getElem?_cons_succ, List.set_cons_zero, List.set_cons_succ, dSub_int, dFdiv_int, dMod_int, dLt_int, dLe_int, dGt_int, dGe_int, dAddI_int, dSubI_int, dIsN_non, isN, dAdd_int, ll0, ll1, ll2, ll3, ll4, ll5, ll6, ll7, ll8, ll9, ll10, ll11, ll12, ll13, ll14, ll15, ll16, ll17, ll18, ll19, ll20, ll21, ll22, ll23, ll24, ll25, ll26, ll27, ll28, ll29, ll30, ll31, ll32, ll33, ll34, ll35, ll36, ll37, ll38, ll39, ll40, Nat.reduceSub, Nat.reduceAdd, Nat.reduceEqDiff, if_true, if_false, ifp_t, ifp_f, reduceIte, Bool.true_eq_false, Bool.false_eq_true, Option.map_some, Option.map_none, Option.bind_some, Option.bind_none, tSq, sSet2, seqOf_fl, seqOf_tup, seqOf_ti, eFld, eMth, eNew, sMatch, cText, cAny, cNil, tAttr, Q1__law_due, h1, h2, neq_bl, neq_int]
  | 2, _ => by
    unfold rowD
    have h1 : ∀ S, dIx (WD m a b c) (.int 2) S = .ok (.bl b) S := fun S => rfl
    have h2 : ∀ S, dIx (.fl [.int ((l[p]?).getD 0), .bl (decide (p ∈ begs l)), .bl (tkr l p).isNone, .bl (decide (none ∈ grw l p))]) (.int 2) S = .ok (.bl (tkr l p).isNone) S := fun S => rfl
    show Q1__law_due [x0, x1, some (WD m a b c), x3, x4, x5, some (.fl [.int ((l[p]?).getD 0), .bl (decide (p ∈ begs l)), .bl (tkr l p).isNone, .bl (decide (none ∈ grw l p))]), some (.int 2)] S = .ok (!((tkr l p).isNone == b)) S
    simp only [eVar, eC, eOp, eT, eAnd, eOr, eNot, eIf, eAndV, eOrV, eNotV, eCall, aNil, aCons, aStar, sOf, eTup, eFl, eLoc, eSl, oNone, oSome, iOf, eNeg, eChain, eMt, bOf, eDict0, eRev, eListRg, iZipD, sRaise1, sRaise0, eCallV, List.lookup, R.bind_ok, R.bind_er, R.bind_stuck, R.toS_ok, R.toS_er, R.toS_stuck, SR.next_nx, SR.next_rt, SR.next_er, SR.next_bk, SR.next_ct, SR.next_stuck, sNil, sSeq, sBrk, sCnt, sExp, sRet, sRetN, sIf, sSet, sAsg, sAug, sPar2, sPar3, tN, DL.tTup, DL.tNil, DL.tCons, DL.tSub, iSeq, srcOf_tup, srcOf_fl, srcOf_kl, srcOf_ti, iRange1, iRange2, sFor, startD, List.map_cons, List.map_nil, List.length_cons, List.length_nil, List.replicate, List.cons_append, List.nil_append, List.getElem?_cons_zero, List.getElem?_cons_succ, List.set_cons_zero, List.set_cons_succ, dSub_int, dFdiv_int, dMod_int, dLt_int, dLe_int, dGt_int, dGe_int, dAddI_int, dSubI_int, dIsN_non, isN, dAdd_int, ll0, ll1, ll2, ll3, ll4, ll5, ll6, ll7, ll8, ll9, ll10, ll11, ll12, ll13, ll14, ll15, ll16, ll17, ll18, ll19, ll20, ll21, ll22, ll23, ll24, ll25, ll26, ll27, ll28, ll29, ll30, ll31, ll32, ll33, ll34, ll35, ll36, ll37, ll38, ll39, ll40, Nat.reduceSub, Nat.reduceAdd, Nat.reduceEqDiff, if_true, if_false, ifp_t, ifp_f, reduceIte, Bool.true_eq_false, Bool.false_eq_true, Option.map_some, Option.map_none, Option.bind_some, Option.bind_none, tSq, sSet2, seqOf_fl, seqOf_tup, seqOf_ti, eFld, eMth, eNew, sMatch, cText, cAny, cNil, tAttr, Q1__law_due, h1, h2, neq_bl, neq_int]
  | 3, _ => by
    unfold rowD
    have h1 : ∀ S, dIx (WD m a b c) (.int 3) S = .ok (.bl c) S := fun S => rfl
    have h2 : ∀ S, dIx (.fl [.int ((l[p]?).getD 0), .bl (decide (p ∈ begs l)), .bl (tkr l p).isNone, .bl (decide (none ∈ grw l p))]) (.int 3) S = .ok (.bl (decide (none ∈ grw l p))) S := fun S => rfl
    show Q1__law_due [x0, x1, some (WD m a b c), x3, x4, x5, some (.fl [.int ((l[p]?).getD 0), .bl (decide (p ∈ begs l)), .bl (tkr l p).isNone, .bl (decide (none ∈ grw l p))]), some (.int 3)] S = .ok (!(decide (none ∈ grw l p) == c)) S
    simp only [eVar, eC, eOp, eT, eAnd, eOr, eNot, eIf, eAndV, eOrV, eNotV, eCall, aNil, aCons, aStar, sOf, eTup, eFl, eLoc, eSl, oNone, oSome, iOf, eNeg, eChain, eMt, bOf, eDict0, eRev, eListRg, iZipD, sRaise1, sRaise0, eCallV, List.lookup, R.bind_ok, R.bind_er, R.bind_stuck, R.toS_ok, R.toS_er, R.toS_stuck, SR.next_nx, SR.next_rt, SR.next_er, SR.next_bk, SR.next_ct, SR.next_stuck, sNil, sSeq, sBrk, sCnt, sExp, sRet, sRetN, sIf, sSet, sAsg, sAug, sPar2, sPar3, tN, DL.tTup, DL.tNil, DL.tCons, DL.tSub, iSeq, srcOf_tup, srcOf_fl, srcOf_kl, srcOf_ti, iRange1, iRange2, sFor, startD, List.map_cons, List.map_nil, List.length_cons, List.length_nil, List.replicate, List.cons_append, List.nil_append, List.getElem?_cons_zero, List.getElem?_cons_succ, List.set_cons_zero, List.set_cons_succ, dSub_int, dFdiv_int, dMod_int, dLt_int, dLe_int, dGt_int, dGe_int, dAddI_int, dSubI_int, dIsN_non, isN, dAdd_int, ll0, ll1, ll2, ll3, ll4, ll5, ll6, ll7, ll8, ll9, ll10, ll11, ll12, ll13, ll14, ll15, ll16, ll17, ll18, ll19, ll20, ll21, ll22, ll23, ll24, ll25, ll26, ll27, ll28, ll29, ll30, ll31, ll32, ll33, ll34, ll35, ll36, ll37, ll38, ll39, ll40, Nat.reduceSub, Nat.reduceAdd, Nat.reduceEqDiff, if_true, if_false, ifp_t, ifp_f, reduceIte, Bool.true_eq_false, Bool.false_eq_true, Option.map_some, Option.map_none, Option.bind_some, Option.bind_none, tSq, sSet2, seqOf_fl, seqOf_tup, seqOf_ti, eFld, eMth, eNew, sMatch, cText, cAny, cNil, tAttr, Q1__law_due, h1, h2, neq_bl, neq_int]
  | n + 4, h => absurd h (by omega)
def usD (w : Nat) : List D := (us w).map fun k : Nat => .int (k : Int)
theorem us_lt : ∀ w, ∀ k ∈ us w, k < 4

  | 0 => by decide
  | 1 => by decide
  | 2 => by decide
  | 3 => by decide
  | 4 => by decide
  | 5 => by decide
  | 6 => by decide
  | 7 => by decide
  | n + 8 => by
    intro k hk
    simp only [us, List.mem_cons, List.not_mem_nil, or_false] at hk
    omega
theorem us_len : ∀ w, (us w).length ≤ 4

  | 0 => by decide
  | 1 => by decide
  | 2 => by decide
  | 3 => by decide
  | 4 => by decide
  | 5 => by decide
  | 6 => by decide
  | 7 => by decide
  | n + 8 => by
    show [0, 1, 2, 3].length ≤ 4
    decide
theorem due_loop (l : List Int) (hl : l.length ≤ 24) (h0 : ∀ t ∈ l, 0 ≤ t) (m : Int) (a b c : Bool) (w : Nat) (S0 : Sto) (G : Sto → Prop) (hG : ∀ acc, G (S0 ++ [.lst acc])) (x0 x1 : Option D) : ∀ (mm k : Nat) (acc : List Nat) (x5 x6 x7 : Option D), k + mm = l.length → acc.length ≤ k →
    ∃ y5 y6 y7, forD G (tTup 2 (tCons (tN 5) (tCons (tN 6) tNil))) L1__law_due sNil (enumD k ((List.range' k mm).map (rowD l))) [x0, x1, some (WD m a b c), some (.fl (usD w)), some (.loc S0.length), x5, x6, x7] (S0 ++ [.lst (ni acc)]) = .nx [x0, x1, some (WD m a b c), some (.fl (usD w)), some (.loc S0.length), y5, y6, y7] (S0 ++ [.lst (ni (acc ++ (List.range' k mm).filter fun p => (us w).all (hit l m a b c p)))])
  | 0, k, acc, x5, x6, x7, _, _ => by
    refine ⟨x5, x6, x7, ?_⟩
    show forD G _ L1__law_due sNil [] _ _ = _
    rw [forD_nil (hG _)]
    simp [List.range']
    rfl
  | mm + 1, k, acc, x5, x6, x7, hk, ha => by
    have hkl : k < l.length := by omega
    rw [List.range'_succ, List.map_cons, enumD]
    have hT : tTup 2 (tCons (tN 5) (tCons (tN 6) tNil)) (.tup [.int (k : Int), rowD l k]) [x0, x1, some (WD m a b c), some (.fl (usD w)), some (.loc S0.length), x5, x6, x7] (S0 ++ [.lst (ni acc)]) = some ([x0, x1, some (WD m a b c), some (.fl (usD w)), some (.loc S0.length), some (.int (k : Int)), some (rowD l k), x7], S0 ++ [.lst (ni acc)]) := rfl
    have key := eLc_pure (src := iSeq (eVar 3)) (T := tN 7) (vs := [7]) (c := Q1__law_due) (f := E1__law_due) (ρ := [x0, x1, some (WD m a b c), some (.fl (usD w)), some (.loc S0.length), some (.int (k : Int)), some (rowD l k), x7]) (S := S0 ++ [.lst (ni acc)]) (usD w)
      (fun d => [x0, x1, some (WD m a b c), some (.fl (usD w)), some (.loc S0.length), some (.int (k : Int)), some (rowD l k), some d]) (fun d => match d with | .int i => !rwB l m a b c k i.toNat | _ => false) (fun d => d) rfl (fun d hd S' => by
        obtain ⟨j, hj, rfl⟩ := List.mem_map.mp hd
        refine ⟨rfl, ?_, fun _ => by simp only [eVar, eC, eOp, eT, eAnd, eOr, eNot, eIf, eAndV, eOrV, eNotV, eCall, aNil, aCons, aStar, sOf, eTup, eFl, eLoc, eSl, oNone, oSome, iOf, eNeg, eChain, eMt, bOf, eDict0, eRev, eListRg, iZipD, sRaise1, sRaise0, eCallV, List.lookup, R.bind_ok, R.bind_er, R.bind_stuck, R.toS_ok, R.toS_er, R.toS_stuck, SR.next_nx, SR.next_rt, SR.next_er, SR.next_bk, SR.next_ct, SR.next_stuck, sNil, sSeq, sBrk, sCnt, sExp, sRet, sRetN, sIf, sSet, sAsg, sAug, sPar2, sPar3, tN, DL.tTup, DL.tNil, DL.tCons, DL.tSub, iSeq, srcOf_tup, srcOf_fl, srcOf_kl, srcOf_ti, iRange1, iRange2, sFor, startD, List.map_cons, List.map_nil, List.length_cons, List.length_nil, List.replicate, List.cons_append, List.nil_append, List.getElem?_cons_zero, List.getElem?_cons_succ, List.set_cons_zero, List.set_cons_succ, dSub_int, dFdiv_int, dMod_int, dLt_int, dLe_int, dGt_int, dGe_int, dAddI_int, dSubI_int, dIsN_non, isN, dAdd_int, ll0, ll1, ll2, ll3, ll4, ll5, ll6, ll7, ll8, ll9, ll10, ll11, ll12, ll13, ll14, ll15, ll16, ll17, ll18, ll19, ll20, ll21, ll22, ll23, ll24, ll25, ll26, ll27, ll28, ll29, ll30, ll31, ll32, ll33, ll34, ll35, ll36, ll37, ll38, ll39, ll40, Nat.reduceSub, Nat.reduceAdd, Nat.reduceEqDiff, if_true, if_false, ifp_t, ifp_f, reduceIte, Bool.true_eq_false, Bool.false_eq_true, Option.map_some, Option.map_none, Option.bind_some, Option.bind_none, tSq, sSet2, seqOf_fl, seqOf_tup, seqOf_ti, eFld, eMth, eNew, sMatch, cText, cAny, cNil, tAttr, E1__law_due]⟩
        exact q_at l m a b c k x0 x1 (some (.fl (usD w))) (some (.loc S0.length)) (some (.int (k : Int))) S' j (us_lt w j hj)) (by
        unfold usD
        rw [List.length_map]
        exact Nat.le_trans (us_len w) (by decide)) (fun d hd _ => by
        obtain ⟨j, _, rfl⟩ := List.mem_map.mp hd
        rfl)
    have hemp : (((usD w).filter (fun d => match d with | .int i => !rwB l m a b c k i.toNat | _ => false)).map (fun d => d)).isEmpty = (us w).all (hit l m a b c k) := by
      have e1 : (fun d => match d with | D.int i => !rwB l m a b c k i.toNat | _ => false) ∘ (fun j : Nat => D.int (j : Int)) = fun j : Nat => !hit l m a b c k j := by
        funext j
        show (!rwB l m a b c k ((j : Int).toNat)) = _
        rw [Int.toNat_natCast, rw_hit h0 hkl]
      unfold usD
      rw [List.map_id', List.filter_map, e1, List.isEmpty_map]
      generalize us w = u
      induction u with
      | nil => rfl
      | cons j u ih =>
        rw [List.all_cons]
        cases hj : hit l m a b c k j with
        | true => rw [List.filter_cons_of_neg (by simp [hj]), ih]; rfl
        | false => rw [List.filter_cons_of_pos (by simp [hj])]; rfl
    have dq : ∀ (xs : List D) S, dEqY false (.fl xs) (.fl []) S = .ok (.bl xs.isEmpty) S := fun xs S => rfl
    have isl : isLst (S0 ++ [.lst (ni acc)]) (.loc S0.length) = true := islst (xs := ni acc) (by simp)
    have ap := append_end S0 (ni acc) (.int (k : Int)) (by
      unfold ni
      rw [List.length_map]
      exact Nat.lt_of_le_of_lt (show acc.length ≤ 100 by omega) (by decide))
    have ni1 : ni acc ++ [.int (k : Int)] = ni (acc ++ [k]) := by unfold ni; rw [List.map_append]; rfl
    rw [ni1] at ap
    generalize hF : ((usD w).filter (fun d => match d with | .int i => !rwB l m a b c k i.toNat | _ => false)).map (fun d => d) = FL at *
    cases hb : (us w).all (hit l m a b c k) with
    | true =>
      rw [hb] at hemp
      have st : L1__law_due [x0, x1, some (WD m a b c), some (.fl (usD w)), some (.loc S0.length), some (.int (k : Int)), some (rowD l k), x7] (S0 ++ [.lst (ni acc)]) = .nx [x0, x1, some (WD m a b c), some (.fl (usD w)), some (.loc S0.length), some (.int (k : Int)), some (rowD l k), x7] (S0 ++ [.lst (ni (acc ++ [k]))]) := by
        generalize rowD l k = RD at *
        generalize usD w = UD at *
        generalize hS1 : S0 ++ [Ob.lst (ni acc)] = S1 at *
        generalize hS2 : S0 ++ [Ob.lst (ni (acc ++ [k]))] = S2 at *
        simp only [eVar, eC, eOp, eT, eAnd, eOr, eNot, eIf, eAndV, eOrV, eNotV, eCall, aNil, aCons, aStar, sOf, eTup, eFl, eLoc, eSl, oNone, oSome, iOf, eNeg, eChain, eMt, bOf, eDict0, eRev, eListRg, iZipD, sRaise1, sRaise0, eCallV, List.lookup, R.bind_ok, R.bind_er, R.bind_stuck, R.toS_ok, R.toS_er, R.toS_stuck, SR.next_nx, SR.next_rt, SR.next_er, SR.next_bk, SR.next_ct, SR.next_stuck, sNil, sSeq, sBrk, sCnt, sExp, sRet, sRetN, sIf, sSet, sAsg, sAug, sPar2, sPar3, tN, DL.tTup, DL.tNil, DL.tCons, DL.tSub, iSeq, srcOf_tup, srcOf_fl, srcOf_kl, srcOf_ti, iRange1, iRange2, sFor, startD, List.map_cons, List.map_nil, List.length_cons, List.length_nil, List.replicate, List.cons_append, List.nil_append, List.getElem?_cons_zero, List.getElem?_cons_succ, List.set_cons_zero, List.set_cons_succ, dSub_int, dFdiv_int, dMod_int, dLt_int, dLe_int, dGt_int, dGe_int, dAddI_int, dSubI_int, dIsN_non, isN, dAdd_int, ll0, ll1, ll2, ll3, ll4, ll5, ll6, ll7, ll8, ll9, ll10, ll11, ll12, ll13, ll14, ll15, ll16, ll17, ll18, ll19, ll20, ll21, ll22, ll23, ll24, ll25, ll26, ll27, ll28, ll29, ll30, ll31, ll32, ll33, ll34, ll35, ll36, ll37, ll38, ll39, ll40, Nat.reduceSub, Nat.reduceAdd, Nat.reduceEqDiff, if_true, if_false, ifp_t, ifp_f, reduceIte, Bool.true_eq_false, Bool.false_eq_true, Option.map_some, Option.map_none, Option.bind_some, Option.bind_none, tSq, sSet2, seqOf_fl, seqOf_tup, seqOf_ti, eFld, eMth, eNew, sMatch, cText, cAny, cNil, tAttr, L1__law_due, key, dq, hemp, isl, ap]
      obtain ⟨y5, y6, y7, ih⟩ := due_loop l hl h0 m a b c w S0 G hG x0 x1 mm (k + 1) (acc ++ [k]) (some (.int (k : Int))) (some (rowD l k)) x7 (by omega) (by simp; omega)
      refine ⟨y5, y6, y7, ?_⟩
      rw [forD_cons (g := G) (T := tTup 2 (tCons (tN 5) (tCons (tN 6) tNil))) (B := L1__law_due) (Z := sNil) (hG _) hT st, ih]
      rw [List.filter_cons_of_pos (by simp [hb]), List.append_assoc]
      rfl
    | false =>
      rw [hb] at hemp
      have st : L1__law_due [x0, x1, some (WD m a b c), some (.fl (usD w)), some (.loc S0.length), some (.int (k : Int)), some (rowD l k), x7] (S0 ++ [.lst (ni acc)]) = .nx [x0, x1, some (WD m a b c), some (.fl (usD w)), some (.loc S0.length), some (.int (k : Int)), some (rowD l k), x7] (S0 ++ [.lst (ni acc)]) := by
        generalize rowD l k = RD at *
        generalize usD w = UD at *
        generalize hS1 : S0 ++ [Ob.lst (ni acc)] = S1 at *
        simp only [eVar, eC, eOp, eT, eAnd, eOr, eNot, eIf, eAndV, eOrV, eNotV, eCall, aNil, aCons, aStar, sOf, eTup, eFl, eLoc, eSl, oNone, oSome, iOf, eNeg, eChain, eMt, bOf, eDict0, eRev, eListRg, iZipD, sRaise1, sRaise0, eCallV, List.lookup, R.bind_ok, R.bind_er, R.bind_stuck, R.toS_ok, R.toS_er, R.toS_stuck, SR.next_nx, SR.next_rt, SR.next_er, SR.next_bk, SR.next_ct, SR.next_stuck, sNil, sSeq, sBrk, sCnt, sExp, sRet, sRetN, sIf, sSet, sAsg, sAug, sPar2, sPar3, tN, DL.tTup, DL.tNil, DL.tCons, DL.tSub, iSeq, srcOf_tup, srcOf_fl, srcOf_kl, srcOf_ti, iRange1, iRange2, sFor, startD, List.map_cons, List.map_nil, List.length_cons, List.length_nil, List.replicate, List.cons_append, List.nil_append, List.getElem?_cons_zero, List.getElem?_cons_succ, List.set_cons_zero, List.set_cons_succ, dSub_int, dFdiv_int, dMod_int, dLt_int, dLe_int, dGt_int, dGe_int, dAddI_int, dSubI_int, dIsN_non, isN, dAdd_int, ll0, ll1, ll2, ll3, ll4, ll5, ll6, ll7, ll8, ll9, ll10, ll11, ll12, ll13, ll14, ll15, ll16, ll17, ll18, ll19, ll20, ll21, ll22, ll23, ll24, ll25, ll26, ll27, ll28, ll29, ll30, ll31, ll32, ll33, ll34, ll35, ll36, ll37, ll38, ll39, ll40, Nat.reduceSub, Nat.reduceAdd, Nat.reduceEqDiff, if_true, if_false, ifp_t, ifp_f, reduceIte, Bool.true_eq_false, Bool.false_eq_true, Option.map_some, Option.map_none, Option.bind_some, Option.bind_none, tSq, sSet2, seqOf_fl, seqOf_tup, seqOf_ti, eFld, eMth, eNew, sMatch, cText, cAny, cNil, tAttr, L1__law_due, key, dq, hemp, isl, ap]
      obtain ⟨y5, y6, y7, ih⟩ := due_loop l hl h0 m a b c w S0 G hG x0 x1 mm (k + 1) acc (some (.int (k : Int))) (some (rowD l k)) x7 (by omega) (by omega)
      refine ⟨y5, y6, y7, ?_⟩
      rw [forD_cons (g := G) (T := tTup 2 (tCons (tN 5) (tCons (tN 6) tNil))) (B := L1__law_due) (Z := sNil) (hG _) hT st, ih]
      rw [List.filter_cons_of_neg (by simp [hb])]
theorem used_ix : ∀ w < 9, ∀ S, dIx (.fl [.fl [], .fl [.int 0], .fl [.int 1], .fl [.int 2], .fl [.int 3], .fl [.int 0, .int 2], .fl [.int 1, .int 3], .fl [.int 0, .int 1, .int 3], .fl [.int 0, .int 1, .int 2, .int 3]]) (.int (w : Nat)) S = .ok (.fl (usD w)) S

  | 0, _ => fun S => rfl
  | 1, _ => fun S => rfl
  | 2, _ => fun S => rfl
  | 3, _ => fun S => rfl
  | 4, _ => fun S => rfl
  | 5, _ => fun S => rfl
  | 6, _ => fun S => rfl
  | 7, _ => fun S => rfl
  | 8, _ => fun S => rfl
  | n + 9, h => absurd h (by omega)
theorem due_ok (l : List Int) (hl : l.length ≤ 24) (h0 : ∀ t ∈ l, 0 ≤ t) (m : Int) (a b c : Bool) (w : Nat) (hw : w < 9) {S : Sto} {g : Nat} (hg : S[g]? = some (.lst ((List.range l.length).map (rowD l)))) : F__law_due [.loc g, .int w, WD m a b c] S = .ok (.tup (ni (sel l m a b c w))) S := by
  have hst : startD 8 [D.loc g, D.int w, WD m a b c] = [some (.loc g), some (.int w), some (WD m a b c), none, none, none, none, none] := rfl
  have gq : ∀ acc, getQ (S ++ [Ob.lst acc]) g = some ((List.range l.length).map (rowD l)) := fun acc => by
    unfold getQ
    rw [get_app hg]
  obtain ⟨y5, y6, y7, dl⟩ := due_loop l hl h0 m a b c w S (fun S => getQ S g = some ((List.range l.length).map (rowD l))) gq (some (.loc g)) (some (.int w)) l.length 0 [] none none none (by omega) (by simp)
  rw [← List.range_eq_range', List.nil_append] at dl
  have dl : forD (fun S => getQ S g = some ((List.range l.length).map (rowD l))) (tTup 2 (tCons (tN 5) (tCons (tN 6) tNil))) L1__law_due sNil (enumD 0 ((List.range l.length).map (rowD l))) [some (.loc g), some (.int (w : Int)), some (WD m a b c), some (.fl (usD w)), some (.loc S.length), none, none, none] (S ++ [.lst []]) = .nx [some (.loc g), some (.int (w : Int)), some (WD m a b c), some (.fl (usD w)), some (.loc S.length), y5, y6, y7] (S ++ [.lst (ni (sel l m a b c w))]) := dl
  have sl := srcL (gq [])
  have ix := used_ix w hw
  have tu : bTuple [.loc S.length] (S ++ [.lst (ni (sel l m a b c w))]) = .ok (.tup (ni (sel l m a b c w))) (S ++ [.lst (ni (sel l m a b c w))]) := tupl (by simp)
  have hb : B__law_due (startD 8 [D.loc g, D.int w, WD m a b c]) S = .rt (.tup (ni (sel l m a b c w))) (S ++ [.lst (ni (sel l m a b c w))]) := by
    rw [hst]
    unfold B__law_due
    generalize sel l m a b c w = SL at *
    generalize usD w = UD at *
    generalize WD m a b c = WW at *
    generalize (List.range l.length).map (rowD l) = RW at *
    simp only [eVar, eC, eOp, eT, eAnd, eOr, eNot, eIf, eAndV, eOrV, eNotV, eCall, aNil, aCons, aStar, sOf, eTup, eFl, eLoc, eSl, oNone, oSome, iOf, eNeg, eChain, eMt, bOf, eDict0, eRev, eListRg, iZipD, sRaise1, sRaise0, eCallV, List.lookup, R.bind_ok, R.bind_er, R.bind_stuck, R.toS_ok, R.toS_er, R.toS_stuck, SR.next_nx, SR.next_rt, SR.next_er, SR.next_bk, SR.next_ct, SR.next_stuck, sNil, sSeq, sBrk, sCnt, sExp, sRet, sRetN, sIf, sSet, sAsg, sAug, sPar2, sPar3, tN, DL.tTup, DL.tNil, DL.tCons, DL.tSub, iSeq, srcOf_tup, srcOf_fl, srcOf_kl, srcOf_ti, iRange1, iRange2, sFor, startD, List.map_cons, List.map_nil, List.length_cons, List.length_nil, List.replicate, List.cons_append, List.nil_append, List.getElem?_cons_zero, List.getElem?_cons_succ, List.set_cons_zero, List.set_cons_succ, dSub_int, dFdiv_int, dMod_int, dLt_int, dLe_int, dGt_int, dGe_int, dAddI_int, dSubI_int, dIsN_non, isN, dAdd_int, ll0, ll1, ll2, ll3, ll4, ll5, ll6, ll7, ll8, ll9, ll10, ll11, ll12, ll13, ll14, ll15, ll16, ll17, ll18, ll19, ll20, ll21, ll22, ll23, ll24, ll25, ll26, ll27, ll28, ll29, ll30, ll31, ll32, ll33, ll34, ll35, ll36, ll37, ll38, ll39, ll40, Nat.reduceSub, Nat.reduceAdd, Nat.reduceEqDiff, if_true, if_false, ifp_t, ifp_f, reduceIte, Bool.true_eq_false, Bool.false_eq_true, Option.map_some, Option.map_none, Option.bind_some, Option.bind_none, tSq, sSet2, seqOf_fl, seqOf_tup, seqOf_ti, eFld, eMth, eNew, sMatch, cText, cAny, cNil, tAttr, ix, iEnumD, sl, dl, tu]
  have := fnC_trunc (n := 8) (m := 3) (B := B__law_due) (ds := [.loc g, .int w, WD m a b c]) rfl hb (by simp) (Trunc.same _ _) (low_ni _ _)
  rw [List.take_left] at this
  exact this
theorem law_ok : LawOk F_law := by
  refine law_grow (N := 5) (cost := 8000) (fun sc ρ => ∃ x2 x3 x4 x5 x6 x7 x8 x9 x10 x11 x12 x13 x14 x15 x16, ρ = [sc, some (.loc 1), x2, x3, x4, x5, x6, x7, x8, x9, x10, x11, x12, x13, x14, x15, x16]) (by decide) (by decide) (fun sc => ⟨_, _, _, _, _, _, _, _, _, _, _, _, _, _, _, rfl⟩) (by decide) ?_
  rintro sc d ρ S n rest ⟨x2, x3, x4, x5, x6, x7, x8, x9, x10, x11, x12, x13, x14, x15, x16, rfl⟩ hS hn
  obtain ⟨l, S1, r1, r2, r3, r4, s1⟩ := ring_ok hS (most := 24) (by decide) (by decide) (by omega)
  have h0 : 0 < l.length := List.length_pos_iff.mpr r2
  have hl : l.length ≤ 24 := by omega
  have hnn : ∀ t ∈ l, 0 ≤ t := fun t ht => (r4 t ht).1
  have rl := repr_ring r4 hl
  have r1' : F__law_ring [.loc 1, .int 24] S = .ok (ti l) S1 := r1
  have lk := links_gv (S1 ++ [.lst []]) h0 (by omega) r4
  rw [gvD_eq hnn] at lk
  have bg := begins_ok l (by omega)
  have hg : (S1 ++ [Ob.lst []])[S1.length]? = some (.lst ((List.range 0).map (rowD l))) := by simp
  obtain ⟨y9, y10, hf1⟩ := rows_loop l hl sc (some (.loc 1)) (some d) (some (.str (shD (ti l)))) S1.length [x11, x12, x13, x14, x15, x16] l.length 0 (S1 ++ [.lst []]) x9 x10 (by omega) hg
  rw [List.drop_zero, DL.set_end] at hf1
  have s2 : Strm (S1 ++ [.lst ((List.range l.length).map (rowD l))]) (n + 7000) (rest ++ [.lst ((List.range l.length).map (rowD l))]) := s1.app _
  have one : ∀ wd ∈ rangeD 0 9, ∀ ρ S n, (∃ z11 z12 z13 z14 z15 z16, ρ = [sc, some (.loc 1), some d, some (ti l), some (.str (shD (ti l))), some (.fl (ni (begs l))), some (.loc S1.length), some (.fl (TKs l)), some (.fl (GVs l)), y9, y10, z11, z12, z13, z14, z15, z16]) → Strm S n (rest ++ [.lst ((List.range l.length).map (rowD l))]) → n + 30 < 2 ^ 60 → ∃ ρ1 ρ2 S2, tN 11 wd ρ S = some (ρ1, S) ∧ (L3_law ρ1 S = .nx ρ2 S2 ∨ L3_law ρ1 S = .ct ρ2 S2) ∧ (∃ z11 z12 z13 z14 z15 z16, ρ2 = [sc, some (.loc 1), some d, some (ti l), some (.str (shD (ti l))), some (.fl (ni (begs l))), some (.loc S1.length), some (.fl (TKs l)), some (.fl (GVs l)), y9, y10, z11, z12, z13, z14, z15, z16]) ∧ Strm S2 (n + 30) (rest ++ [.lst ((List.range l.length).map (rowD l))]) := by
    rintro wd hwd ρ S n ⟨z11, z12, z13, z14, z15, z16, rfl⟩ hS hn
    obtain ⟨w, hw⟩ := List.mem_iff_getElem?.mp hwd
    obtain ⟨hw9, rfl⟩ := rangeD_get hw
    rw [Int.zero_add]
    obtain ⟨d1, S4, q1, _, _, s4⟩ := draw_ok hS (m := 6) (by decide) (by decide) (by omega)
    obtain ⟨td, S5, q2, m2, s5⟩ := pick_tup s4 (xs := l.map D.int) (by simpa using r2) (by rw [List.length_map]; omega) (by omega)
    obtain ⟨t, _, rfl⟩ := List.mem_map.mp m2
    obtain ⟨d2, S6, q3, g1, g2, s6⟩ := draw_ok s5 (m := 4) (by decide) (by decide) (by omega)
    have pw : ∀ S, dPow (.int 10) (.int 29) S = .ok (.int (10 ^ 29)) S := fun S => dPow_ok ⟨by decide, by decide, by decide⟩ S
    obtain ⟨m, im⟩ : ∃ m : Int, ∀ S, dIx (.fl [.int d1, .int t, .int (-1), .int (10 ^ 29)]) (.int d2) S = .ok (.int m) S := by
      have : d2 = 0 ∨ d2 = 1 ∨ d2 = 2 ∨ d2 = 3 := by omega
      rcases this with rfl | rfl | rfl | rfl
      · exact ⟨_, fun S => rfl⟩
      · exact ⟨_, fun S => rfl⟩
      · exact ⟨_, fun S => rfl⟩
      · exact ⟨_, fun S => rfl⟩
    obtain ⟨ys, S7, k1, k2, k3, s7⟩ := eLc_strm (src := iRange1 (aCons (eC (.int 3)) aNil)) (T := tN 16) (vs := [16]) (f := E1_law) (ρ := [sc, some (.loc 1), some d, some (ti l), some (.str (shD (ti l))), some (.fl (ni (begs l))), some (.loc S1.length), some (.fl (TKs l)), some (.fl (GVs l)), y9, y10, some (.int w), some (.int m), z13, z14, z15, z16]) (S := S6) (S0 := S6) (n := n + 1 + 1 + 1) (rest := rest ++ [.lst ((List.range l.length).map (rowD l))])
      (rangeD 0 3) (fun d' => [sc, some (.loc 1), some d, some (ti l), some (.str (shD (ti l))), some (.fl (ni (begs l))), some (.loc S1.length), some (.fl (TKs l)), some (.fl (GVs l)), y9, y10, some (.int w), some (.int m), z13, z14, z15, some d']) 1 (fun y => ∃ b, y = .bl b) (by
        have hr : ((-(2 ^ 62) : Int) ≤ 3 ∧ (3 : Int) < 2 ^ 62) = True := by simp
        have h3 : (3 : Int).toNat = 3 := rfl
        simp only [eVar, eC, eOp, eT, eAnd, eOr, eNot, eIf, eAndV, eOrV, eNotV, eCall, aNil, aCons, aStar, sOf, eTup, eFl, eLoc, eSl, oNone, oSome, iOf, eNeg, eChain, eMt, bOf, eDict0, eRev, eListRg, iZipD, sRaise1, sRaise0, eCallV, List.lookup, R.bind_ok, R.bind_er, R.bind_stuck, R.toS_ok, R.toS_er, R.toS_stuck, SR.next_nx, SR.next_rt, SR.next_er, SR.next_bk, SR.next_ct, SR.next_stuck, sNil, sSeq, sBrk, sCnt, sExp, sRet, sRetN, sIf, sSet, sAsg, sAug, sPar2, sPar3, tN, DL.tTup, DL.tNil, DL.tCons, DL.tSub, iSeq, srcOf_tup, srcOf_fl, srcOf_kl, srcOf_ti, iRange1, iRange2, sFor, startD, List.map_cons, List.map_nil, List.length_cons, List.length_nil, List.replicate, List.cons_append, List.nil_append, List.getElem?_cons_zero, List.getElem?_cons_succ, List.set_cons_zero, List.set_cons_succ, dSub_int, dFdiv_int, dMod_int, dLt_int, dLe_int, dGt_int, dGe_int, dAddI_int, dSubI_int, dIsN_non, isN, dAdd_int, ll0, ll1, ll2, ll3, ll4, ll5, ll6, ll7, ll8, ll9, ll10, ll11, ll12, ll13, ll14, ll15, ll16, ll17, ll18, ll19, ll20, ll21, ll22, ll23, ll24, ll25, ll26, ll27, ll28, ll29, ll30, ll31, ll32, ll33, ll34, ll35, ll36, ll37, ll38, ll39, ll40, Nat.reduceSub, Nat.reduceAdd, Nat.reduceEqDiff, if_true, if_false, ifp_t, ifp_f, reduceIte, Bool.true_eq_false, Bool.false_eq_true, Option.map_some, Option.map_none, Option.bind_some, Option.bind_none, tSq, sSet2, seqOf_fl, seqOf_tup, seqOf_ti, eFld, eMth, eNew, sMatch, cText, cAny, cNil, tAttr, hr, h3]) s6 (fun d' _ S' => rfl) (by
        intro d' _ S' mm ll hmm hS'
        obtain ⟨r, S'', e1, _, _, e4⟩ := draw_ok hS' (m := 2) (by decide) (by decide) (by rw [rangeD_len] at hmm; omega)
        refine ⟨.bl (r == 0), S'', ?_, ⟨_, rfl⟩, e4⟩
        simp only [eVar, eC, eOp, eT, eAnd, eOr, eNot, eIf, eAndV, eOrV, eNotV, eCall, aNil, aCons, aStar, sOf, eTup, eFl, eLoc, eSl, oNone, oSome, iOf, eNeg, eChain, eMt, bOf, eDict0, eRev, eListRg, iZipD, sRaise1, sRaise0, eCallV, List.lookup, R.bind_ok, R.bind_er, R.bind_stuck, R.toS_ok, R.toS_er, R.toS_stuck, SR.next_nx, SR.next_rt, SR.next_er, SR.next_bk, SR.next_ct, SR.next_stuck, sNil, sSeq, sBrk, sCnt, sExp, sRet, sRetN, sIf, sSet, sAsg, sAug, sPar2, sPar3, tN, DL.tTup, DL.tNil, DL.tCons, DL.tSub, iSeq, srcOf_tup, srcOf_fl, srcOf_kl, srcOf_ti, iRange1, iRange2, sFor, startD, List.map_cons, List.map_nil, List.length_cons, List.length_nil, List.replicate, List.cons_append, List.nil_append, List.getElem?_cons_zero, List.getElem?_cons_succ, List.set_cons_zero, List.set_cons_succ, dSub_int, dFdiv_int, dMod_int, dLt_int, dLe_int, dGt_int, dGe_int, dAddI_int, dSubI_int, dIsN_non, isN, dAdd_int, ll0, ll1, ll2, ll3, ll4, ll5, ll6, ll7, ll8, ll9, ll10, ll11, ll12, ll13, ll14, ll15, ll16, ll17, ll18, ll19, ll20, ll21, ll22, ll23, ll24, ll25, ll26, ll27, ll28, ll29, ll30, ll31, ll32, ll33, ll34, ll35, ll36, ll37, ll38, ll39, ll40, Nat.reduceSub, Nat.reduceAdd, Nat.reduceEqDiff, if_true, if_false, ifp_t, ifp_f, reduceIte, Bool.true_eq_false, Bool.false_eq_true, Option.map_some, Option.map_none, Option.bind_some, Option.bind_none, tSq, sSet2, seqOf_fl, seqOf_tup, seqOf_ti, eFld, eMth, eNew, sMatch, cText, cAny, cNil, tAttr, E1_law, e1, dEq_int]) (by rw [rangeD_len]; decide) (by rintro y ⟨b, rfl⟩; rfl)
    rw [rangeD_len] at k2 s7
    obtain ⟨a, b, c, rfl⟩ : ∃ a b c, ys = [.bl a, .bl b, .bl c] := by
      match ys, k2 with
      | [u, v, x], _ =>
        obtain ⟨a, rfl⟩ := k3 u (by simp)
        obtain ⟨b, rfl⟩ := k3 v (by simp)
        obtain ⟨c, rfl⟩ := k3 x (by simp)
        exact ⟨a, b, c, rfl⟩
    have ad : ∀ S, dAdd (.fl [.int m]) (.fl [.bl a, .bl b, .bl c]) S = .ok (WD m a b c) S := fun S => add_fl _ _ (by simp) S
    have hg7 : S7[S1.length]? = some (.lst ((List.range l.length).map (rowD l))) := by
      rw [s7.get (by rw [s1.len]; omega), s1.len, Nat.add_sub_cancel]
      simp
    have du := due_ok l hl hnn m a b c w hw9 hg7
    have se := fun S => selected_ok l h0 hl m a b c w hw9 S
    have sh : Shw 24 1 (.tup (ni (sel l m a b c w))) := by
      refine (shw_ni fun t ht => ?_).mono ?_ (by omega)
      · have := List.mem_range.mp (List.mem_filter.mp ht).1
        omega
      · exact Nat.le_trans (List.length_filter_le _ _) (by simpa using hl)
    have rs := repr_s sh (by decide) (by decide)
    obtain ⟨ρ'', ⟨z15', rfl⟩, hf⟩ := forD_pure (T := tN 15) (B := L2_law) (Z := sNil) (S := S7) (fun ρ => ∃ z15, ρ = [sc, some (.loc 1), some d, some (ti l), some (.str (shD (ti l))), some (.fl (ni (begs l))), some (.loc S1.length), some (.fl (TKs l)), some (.fl (GVs l)), y9, y10, some (.int w), some (.int m), some (WD m a b c), some (.str (shD (.tup (ni (sel l m a b c w))))), z15, z16])
      (rangeD 0 2) [sc, some (.loc 1), some d, some (ti l), some (.str (shD (ti l))), some (.fl (ni (begs l))), some (.loc S1.length), some (.fl (TKs l)), some (.fl (GVs l)), y9, y10, some (.int w), some (.int m), some (WD m a b c), some (.str (shD (.tup (ni (sel l m a b c w))))), z15, z16] ⟨z15, rfl⟩ (by
        rintro kd _ ρ ⟨z15, rfl⟩
        refine ⟨_, [sc, some (.loc 1), some d, some (ti l), some (.str (shD (ti l))), some (.fl (ni (begs l))), some (.loc S1.length), some (.fl (TKs l)), some (.fl (GVs l)), y9, y10, some (.int w), some (.int m), some (WD m a b c), some (.str (shD (.tup (ni (sel l m a b c w))))), some kd, z16], rfl, .inl ?_, _, rfl⟩
        have se7 : F__law_selected [ti l, .int w, WD m a b c] S7 = _ := se S7
        generalize sel l m a b c w = SL at *
        generalize WD m a b c = WW at *
        generalize hT : TKs l = TK at *
        generalize hG : GVs l = GV at *
        simp only [eVar, eC, eOp, eT, eAnd, eOr, eNot, eIf, eAndV, eOrV, eNotV, eCall, aNil, aCons, aStar, sOf, eTup, eFl, eLoc, eSl, oNone, oSome, iOf, eNeg, eChain, eMt, bOf, eDict0, eRev, eListRg, iZipD, sRaise1, sRaise0, eCallV, List.lookup, R.bind_ok, R.bind_er, R.bind_stuck, R.toS_ok, R.toS_er, R.toS_stuck, SR.next_nx, SR.next_rt, SR.next_er, SR.next_bk, SR.next_ct, SR.next_stuck, sNil, sSeq, sBrk, sCnt, sExp, sRet, sRetN, sIf, sSet, sAsg, sAug, sPar2, sPar3, tN, DL.tTup, DL.tNil, DL.tCons, DL.tSub, iSeq, srcOf_tup, srcOf_fl, srcOf_kl, srcOf_ti, iRange1, iRange2, sFor, startD, List.map_cons, List.map_nil, List.length_cons, List.length_nil, List.replicate, List.cons_append, List.nil_append, List.getElem?_cons_zero, List.getElem?_cons_succ, List.set_cons_zero, List.set_cons_succ, dSub_int, dFdiv_int, dMod_int, dLt_int, dLe_int, dGt_int, dGe_int, dAddI_int, dSubI_int, dIsN_non, isN, dAdd_int, ll0, ll1, ll2, ll3, ll4, ll5, ll6, ll7, ll8, ll9, ll10, ll11, ll12, ll13, ll14, ll15, ll16, ll17, ll18, ll19, ll20, ll21, ll22, ll23, ll24, ll25, ll26, ll27, ll28, ll29, ll30, ll31, ll32, ll33, ll34, ll35, ll36, ll37, ll38, ll39, ll40, Nat.reduceSub, Nat.reduceAdd, Nat.reduceEqDiff, if_true, if_false, ifp_t, ifp_f, reduceIte, Bool.true_eq_false, Bool.false_eq_true, Option.map_some, Option.map_none, Option.bind_some, Option.bind_none, tSq, sSet2, seqOf_fl, seqOf_tup, seqOf_ti, eFld, eMth, eNew, sMatch, cText, cAny, cNil, tAttr, L2_law, se7, rs, rl, dEq_str, decide_true, Bool.not_true])
    refine ⟨_, [sc, some (.loc 1), some d, some (ti l), some (.str (shD (ti l))), some (.fl (ni (begs l))), some (.loc S1.length), some (.fl (TKs l)), some (.fl (GVs l)), y9, y10, some (.int w), some (.int m), some (WD m a b c), some (.str (shD (.tup (ni (sel l m a b c w))))), z15', z16], S7, rfl, .inl ?_, ⟨_, _, _, _, _, _, rfl⟩, s7.mono (by omega)⟩
    have q2' : F__law_pick [.loc 1, ti l] S4 = .ok (.int t) S5 := q2
    have hr : ((-(2 ^ 62) : Int) ≤ 2 ∧ (2 : Int) < 2 ^ 62) = True := by simp
    have h2 : (2 : Int).toNat = 2 := rfl
    generalize sel l m a b c w = SL at *
    generalize WD m a b c = WW at *
    generalize hT : TKs l = TK at *
    generalize hG : GVs l = GV at *
    simp only [eVar, eC, eOp, eT, eAnd, eOr, eNot, eIf, eAndV, eOrV, eNotV, eCall, aNil, aCons, aStar, sOf, eTup, eFl, eLoc, eSl, oNone, oSome, iOf, eNeg, eChain, eMt, bOf, eDict0, eRev, eListRg, iZipD, sRaise1, sRaise0, eCallV, List.lookup, R.bind_ok, R.bind_er, R.bind_stuck, R.toS_ok, R.toS_er, R.toS_stuck, SR.next_nx, SR.next_rt, SR.next_er, SR.next_bk, SR.next_ct, SR.next_stuck, sNil, sSeq, sBrk, sCnt, sExp, sRet, sRetN, sIf, sSet, sAsg, sAug, sPar2, sPar3, tN, DL.tTup, DL.tNil, DL.tCons, DL.tSub, iSeq, srcOf_tup, srcOf_fl, srcOf_kl, srcOf_ti, iRange1, iRange2, sFor, startD, List.map_cons, List.map_nil, List.length_cons, List.length_nil, List.replicate, List.cons_append, List.nil_append, List.getElem?_cons_zero, List.getElem?_cons_succ, List.set_cons_zero, List.set_cons_succ, dSub_int, dFdiv_int, dMod_int, dLt_int, dLe_int, dGt_int, dGe_int, dAddI_int, dSubI_int, dIsN_non, isN, dAdd_int, ll0, ll1, ll2, ll3, ll4, ll5, ll6, ll7, ll8, ll9, ll10, ll11, ll12, ll13, ll14, ll15, ll16, ll17, ll18, ll19, ll20, ll21, ll22, ll23, ll24, ll25, ll26, ll27, ll28, ll29, ll30, ll31, ll32, ll33, ll34, ll35, ll36, ll37, ll38, ll39, ll40, Nat.reduceSub, Nat.reduceAdd, Nat.reduceEqDiff, if_true, if_false, ifp_t, ifp_f, reduceIte, Bool.true_eq_false, Bool.false_eq_true, Option.map_some, Option.map_none, Option.bind_some, Option.bind_none, tSq, sSet2, seqOf_fl, seqOf_tup, seqOf_ti, eFld, eMth, eNew, sMatch, cText, cAny, cNil, tAttr, L3_law, q1, q2', pw, q3, im, k1, ad, du, rs, hr, h2, hf]
  obtain ⟨ρ', S3, ⟨z11, z12, z13, z14, z15, z16, rfl⟩, s3, hf2⟩ := forD_strm (T := tN 11) (B := L3_law) (Z := sNil) (rest := rest ++ [.lst ((List.range l.length).map (rowD l))]) (fun ρ => ∃ z11 z12 z13 z14 z15 z16, ρ = [sc, some (.loc 1), some d, some (ti l), some (.str (shD (ti l))), some (.fl (ni (begs l))), some (.loc S1.length), some (.fl (TKs l)), some (.fl (GVs l)), y9, y10, z11, z12, z13, z14, z15, z16]) 30 (rangeD 0 9)
    [sc, some (.loc 1), some d, some (ti l), some (.str (shD (ti l))), some (.fl (ni (begs l))), some (.loc S1.length), some (.fl (TKs l)), some (.fl (GVs l)), y9, y10, x11, x12, x13, x14, x15, x16] (S1 ++ [.lst ((List.range l.length).map (rowD l))]) (n + 7000) ⟨x11, x12, x13, x14, x15, x16, rfl⟩ s2 (by rw [rangeD_len]; omega) one
  rw [rangeD_len] at s3
  have hr : ((-(2 ^ 62) : Int) ≤ 9 ∧ (9 : Int) < 2 ^ 62) = True := by simp
  have h9 : (9 : Int).toNat = 9 := rfl
  suffices hfin : L4_law [sc, some (.loc 1), some d, x3, x4, x5, x6, x7, x8, x9, x10, x11, x12, x13, x14, x15, x16] S = .nx [sc, some (.loc 1), some d, some (ti l), some (.str (shD (ti l))), some (.fl (ni (begs l))), some (.loc S1.length), some (.fl (TKs l)), some (.fl (GVs l)), y9, y10, z11, z12, z13, z14, z15, z16] S3 from ⟨_, _, _, hfin, ⟨_, _, _, _, _, _, _, _, _, _, _, _, _, _, _, rfl⟩, s3.mono (by omega)⟩
  generalize hT : TKs l = TK at *
  generalize hG : GVs l = GV at *
  generalize (List.range l.length).map (rowD l) = RW at *
  have lk' : F__law_links [ti l] (S1 ++ [.lst []]) = .ok (.fl [.fl TK, .fl GV]) (S1 ++ [.lst []]) := by rw [← hT, ← hG]; exact lk
  simp only [eVar, eC, eOp, eT, eAnd, eOr, eNot, eIf, eAndV, eOrV, eNotV, eCall, aNil, aCons, aStar, sOf, eTup, eFl, eLoc, eSl, oNone, oSome, iOf, eNeg, eChain, eMt, bOf, eDict0, eRev, eListRg, iZipD, sRaise1, sRaise0, eCallV, List.lookup, R.bind_ok, R.bind_er, R.bind_stuck, R.toS_ok, R.toS_er, R.toS_stuck, SR.next_nx, SR.next_rt, SR.next_er, SR.next_bk, SR.next_ct, SR.next_stuck, sNil, sSeq, sBrk, sCnt, sExp, sRet, sRetN, sIf, sSet, sAsg, sAug, sPar2, sPar3, tN, DL.tTup, DL.tNil, DL.tCons, DL.tSub, iSeq, srcOf_tup, srcOf_fl, srcOf_kl, srcOf_ti, iRange1, iRange2, sFor, startD, List.map_cons, List.map_nil, List.length_cons, List.length_nil, List.replicate, List.cons_append, List.nil_append, List.getElem?_cons_zero, List.getElem?_cons_succ, List.set_cons_zero, List.set_cons_succ, dSub_int, dFdiv_int, dMod_int, dLt_int, dLe_int, dGt_int, dGe_int, dAddI_int, dSubI_int, dIsN_non, isN, dAdd_int, ll0, ll1, ll2, ll3, ll4, ll5, ll6, ll7, ll8, ll9, ll10, ll11, ll12, ll13, ll14, ll15, ll16, ll17, ll18, ll19, ll20, ll21, ll22, ll23, ll24, ll25, ll26, ll27, ll28, ll29, ll30, ll31, ll32, ll33, ll34, ll35, ll36, ll37, ll38, ll39, ll40, Nat.reduceSub, Nat.reduceAdd, Nat.reduceEqDiff, if_true, if_false, ifp_t, ifp_f, reduceIte, Bool.true_eq_false, Bool.false_eq_true, Option.map_some, Option.map_none, Option.bind_some, Option.bind_none, tSq, sSet2, seqOf_fl, seqOf_tup, seqOf_ti, eFld, eMth, eNew, sMatch, cText, cAny, cNil, tAttr, L4_law, r1', rl, bg, lk', iEnumD, hf1, hr, h9, hf2]
end TX
namespace TX
open PySem PySem.Spec L2 DL
open PyProof.Rows hiding St
structure Tx (K : PySem.W.Frag) (mg : Str → Option Value) (f__law_stream f__law_draw f__law_pick f__law_ring f__law_missing f__law_from f__law_begins f__law_links f__law_due f_is_wish f_later_places f_find_taker f_takersZ f_lacks f_heights_of f_need_of f_is_integer f_check_place f_turned f_need f_values_of f_select f__law_selected f_law : Addr) : Prop where
  mg__law_stream : mg "_law_stream" = some (.ref f__law_stream)
  kp__law_stream : PySem.W.keepIn K (.ref f__law_stream) = true
  mg__law_draw : mg "_law_draw" = some (.ref f__law_draw)
  kp__law_draw : PySem.W.keepIn K (.ref f__law_draw) = true
  mg__law_pick : mg "_law_pick" = some (.ref f__law_pick)
  kp__law_pick : PySem.W.keepIn K (.ref f__law_pick) = true
  mg__law_ring : mg "_law_ring" = some (.ref f__law_ring)
  kp__law_ring : PySem.W.keepIn K (.ref f__law_ring) = true
  mg__law_missing : mg "_law_missing" = some (.ref f__law_missing)
  kp__law_missing : PySem.W.keepIn K (.ref f__law_missing) = true
  mg__law_from : mg "_law_from" = some (.ref f__law_from)
  kp__law_from : PySem.W.keepIn K (.ref f__law_from) = true
  mg__law_begins : mg "_law_begins" = some (.ref f__law_begins)
  kp__law_begins : PySem.W.keepIn K (.ref f__law_begins) = true
  mg__law_links : mg "_law_links" = some (.ref f__law_links)
  kp__law_links : PySem.W.keepIn K (.ref f__law_links) = true
  mg__law_due : mg "_law_due" = some (.ref f__law_due)
  kp__law_due : PySem.W.keepIn K (.ref f__law_due) = true
  mg_is_wish : mg "is_wish" = some (.ref f_is_wish)
  kp_is_wish : PySem.W.keepIn K (.ref f_is_wish) = true
  mg_later_places : mg "later_places" = some (.ref f_later_places)
  kp_later_places : PySem.W.keepIn K (.ref f_later_places) = true
  mg_find_taker : mg "find_taker" = some (.ref f_find_taker)
  kp_find_taker : PySem.W.keepIn K (.ref f_find_taker) = true
  mg_takersZ : mg "takers" = some (.ref f_takersZ)
  kp_takersZ : PySem.W.keepIn K (.ref f_takersZ) = true
  mg_lacks : mg "lacks" = some (.ref f_lacks)
  kp_lacks : PySem.W.keepIn K (.ref f_lacks) = true
  mg_heights_of : mg "heights_of" = some (.ref f_heights_of)
  kp_heights_of : PySem.W.keepIn K (.ref f_heights_of) = true
  mg_need_of : mg "need_of" = some (.ref f_need_of)
  kp_need_of : PySem.W.keepIn K (.ref f_need_of) = true
  mg_is_integer : mg "is_integer" = some (.ref f_is_integer)
  kp_is_integer : PySem.W.keepIn K (.ref f_is_integer) = true
  mg_check_place : mg "check_place" = some (.ref f_check_place)
  kp_check_place : PySem.W.keepIn K (.ref f_check_place) = true
  mg_turned : mg "turned" = some (.ref f_turned)
  kp_turned : PySem.W.keepIn K (.ref f_turned) = true
  mg_need : mg "need" = some (.ref f_need)
  kp_need : PySem.W.keepIn K (.ref f_need) = true
  mg_values_of : mg "values_of" = some (.ref f_values_of)
  kp_values_of : PySem.W.keepIn K (.ref f_values_of) = true
  mg_select : mg "select" = some (.ref f_select)
  kp_select : PySem.W.keepIn K (.ref f_select) = true
  mg__law_selected : mg "_law_selected" = some (.ref f__law_selected)
  kp__law_selected : PySem.W.keepIn K (.ref f__law_selected) = true
  n_range : mg "range" = none
  n_repr : mg "repr" = none
  n_enumerate : mg "enumerate" = none
  n_abs : mg "abs" = none
  n_len : mg "len" = none
  n_sum : mg "sum" = none
  n_tuple : mg "tuple" = none
  n_list : mg "list" = none
  n_int : mg "int" = none
  n_isinstance : mg "isinstance" = none
  n_bool : mg "bool" = none
  n_min : mg "min" = none
section
variable {P : Program} {w : World} {K : PySem.W.Frag} {mg : Str → Option Value} {base : Heap} {f__law_stream f__law_draw f__law_pick f__law_ring f__law_missing f__law_from f__law_begins f__law_links f__law_due f_is_wish f_later_places f_find_taker f_takersZ f_lacks f_heights_of f_need_of f_is_integer f_check_place f_turned f_need f_values_of f_select f__law_selected f_law : Addr}
variable {u_PROPERTIES : Value}
theorem sc__law_stream : FnScope nm__law_stream ["_law_script"] (defScope st__law_stream) := ⟨rfl, rfl, rfl, by decide +kernel, rfl, by decide +kernel, by decide +kernel⟩
set_option maxHeartbeats 4000000 in
theorem fn__law_stream {fd : FuncData} (T : Tx K mg f__law_stream f__law_draw f__law_pick f__law_ring f__law_missing f__law_from f__law_begins f__law_links f__law_due f_is_wish f_later_places f_find_taker f_takersZ f_lacks f_heights_of f_need_of f_is_integer f_check_place f_turned f_need f_values_of f_select f__law_selected f_law) (Fu : Fun K "_law_stream" "_law_stream" st__law_stream f__law_stream fd) : FnD true P w K mg base 1 f__law_stream F__law_stream := by
  have nd := (sc__law_stream).nd
  exact fnD_of Fu sc__law_stream (Fu.binds fun _ _ _ _ _ _ us hl => match us, hl with | [_], _ => rfl) cl_keep fun cdv A outer s H E hr hG tk po =>
    (dss_cons (ds_setLc 1 (own := [("_law_cell", 2)]) fin_fl (ct_name 2) rfl nd (di_seq (de_var 0)) (blkOk_by (own := [("_law_cell", 2)]) (N := nm__law_stream) (sc := defScope st__law_stream) (by decide +kernel)) (fun _ _ _ _ _ => pg_name (i := 2) nd rfl (Or.inl rfl)) (fun _ _ _ _ _ => dts_nil) (fun _ _ _ _ _ => (de_callB call_abs k_abs T.n_abs (by decide +kernel) (da_cons (de_var 2) da_nil))))
    (dss_one (ds_ret (de_loc (da_cons (de_lc (own := [("_law_cell", 2)]) fin_loc (ct_name 2) rfl nd (di_seq (de_var 1)) (blkOk_by (own := [("_law_cell", 2)]) (N := nm__law_stream) (sc := defScope st__law_stream) (by decide +kernel)) (fun _ _ _ _ _ => pg_name (i := 2) nd rfl (Or.inl rfl)) (fun _ _ _ _ _ => (dts_one (dt_cmp op_ge k_ge (de_var 2) (de_op op_pow k_pow de_int de_int) (nomark _)))) (fun _ _ _ _ _ => (de_var 2))) (da_cons (de_op or_add k_add (de_var 1) (de_fl (da_cons (de_op or_add k_add (de_callB c_len k_len T.n_len (by decide +kernel) (da_cons (de_var 1) da_nil)) de_int) da_nil))) (da_cons de_int da_nil)))))))
theorem sc__law_draw : FnScope nm__law_draw ["_law_stream_here", "_law_many"] (defScope st__law_draw) := ⟨rfl, rfl, rfl, by decide +kernel, rfl, by decide +kernel, by decide +kernel⟩
set_option maxHeartbeats 4000000 in
theorem fn__law_draw {fd : FuncData} (T : Tx K mg f__law_stream f__law_draw f__law_pick f__law_ring f__law_missing f__law_from f__law_begins f__law_links f__law_due f_is_wish f_later_places f_find_taker f_takersZ f_lacks f_heights_of f_need_of f_is_integer f_check_place f_turned f_need f_values_of f_select f__law_selected f_law) (Fu : Fun K "_law_draw" "_law_draw" st__law_draw f__law_draw fd) : FnD true P w K mg base 1 f__law_draw F__law_draw := by
  have nd := (sc__law_draw).nd
  exact fnD_of Fu sc__law_draw (Fu.binds fun _ _ _ _ _ _ us hl => match us, hl with | [_, _], _ => rfl) cl_drop fun cdv A outer s H E hr hG tk po =>
    (dss_cons (ds_while 4000 po (dt_cmp (or_ne hr.units) k_neD (de_ix (de_var 0) de_int) (de_fl da_nil) (nomark _)) (dss_cons (ds_set 2 nd (de_ix (de_ix (de_var 0) de_int) de_int))
    (dss_cons (ds_if (dt_cmp op_gt k_gt (de_var 2) de_int (nomark _)) (dss_cons (ds_asg (de_op op_fdivW k_fdiv (de_var 2) (de_var 1)) (dg_sub (W := (fun cls d _ H' => E cls d H')) (de_ix (de_var 0) de_int) de_int))
    (dss_one (ds_ret (de_op op_modN k_mod (de_var 2) (de_var 1))))) dss_nil)
    (dss_one (ds_expr (de_bm PySem.F.plainAttrs_list PySem.F.slot_list_pop PySem.F.type_list_pop mt_popAt k_popAt chk_lst (de_ix (de_var 0) de_int) (da_cons de_int da_nil)))))))
    (dss_cons (ds_set 3 nd (de_op or_add k_add (de_ix (de_var 0) de_int) de_int))
    (dss_cons (ds_asg (de_var 3) (dg_sub (W := (fun cls d _ H' => E cls d H')) (de_var 0) de_int))
    (dss_cons (ds_set 4 nd (de_op op_modN k_mod (de_ix (de_ix (de_var 0) de_int) (de_op op_modN k_mod (de_var 3) (de_callB c_len k_len T.n_len (by decide +kernel) (da_cons (de_ix (de_var 0) de_int) da_nil)))) de_int))
    (dss_cons (ds_set 5 nd (de_op op_modN k_mod (de_op or_add k_add (de_op or_add k_add (de_op or_mul k_mul (de_var 4) (de_op or_add k_add de_int (de_op or_mul k_mul de_int (de_var 3)))) (de_op or_mul k_mul (de_op or_mul k_mul de_int (de_var 3)) (de_var 3))) de_int) de_int))
    (dss_one (ds_ret (de_op op_modN k_mod (de_op op_fdivW k_fdiv (de_op op_modN k_mod (de_op or_mul k_mul (de_var 5) (de_var 5)) de_int) de_int) (de_var 1)))))))))
theorem sc__law_pick : FnScope nm__law_pick ["_law_stream_here", "_law_items"] (defScope st__law_pick) := ⟨rfl, rfl, rfl, by decide +kernel, rfl, by decide +kernel, by decide +kernel⟩
set_option maxHeartbeats 4000000 in
theorem fn__law_pick {fd : FuncData} (T : Tx K mg f__law_stream f__law_draw f__law_pick f__law_ring f__law_missing f__law_from f__law_begins f__law_links f__law_due f_is_wish f_later_places f_find_taker f_takersZ f_lacks f_heights_of f_need_of f_is_integer f_check_place f_turned f_need f_values_of f_select f__law_selected f_law) (Fu : Fun K "_law_pick" "_law_pick" st__law_pick f__law_pick fd) (G__law_draw : FnD true P w K mg base 1 f__law_draw F__law_draw) : FnD true P w K mg base 2 f__law_pick F__law_pick := by
  have nd := (sc__law_pick).nd
  exact fnD_of Fu sc__law_pick (Fu.binds fun _ _ _ _ _ _ us hl => match us, hl with | [_, _], _ => rfl) cl_drop fun cdv A outer s H E hr hG tk po =>
    (dss_one (ds_ret (de_ix (de_var 1) (de_callD G__law_draw (hr.mono (by decide)) hG tk T.mg__law_draw T.kp__law_draw (da_cons (de_var 0) (da_cons (de_callB c_len k_len T.n_len (by decide +kernel) (da_cons (de_var 1) da_nil)) da_nil))))))
theorem sc__law_ring : FnScope nm__law_ring ["_law_stream_here", "_law_most"] (defScope st__law_ring) := ⟨rfl, rfl, rfl, by decide +kernel, rfl, by decide +kernel, by decide +kernel⟩
set_option maxHeartbeats 4000000 in
theorem fn__law_ring {fd : FuncData} (T : Tx K mg f__law_stream f__law_draw f__law_pick f__law_ring f__law_missing f__law_from f__law_begins f__law_links f__law_due f_is_wish f_later_places f_find_taker f_takersZ f_lacks f_heights_of f_need_of f_is_integer f_check_place f_turned f_need f_values_of f_select f__law_selected f_law) (Fu : Fun K "_law_ring" "_law_ring" st__law_ring f__law_ring fd) (G__law_draw : FnD true P w K mg base 1 f__law_draw F__law_draw) (G__law_pick : FnD true P w K mg base 2 f__law_pick F__law_pick) : FnD true P w K mg base 3 f__law_ring F__law_ring := by
  have nd := (sc__law_ring).nd
  exact fnD_of Fu sc__law_ring (Fu.binds fun _ _ _ _ _ _ us hl => match us, hl with | [_, _], _ => rfl) cl_drop fun cdv A outer s H E hr hG tk po =>
    (dss_cons (ds_set 2 nd (de_fl (da_cons (de_fl (da_cons de_int (da_cons de_int (da_cons de_int (da_cons de_int da_nil))))) (da_cons (de_fl (da_cons de_int (da_cons de_int (da_cons de_int (da_cons de_int (da_cons de_int (da_cons de_int (da_cons de_int da_nil)))))))) (da_cons (de_fl (da_cons de_int (da_cons de_int (da_cons de_int (da_cons de_int (da_cons de_int (da_cons de_int da_nil))))))) (da_cons (de_fl (da_cons de_int (da_cons de_int (da_cons de_int da_nil)))) (da_cons (de_fl (da_cons de_int (da_cons de_int (da_cons de_int (da_cons de_int da_nil))))) da_nil)))))))
    (dss_cons (ds_asg (de_tup (da_cons (de_callD G__law_pick (hr.mono (by decide)) hG tk T.mg__law_pick T.kp__law_pick (da_cons (de_var 0) (da_cons (de_op or_add k_add (de_var 2) (de_fl (da_cons (de_fl (da_cons de_int (da_cons de_int (da_cons de_int (da_cons de_int (da_cons de_int da_nil)))))) (da_cons (de_fl (da_cons de_int da_nil)) da_nil)))) da_nil))) (da_cons (de_op or_add k_add de_int (de_callD G__law_draw (hr.mono (by decide)) hG tk T.mg__law_draw T.kp__law_draw (da_cons (de_var 0) (da_cons (de_var 1) da_nil)))) da_nil))) (dg_tup rfl (dgs_cons (dg_name 3 nd) (dgs_cons (dg_name 4 nd) dgs_nil))))
    (dss_cons (ds_setLc 5 (own := [("_law_k", 10)]) fin_loc (ct_name 10) rfl nd (di_range1 rfl T.n_range (da_cons (de_var 4) da_nil)) (blkOk_by (own := [("_law_k", 10)]) (N := nm__law_ring) (sc := defScope st__law_ring) (by decide +kernel)) (fun _ _ _ _ _ => pg_name (i := 10) nd rfl (Or.inl rfl)) (fun _ _ _ _ _ => dts_nil) (fun _ _ _ _ _ => (de_callD G__law_pick (hr.mono (by decide)) hG takes0 T.mg__law_pick T.kp__law_pick (da_cons (de_var 0) (da_cons (de_var 3) da_nil)))))
    (dss_cons (ds_set 6 nd (de_ix (de_fl (da_cons de_int (da_cons (de_op or_add k_add de_int (de_callD G__law_draw (hr.mono (by decide)) hG tk T.mg__law_draw T.kp__law_draw (da_cons (de_var 0) (da_cons de_int da_nil)))) (da_cons (de_op op_sub k_sub de_int (de_callD G__law_draw (hr.mono (by decide)) hG tk T.mg__law_draw T.kp__law_draw (da_cons (de_var 0) (da_cons de_int da_nil)))) da_nil)))) (de_callD G__law_draw (hr.mono (by decide)) hG tk T.mg__law_draw T.kp__law_draw (da_cons (de_var 0) (da_cons de_int da_nil)))))
    (dss_cons (ds_for po rfl (di_range1 rfl T.n_range (da_cons (de_op or_mul k_mul de_int (de_var 4)) da_nil)) (dg_name 7 nd) (dss_cons (ds_par2 8 9 rfl nd (da_cons (de_callD G__law_draw (hr.mono (by decide)) hG tk T.mg__law_draw T.kp__law_draw (da_cons (de_var 0) (da_cons (de_var 4) da_nil))) (da_cons (de_op op_sub k_sub (de_op op_sub k_sub (de_var 4) (de_callB (cr_sum2 rfl) k_sum2 T.n_sum (by decide +kernel) (da_cons (de_var 5) da_nil))) (de_var 6)) da_nil)))
    (dss_one (ds_if (dw_t (dw_and (dt_cmp op_lt k_lt (de_var 6) de_int (nomark _)) (dw_and (dt_cmp op_lt k_lt (de_var 9) de_int (nomark _)) (dw_and1 (dt_cmp op_gt k_gt (de_ix (de_var 5) (de_var 8)) de_int (nomark _)))))) (dss_one (ds_asg (de_op op_sub k_sub (de_ix (de_var 5) (de_var 8)) de_int) (dg_sub (W := (fun cls d _ H' => E cls d H')) (de_var 5) (de_var 8)))) (dss_one (ds_if (dw_t (dw_and (dt_cmp op_lt k_lt (de_var 6) de_int (nomark _)) (dw_and (dt_cmp op_gt k_gt (de_var 9) de_int (nomark _)) (dw_and1 (dt_cmp op_lt k_lt (de_ix (de_var 5) (de_var 8)) de_int (nomark _)))))) (dss_one (ds_asg (de_op or_add k_add (de_ix (de_var 5) (de_var 8)) de_int) (dg_sub (W := (fun cls d _ H' => E cls d H')) (de_var 5) (de_var 8)))) dss_nil))))) dss_nil)
    (dss_one (ds_ret (de_callTy call_tuple_of k_tuple T.n_tuple (by decide +kernel) (da_cons (de_var 5) da_nil)))))))))
theorem sc__law_missing : FnScope nm__law_missing ["_law_row"] (defScope st__law_missing) := ⟨rfl, rfl, rfl, by decide +kernel, rfl, by decide +kernel, by decide +kernel⟩
set_option maxHeartbeats 4000000 in
theorem fn__law_missing {fd : FuncData} (T : Tx K mg f__law_stream f__law_draw f__law_pick f__law_ring f__law_missing f__law_from f__law_begins f__law_links f__law_due f_is_wish f_later_places f_find_taker f_takersZ f_lacks f_heights_of f_need_of f_is_integer f_check_place f_turned f_need f_values_of f_select f__law_selected f_law) (Fu : Fun K "_law_missing" "_law_missing" st__law_missing f__law_missing fd) : FnD true P w K mg base 1 f__law_missing F__law_missing := by
  have nd := (sc__law_missing).nd
  exact fnD_of Fu sc__law_missing (Fu.binds fun _ _ _ _ _ _ us hl => match us, hl with | [_], _ => rfl) cl_drop fun cdv A outer s H E hr hG tk po =>
    (dss_cons (ds_asg (de_tup (da_cons de_int (da_cons de_int da_nil))) (dg_tup rfl (dgs_cons (dg_name 1 nd) (dgs_cons (dg_name 2 nd) dgs_nil))))
    (dss_cons (ds_for po rfl (di_seq (de_var 0)) (dg_name 3 nd) (dss_cons (ds_if (dt_cmp op_lt k_lt (de_var 1) (de_var 3) (nomark _)) (dss_cons (ds_set 2 nd (de_op op_sub k_sub (de_op or_add k_add (de_var 2) (de_var 3)) (de_var 1)))
    (dss_one (ds_set 1 nd (de_var 3)))) dss_nil)
    (dss_one (ds_set 1 nd (de_op or_add k_add (de_op op_sub k_sub (de_var 1) (de_var 3)) de_int)))) dss_nil)
    (dss_one (ds_ret (de_fl (da_cons (de_var 2) (da_cons (de_var 1) da_nil)))))))
theorem sc__law_from : FnScope nm__law_from ["_law_ring_here", "_law_place"] (defScope st__law_from) := ⟨rfl, rfl, rfl, by decide +kernel, rfl, by decide +kernel, by decide +kernel⟩
set_option maxHeartbeats 4000000 in
theorem fn__law_from {fd : FuncData} (T : Tx K mg f__law_stream f__law_draw f__law_pick f__law_ring f__law_missing f__law_from f__law_begins f__law_links f__law_due f_is_wish f_later_places f_find_taker f_takersZ f_lacks f_heights_of f_need_of f_is_integer f_check_place f_turned f_need f_values_of f_select f__law_selected f_law) (Fu : Fun K "_law_from" "_law_from" st__law_from f__law_from fd) : FnD true P w K mg base 1 f__law_from F__law_from := by
  have nd := (sc__law_from).nd
  exact fnD_of Fu sc__law_from (Fu.binds fun _ _ _ _ _ _ us hl => match us, hl with | [_, _], _ => rfl) cl_drop fun cdv A outer s H E hr hG tk po =>
    (dss_one (ds_ret (de_op or_add k_add (de_sl mk_fl (de_var 0) (do_some (de_var 1)) do_none) (de_sl mk_fl (de_var 0) do_none (do_some (de_var 1))))))
theorem sc__law_begins : FnScope nm__law_begins ["_law_ring_here"] (defScope st__law_begins) := ⟨rfl, rfl, rfl, by decide +kernel, rfl, by decide +kernel, by decide +kernel⟩
set_option maxHeartbeats 4000000 in
theorem fn__law_begins {fd : FuncData} (T : Tx K mg f__law_stream f__law_draw f__law_pick f__law_ring f__law_missing f__law_from f__law_begins f__law_links f__law_due f_is_wish f_later_places f_find_taker f_takersZ f_lacks f_heights_of f_need_of f_is_integer f_check_place f_turned f_need f_values_of f_select f__law_selected f_law) (Fu : Fun K "_law_begins" "_law_begins" st__law_begins f__law_begins fd) (G__law_missing : FnD true P w K mg base 1 f__law_missing F__law_missing) (G__law_from : FnD true P w K mg base 1 f__law_from F__law_from) : FnD true P w K mg base 2 f__law_begins F__law_begins := by
  have nd := (sc__law_begins).nd
  exact fnD_of Fu sc__law_begins (Fu.binds fun _ _ _ _ _ _ us hl => match us, hl with | [_], _ => rfl) cl_drop fun cdv A outer s H E hr hG tk po =>
    (dss_one (ds_ret (de_lc (own := [("_law_place", 1)]) fin_fl (ct_name 1) rfl nd (di_range1 rfl T.n_range (da_cons (de_callB c_len k_len T.n_len (by decide +kernel) (da_cons (de_var 0) da_nil)) da_nil)) (blkOk_by (own := [("_law_place", 1)]) (N := nm__law_begins) (sc := defScope st__law_begins) (by decide +kernel)) (fun _ _ _ _ _ => pg_name (i := 1) nd rfl (Or.inl rfl)) (fun _ _ _ _ _ => (dts_one (dt_cmp (or_eq hr.units) k_eqD (de_ix (de_callD G__law_missing (hr.mono (by decide)) hG takes0 T.mg__law_missing T.kp__law_missing (da_cons (de_callD G__law_from (hr.mono (by decide)) hG takes0 T.mg__law_from T.kp__law_from (da_cons (de_var 0) (da_cons (de_var 1) da_nil))) da_nil)) de_int) de_int (nomark _)))) (fun _ _ _ _ _ => (de_var 1)))))
theorem sc__law_links : FnScope nm__law_links ["_law_ring_here"] (defScope st__law_links) := ⟨rfl, rfl, rfl, by decide +kernel, rfl, by decide +kernel, by decide +kernel⟩
set_option maxHeartbeats 4000000 in
theorem fn__law_links {fd : FuncData} (T : Tx K mg f__law_stream f__law_draw f__law_pick f__law_ring f__law_missing f__law_from f__law_begins f__law_links f__law_due f_is_wish f_later_places f_find_taker f_takersZ f_lacks f_heights_of f_need_of f_is_integer f_check_place f_turned f_need f_values_of f_select f__law_selected f_law) (Fu : Fun K "_law_links" "_law_links" st__law_links f__law_links fd) : FnD true P w K mg base 1 f__law_links F__law_links := by
  have nd := (sc__law_links).nd
  exact fnD_of Fu sc__law_links (Fu.binds fun _ _ _ _ _ _ us hl => match us, hl with | [_], _ => rfl) cl_frz fun cdv A outer s H E hr hG tk po =>
    (dss_cons (ds_asg (de_tup (da_cons (de_callB c_len k_len T.n_len (by decide +kernel) (da_cons (de_var 0) da_nil)) (da_cons (de_loc da_nil) (da_cons (de_loc da_nil) da_nil)))) (dg_tup rfl (dgs_cons (dg_name 1 nd) (dgs_cons (dg_name 2 nd) (dgs_cons (dg_name 3 nd) dgs_nil)))))
    (dss_cons (ds_set 4 nd (de_op op_rep k_mulL (de_fl (da_cons de_non da_nil)) (de_var 1)))
    (dss_cons (ds_for po rfl (di_range1 rfl T.n_range (da_cons (de_op or_mulT k_mulT de_int (de_var 1)) da_nil)) (dg_name 5 nd) (dss_cons (ds_set 6 nd (de_loc da_nil))
    (dss_cons (ds_for po rfl (di_range1 rfl T.n_range (da_cons (de_ix (de_var 0) (de_op op_modN k_mod (de_var 5) (de_var 1))) da_nil)) (dg_name 7 nd) (dss_one (ds_expr (de_bm PySem.F.plainAttrs_list PySem.F.slot_list_insert PySem.F.type_list_insert mt_insert k_insert chk_lst (de_var 6) (da_cons de_int (da_cons (de_if (dt_cmp (or_neY hr.units) k_neY (de_var 2) (de_fl da_nil) (nomark _)) (de_bm0 PySem.F.plainAttrs_list PySem.F.slot_list_pop PySem.F.type_list_pop mt_pop k_pop chk_lst (de_var 2)) de_non) da_nil))))) dss_nil)
    (dss_cons (ds_for po rfl (di_seq (de_var 6)) (dg_name 8 nd) (dss_one (ds_if (dw_t (dw_and (dt_cmp op_notN k_notN (de_var 8) de_non (nomark _)) (dw_and1 (dt_chain op_le k_le op_lt k_lt (de_var 1) (de_var 8) (de_op or_mulT k_mulT de_int (de_var 1)))))) (dss_one (ds_asg (de_op op_modN k_mod (de_var 5) (de_var 1)) (dg_sub (W := (fun cls d _ H' => E cls d H')) (de_var 4) (de_op op_sub k_sub (de_var 8) (de_var 1))))) dss_nil)) dss_nil)
    (dss_cons (ds_if (dt_cmp op_ge k_ge (de_var 5) (de_op or_mulT k_mulT de_int (de_var 1)) (nomark _)) (dss_one (ds_expr (de_bm PySem.F.plainAttrs_list PySem.F.slot_list_append PySem.F.type_list_append mt_append k_append chk_lst (de_var 3) (da_cons (de_lc (own := [("_law_one", 8)]) fin_fl (ct_name 8) rfl nd (di_seq (de_var 6)) (blkOk_by (own := [("_law_one", 8)]) (N := nm__law_links) (sc := defScope st__law_links) (by decide +kernel)) (fun _ _ _ _ _ => pg_name (i := 8) nd rfl (Or.inl rfl)) (fun _ _ _ _ _ => dts_nil) (fun _ _ _ _ _ => (de_if (dt_cmp op_isN k_isN (de_var 8) de_non (nomark _)) (de_var 8) (de_op op_modN k_mod (de_var 8) (de_var 1))))) da_nil)))) dss_nil)
    (dss_one (ds_expr (de_bm PySem.F.plainAttrs_list PySem.F.slot_list_append PySem.F.type_list_append mt_append k_append chk_lst (de_var 2) (da_cons (de_var 5) da_nil)))))))) dss_nil)
    (dss_one (ds_ret (de_fl (da_cons (de_var 4) (da_cons (de_var 3) da_nil))))))))
theorem sc__law_due : FnScope nm__law_due ["_law_rows", "_law_way", "_law_wish"] (defScope st__law_due) := ⟨rfl, rfl, rfl, by decide +kernel, rfl, by decide +kernel, by decide +kernel⟩
set_option maxHeartbeats 4000000 in
theorem fn__law_due {fd : FuncData} (T : Tx K mg f__law_stream f__law_draw f__law_pick f__law_ring f__law_missing f__law_from f__law_begins f__law_links f__law_due f_is_wish f_later_places f_find_taker f_takersZ f_lacks f_heights_of f_need_of f_is_integer f_check_place f_turned f_need f_values_of f_select f__law_selected f_law) (Fu : Fun K "_law_due" "_law_due" st__law_due f__law_due fd) : FnD true P w K mg base 1 f__law_due F__law_due := by
  have nd := (sc__law_due).nd
  exact fnD_of Fu sc__law_due (Fu.binds fun _ _ _ _ _ _ us hl => match us, hl with | [_, _, _], _ => rfl) cl_drop fun cdv A outer s H E hr hG tk po =>
    (dss_cons (ds_par2 3 4 rfl nd (da_cons (de_ix (de_fl (da_cons (de_fl da_nil) (da_cons (de_fl (da_cons de_int da_nil)) (da_cons (de_fl (da_cons de_int da_nil)) (da_cons (de_fl (da_cons de_int da_nil)) (da_cons (de_fl (da_cons de_int da_nil)) (da_cons (de_fl (da_cons de_int (da_cons de_int da_nil))) (da_cons (de_fl (da_cons de_int (da_cons de_int da_nil))) (da_cons (de_fl (da_cons de_int (da_cons de_int (da_cons de_int da_nil)))) (da_cons (de_fl (da_cons de_int (da_cons de_int (da_cons de_int (da_cons de_int da_nil))))) da_nil)))))))))) (de_var 1)) (da_cons (de_loc da_nil) da_nil)))
    (dss_cons (ds_for po rfl (di_enum rfl T.n_enumerate (da_cons (de_var 0) da_nil)) (dg_tup rfl (dgs_cons (dg_name 5 nd) (dgs_cons (dg_name 6 nd) dgs_nil))) (dss_one (ds_if (dt_cmp (or_eqY hr.units) k_eqY (de_lc (own := [("_law_k", 7)]) fin_fl (ct_name 7) rfl nd (di_seq (de_var 3)) (blkOk_by (own := [("_law_k", 7)]) (N := nm__law_due) (sc := defScope st__law_due) (by decide +kernel)) (fun _ _ _ _ _ => pg_name (i := 7) nd rfl (Or.inl rfl)) (fun _ _ _ _ _ => (dts_one (dt_cmp (or_ne hr.units) k_neD (de_ix (de_var 2) (de_var 7)) (de_ix (de_var 6) (de_var 7)) (nomark _)))) (fun _ _ _ _ _ => (de_var 7))) (de_fl da_nil) (nomark _)) (dss_one (ds_expr (de_bm PySem.F.plainAttrs_list PySem.F.slot_list_append PySem.F.type_list_append mt_append k_append chk_lst (de_var 4) (da_cons (de_var 5) da_nil)))) dss_nil)) dss_nil)
    (dss_one (ds_ret (de_callTy call_tuple_of k_tuple T.n_tuple (by decide +kernel) (da_cons (de_var 4) da_nil))))))
theorem sc_is_wish : FnScope nm_is_wish ["name", "value"] (defScope st_is_wish) := ⟨rfl, rfl, rfl, by decide +kernel, rfl, by decide +kernel, by decide +kernel⟩
set_option maxHeartbeats 4000000 in
theorem fn_is_wish {fd : FuncData} (T : Tx K mg f__law_stream f__law_draw f__law_pick f__law_ring f__law_missing f__law_from f__law_begins f__law_links f__law_due f_is_wish f_later_places f_find_taker f_takersZ f_lacks f_heights_of f_need_of f_is_integer f_check_place f_turned f_need f_values_of f_select f__law_selected f_law) (Fu : Fun K "is_wish" "is_wish" st_is_wish f_is_wish fd) : FnD false P w K mg base 1 f_is_wish F_is_wish := by
  have nd := (sc_is_wish).nd
  exact fnD_of Fu sc_is_wish (Fu.binds fun _ _ _ _ _ _ us hl => match us, hl with | [_, _], _ => rfl) cl_drop fun cdv A outer s H E hr hG tk po =>
    (dss_cons (ds_if (dt_cmp (or_eq hr.units) k_eqD (de_var 0) de_str (nomark _)) (dss_one (ds_ret (de_and (de_callB call_isi k_isi T.n_isinstance (by decide +kernel) (da_cons (de_var 1) (da_cons (de_bty T.n_int (by decide +kernel)) da_nil))) (de_one (de_not (de_callB call_isi k_isi T.n_isinstance (by decide +kernel) (da_cons (de_var 1) (da_cons (de_bty T.n_bool (by decide +kernel)) da_nil)))))))) dss_nil)
    (dss_one (ds_ret (de_callB call_isi k_isi T.n_isinstance (by decide +kernel) (da_cons (de_var 1) (da_cons (de_bty T.n_bool (by decide +kernel)) da_nil))))))
theorem sc_later_places : GScope nm_later_places ["ring", "place"] (defScope st_later_places) := ⟨rfl, rfl, rfl, by decide +kernel, rfl, by decide +kernel, by decide +kernel⟩
theorem nn_later_places : ∀ y ∈ (defScope st_later_places).names, y.2 ≠ .cell ∧ y.2 ≠ .free := by decide +kernel
set_option maxHeartbeats 4000000 in
theorem fn_later_places {fd : FuncData} (T : Tx K mg f__law_stream f__law_draw f__law_pick f__law_ring f__law_missing f__law_from f__law_begins f__law_links f__law_due f_is_wish f_later_places f_find_taker f_takersZ f_lacks f_heights_of f_need_of f_is_integer f_check_place f_turned f_need f_values_of f_select f__law_selected f_law) (Fu : Fun K "later_places" "later_places" st_later_places f_later_places fd) : GnD P w K mg base 0 f_later_places G_later_places := by
  have nd := (sc_later_places).nd
  exact gnD_of Fu sc_later_places nn_later_places (Fu.binds fun _ _ _ _ _ _ us hl => match us, hl with | [_, _], _ => rfl) gb_later_places fun cdv L ga =>
    (gss_one (gs_forJ (fun X pv H s hX hr => by
      obtain ⟨rfl, rfl, rfl, rfl, rfl⟩ := hX
      exact (dj_range2 rfl T.n_range (da_cons de_int (da_cons (de_op or_add k_add (de_callB c_len k_len T.n_len (by decide +kernel) (da_cons (de_var 0) da_nil)) de_int) da_nil)))) (fun X pv H s hX hr => by
      obtain ⟨rfl, rfl, rfl, rfl, rfl⟩ := hX
      exact (dg_name 2 nd)) (gss_one (gs_yield (genv_of sc_later_places.kind nn_later_places) (fun X pv H s hX hr => by
      obtain ⟨rfl, rfl, rfl, rfl, rfl⟩ := hX
      exact (de_op op_modN k_mod (de_op or_add k_add (de_var 1) (de_var 2)) (de_callB c_len k_len T.n_len (by decide +kernel) (da_cons (de_var 0) da_nil))))))))
theorem sc_find_taker : FnScope nm_find_taker ["ring", "place"] (defScope st_find_taker) := ⟨rfl, rfl, rfl, by decide +kernel, rfl, by decide +kernel, by decide +kernel⟩
set_option maxHeartbeats 4000000 in
theorem fn_find_taker {fd : FuncData} (T : Tx K mg f__law_stream f__law_draw f__law_pick f__law_ring f__law_missing f__law_from f__law_begins f__law_links f__law_due f_is_wish f_later_places f_find_taker f_takersZ f_lacks f_heights_of f_need_of f_is_integer f_check_place f_turned f_need f_values_of f_select f__law_selected f_law) (Fu : Fun K "find_taker" "find_taker" st_find_taker f_find_taker fd) (G_later_places : GnD P w K mg base 0 f_later_places G_later_places) : FnD false P w K mg base 3 f_find_taker F_find_taker := by
  have nd := (sc_find_taker).nd
  exact fnD_of Fu sc_find_taker (Fu.binds fun _ _ _ _ _ _ us hl => match us, hl with | [_, _], _ => rfl) cl_drop fun cdv A outer s H E hr hG tk po =>
    (dss_cons (ds_set 2 nd de_int)
    (dss_cons (ds_forG po calm_cx (hr.mono (by decide)) (pgx_call G_later_places (hr.mono (by decide)) rfl T.mg_later_places T.kp_later_places (da_cons (de_var 0) (da_cons (de_var 1) da_nil))) (dg_name 3 nd) (dss_cons (ds_if (dt_cmp op_gt k_gt (de_ix (de_var 0) (de_var 3)) (de_var 2) (nomark _)) (dss_one (ds_ret (de_var 3))) dss_nil)
    (dss_one (ds_aug 2 nd (de_op op_sub k_sub de_int (de_ix (de_var 0) (de_var 3))) ip_add k_ipadd))) dss_nil)
    (dss_one (ds_ret de_non))))
theorem sc_takersZ : FnScope nm_takersZ ["ring"] (defScope st_takersZ) := ⟨rfl, rfl, rfl, by decide +kernel, rfl, by decide +kernel, by decide +kernel⟩
set_option maxHeartbeats 4000000 in
theorem fn_takersZ {fd : FuncData} (T : Tx K mg f__law_stream f__law_draw f__law_pick f__law_ring f__law_missing f__law_from f__law_begins f__law_links f__law_due f_is_wish f_later_places f_find_taker f_takersZ f_lacks f_heights_of f_need_of f_is_integer f_check_place f_turned f_need f_values_of f_select f__law_selected f_law) (Fu : Fun K "takers" "takers" st_takersZ f_takersZ fd) (G_find_taker : FnD false P w K mg base 3 f_find_taker F_find_taker) : FnD false P w K mg base 4 f_takersZ F_takersZ := by
  have nd := (sc_takersZ).nd
  exact fnD_of Fu sc_takersZ (Fu.binds fun _ _ _ _ _ _ us hl => match us, hl with | [_], _ => rfl) cl_keep fun cdv A outer s H E hr hG tk po =>
    (dss_one (ds_ret (de_callTy call_tupleZ k_tupleZ T.n_tuple (by decide +kernel) (da_cons (de_lc (own := [("place", 1)]) fin_fl (ct_name 1) rfl nd (di_range1 rfl T.n_range (da_cons (de_callB c_len k_len T.n_len (by decide +kernel) (da_cons (de_var 0) da_nil)) da_nil)) (blkOk_by (own := [("place", 1)]) (N := nm_takersZ) (sc := defScope st_takersZ) (by decide +kernel)) (fun _ _ _ _ _ => pg_name (i := 1) nd rfl (Or.inl rfl)) (fun _ _ _ _ _ => dts_nil) (fun _ _ _ _ _ => (de_callD G_find_taker (hr.mono (by decide)) (fun z => nomatch z) takes0 T.mg_find_taker T.kp_find_taker (da_cons (de_var 0) (da_cons (de_var 1) da_nil))))) da_nil))))
theorem sc_lacks : FnScope nm_lacks ["ring"] (defScope st_lacks) := ⟨rfl, rfl, rfl, by decide +kernel, rfl, by decide +kernel, by decide +kernel⟩
set_option maxHeartbeats 4000000 in
theorem fn_lacks {fd : FuncData} (T : Tx K mg f__law_stream f__law_draw f__law_pick f__law_ring f__law_missing f__law_from f__law_begins f__law_links f__law_due f_is_wish f_later_places f_find_taker f_takersZ f_lacks f_heights_of f_need_of f_is_integer f_check_place f_turned f_need f_values_of f_select f__law_selected f_law) (Fu : Fun K "lacks" "lacks" st_lacks f_lacks fd) (G_takersZ : FnD false P w K mg base 4 f_takersZ F_takersZ) : FnD false P w K mg base 5 f_lacks F_lacks := by
  have nd := (sc_lacks).nd
  exact fnD_of Fu sc_lacks (Fu.binds fun _ _ _ _ _ _ us hl => match us, hl with | [_], _ => rfl) cl_drop fun cdv A outer s H E hr hG tk po =>
    (dss_cons (ds_set 1 nd (de_callD G_takersZ (hr.mono (by decide)) (fun z => nomatch z) tk T.mg_takersZ T.kp_takersZ (da_cons (de_var 0) da_nil)))
    (dss_one (ds_ret (de_callTy call_tuple_of k_tuple T.n_tuple (by decide +kernel) (da_cons (de_lc (own := [("place", 2), ("arity", 3)]) fin_fl (ct_pair 2 3 (by decide)) rfl nd (di_enum rfl T.n_enumerate (da_cons (de_var 0) da_nil)) (blkOk_by (own := [("place", 2), ("arity", 3)]) (N := nm_lacks) (sc := defScope st_lacks) (by decide +kernel)) (fun _ _ _ _ _ => pg_tup rfl (pgs_cons (pg_name (i := 2) nd rfl (Or.inl rfl)) (pgs_cons (pg_name (i := 3) nd rfl (Or.inl rfl)) pgs_nil))) (fun _ _ _ _ _ => dts_nil) (fun _ _ _ _ _ => (de_op op_sub k_sub (de_var 3) (de_bmZ PySem.F.slot_tuple_count PySem.F.type_tuple_count (mt_cntZ (Nat.lt_of_le_of_lt (Nat.add_le_add_left (by decide) _) hr.roomy)) k_cntZ (de_var 1) (da_cons (de_var 2) da_nil))))) da_nil)))))
theorem sc_heights_of : FnScope nm_heights_of ["row"] (defScope st_heights_of) := ⟨rfl, rfl, rfl, by decide +kernel, rfl, by decide +kernel, by decide +kernel⟩
set_option maxHeartbeats 4000000 in
theorem fn_heights_of {fd : FuncData} (T : Tx K mg f__law_stream f__law_draw f__law_pick f__law_ring f__law_missing f__law_from f__law_begins f__law_links f__law_due f_is_wish f_later_places f_find_taker f_takersZ f_lacks f_heights_of f_need_of f_is_integer f_check_place f_turned f_need f_values_of f_select f__law_selected f_law) (Fu : Fun K "heights_of" "heights_of" st_heights_of f_heights_of fd) : FnD false P w K mg base 1 f_heights_of F_heights_of := by
  have nd := (sc_heights_of).nd
  exact fnD_of Fu sc_heights_of (Fu.binds fun _ _ _ _ _ _ us hl => match us, hl with | [_], _ => rfl) cl_drop fun cdv A outer s H E hr hG tk po =>
    (dss_cons (ds_set 1 nd (de_loc da_nil))
    (dss_cons (ds_set 2 nd de_int)
    (dss_cons (ds_for po rfl (di_seq (de_var 0)) (dg_name 3 nd) (dss_cons (ds_aug 2 nd (de_op op_sub k_sub de_int (de_var 3)) ip_add k_ipadd)
    (dss_one (ds_expr (de_bm PySem.F.plainAttrs_list PySem.F.slot_list_append PySem.F.type_list_append mt_append k_append chk_lst (de_var 1) (da_cons (de_var 2) da_nil))))) dss_nil)
    (dss_one (ds_ret (de_callTy call_tuple_of k_tuple T.n_tuple (by decide +kernel) (da_cons (de_var 1) da_nil)))))))
theorem sc_need_of : FnScope nm_need_of ["row"] (defScope st_need_of) := ⟨rfl, rfl, rfl, by decide +kernel, rfl, by decide +kernel, by decide +kernel⟩
set_option maxHeartbeats 4000000 in
theorem fn_need_of {fd : FuncData} (T : Tx K mg f__law_stream f__law_draw f__law_pick f__law_ring f__law_missing f__law_from f__law_begins f__law_links f__law_due f_is_wish f_later_places f_find_taker f_takersZ f_lacks f_heights_of f_need_of f_is_integer f_check_place f_turned f_need f_values_of f_select f__law_selected f_law) (Fu : Fun K "need_of" "need_of" st_need_of f_need_of fd) (G_heights_of : FnD false P w K mg base 1 f_heights_of F_heights_of) : FnD false P w K mg base 2 f_need_of F_need_of := by
  have nd := (sc_need_of).nd
  exact fnD_of Fu sc_need_of (Fu.binds fun _ _ _ _ _ _ us hl => match us, hl with | [_], _ => rfl) cl_drop fun cdv A outer s H E hr hG tk po =>
    (dss_one (ds_ret (de_op op_sub k_sub de_int (de_callB (c_min rfl) k_min T.n_min (by decide +kernel) (da_cons (de_op or_add k_add (de_fl (da_cons de_int da_nil)) (de_callTy call_list_of (k_list mk_fl) T.n_list (by decide +kernel) (da_cons (de_callD G_heights_of (hr.mono (by decide)) (fun z => nomatch z) tk T.mg_heights_of T.kp_heights_of (da_cons (de_var 0) da_nil)) da_nil))) da_nil)))))
theorem sc_is_integer : FnScope nm_is_integer ["value", "low", "high"] (defScope st_is_integer) := ⟨rfl, rfl, rfl, by decide +kernel, rfl, by decide +kernel, by decide +kernel⟩
set_option maxHeartbeats 4000000 in
theorem fn_is_integer {fd : FuncData} (T : Tx K mg f__law_stream f__law_draw f__law_pick f__law_ring f__law_missing f__law_from f__law_begins f__law_links f__law_due f_is_wish f_later_places f_find_taker f_takersZ f_lacks f_heights_of f_need_of f_is_integer f_check_place f_turned f_need f_values_of f_select f__law_selected f_law) (Fu : Fun K "is_integer" "is_integer" st_is_integer f_is_integer fd) : FnD false P w K mg base 1 f_is_integer F_is_integer := by
  have nd := (sc_is_integer).nd
  exact fnD_of Fu sc_is_integer (Fu.binds fun _ _ _ _ _ _ us hl => match us, hl with | [_, _, _], _ => rfl) cl_drop fun cdv A outer s H E hr hG tk po =>
    (dss_one (ds_ret (de_and (de_callB call_isi k_isi T.n_isinstance (by decide +kernel) (da_cons (de_var 0) (da_cons (de_bty T.n_int (by decide +kernel)) da_nil))) (de_and (de_not (de_callB call_isi k_isi T.n_isinstance (by decide +kernel) (da_cons (de_var 0) (da_cons (de_bty T.n_bool (by decide +kernel)) da_nil)))) (de_one (de_chain op_le k_le op_le k_le (de_var 1) (de_var 0) (de_var 2)))))))
theorem sc_check_place : FnScope nm_check_place ["ring", "value"] (defScope st_check_place) := ⟨rfl, rfl, rfl, by decide +kernel, rfl, by decide +kernel, by decide +kernel⟩
set_option maxHeartbeats 4000000 in
theorem fn_check_place {fd : FuncData} (T : Tx K mg f__law_stream f__law_draw f__law_pick f__law_ring f__law_missing f__law_from f__law_begins f__law_links f__law_due f_is_wish f_later_places f_find_taker f_takersZ f_lacks f_heights_of f_need_of f_is_integer f_check_place f_turned f_need f_values_of f_select f__law_selected f_law) (Fu : Fun K "check_place" "check_place" st_check_place f_check_place fd) (G_is_integer : FnD false P w K mg base 1 f_is_integer F_is_integer) {C_NoPlace : Addr} (T0_NoPlace : XCls K "NoPlace" C_NoPlace) (mc_NoPlace : mg "NoPlace" = some (.ref C_NoPlace)) {I_NoPlace : Addr} (TI_NoPlace : XInit K C_NoPlace I_NoPlace "NoPlace.__init__" "value") : FnD false P w K mg base 2 f_check_place F_check_place := by
  have nd := (sc_check_place).nd
  exact fnD_of Fu sc_check_place (Fu.binds fun _ _ _ _ _ _ us hl => match us, hl with | [_, _], _ => rfl) cl_drop fun cdv A outer s H E hr hG tk po =>
    (dss_one (ds_if (dt_not (dt_val (de_callD G_is_integer (hr.mono (by decide)) (fun z => nomatch z) tk T.mg_is_integer T.kp_is_integer (da_cons (de_var 1) (da_cons de_int (da_cons (de_op op_sub k_sub (de_callB c_len k_len T.n_len (by decide +kernel) (da_cons (de_var 0) da_nil)) de_int) da_nil)))))) (dss_one (ds_raise1 rfl tk T0_NoPlace TI_NoPlace hr mc_NoPlace (da_cons (de_var 1) da_nil))) dss_nil))
theorem sc_turned : FnScope nm_turned ["ring", "place"] (defScope st_turned) := ⟨rfl, rfl, rfl, by decide +kernel, rfl, by decide +kernel, by decide +kernel⟩
set_option maxHeartbeats 4000000 in
theorem fn_turned {fd : FuncData} (T : Tx K mg f__law_stream f__law_draw f__law_pick f__law_ring f__law_missing f__law_from f__law_begins f__law_links f__law_due f_is_wish f_later_places f_find_taker f_takersZ f_lacks f_heights_of f_need_of f_is_integer f_check_place f_turned f_need f_values_of f_select f__law_selected f_law) (Fu : Fun K "turned" "turned" st_turned f_turned fd) (G_check_place : FnD false P w K mg base 2 f_check_place F_check_place) : FnD false P w K mg base 3 f_turned F_turned := by
  have nd := (sc_turned).nd
  exact fnD_of Fu sc_turned (Fu.binds fun _ _ _ _ _ _ us hl => match us, hl with | [_, _], _ => rfl) cl_drop fun cdv A outer s H E hr hG tk po =>
    (dss_cons (ds_expr (de_callD G_check_place (hr.mono (by decide)) (fun z => nomatch z) tk T.mg_check_place T.kp_check_place (da_cons (de_var 0) (da_cons (de_var 1) da_nil))))
    (dss_one (ds_ret (de_tup (da_star (de_sl mk_fl (de_var 0) (do_some (de_var 1)) do_none) (da_star (de_sl mk_fl (de_var 0) do_none (do_some (de_var 1))) da_nil))))))
theorem sc_need : FnScope nm_need ["ring", "place"] (defScope st_need) := ⟨rfl, rfl, rfl, by decide +kernel, rfl, by decide +kernel, by decide +kernel⟩
set_option maxHeartbeats 4000000 in
theorem fn_need {fd : FuncData} (T : Tx K mg f__law_stream f__law_draw f__law_pick f__law_ring f__law_missing f__law_from f__law_begins f__law_links f__law_due f_is_wish f_later_places f_find_taker f_takersZ f_lacks f_heights_of f_need_of f_is_integer f_check_place f_turned f_need f_values_of f_select f__law_selected f_law) (Fu : Fun K "need" "need" st_need f_need fd) (G_need_of : FnD false P w K mg base 2 f_need_of F_need_of) (G_turned : FnD false P w K mg base 3 f_turned F_turned) : FnD false P w K mg base 4 f_need F_need := by
  have nd := (sc_need).nd
  exact fnD_of Fu sc_need (Fu.binds fun _ _ _ _ _ _ us hl => match us, hl with | [_, _], _ => rfl) cl_drop fun cdv A outer s H E hr hG tk po =>
    (dss_one (ds_ret (de_callD G_need_of (hr.mono (by decide)) (fun z => nomatch z) tk T.mg_need_of T.kp_need_of (da_cons (de_callD G_turned (hr.mono (by decide)) (fun z => nomatch z) tk T.mg_turned T.kp_turned (da_cons (de_var 0) (da_cons (de_var 1) da_nil))) da_nil))))
theorem sc_values_of : FnScope nm_values_of ["ring", "name"] (defScope st_values_of) := ⟨rfl, rfl, rfl, by decide +kernel, rfl, by decide +kernel, by decide +kernel⟩
set_option maxHeartbeats 4000000 in
theorem fn_values_of {fd : FuncData} (T : Tx K mg f__law_stream f__law_draw f__law_pick f__law_ring f__law_missing f__law_from f__law_begins f__law_links f__law_due f_is_wish f_later_places f_find_taker f_takersZ f_lacks f_heights_of f_need_of f_is_integer f_check_place f_turned f_need f_values_of f_select f__law_selected f_law) (Fu : Fun K "values_of" "values_of" st_values_of f_values_of fd) (G_lacks : FnD false P w K mg base 5 f_lacks F_lacks) (G_find_taker : FnD false P w K mg base 3 f_find_taker F_find_taker) (G_need : FnD false P w K mg base 4 f_need F_need) : FnD false P w K mg base 6 f_values_of F_values_of := by
  have nd := (sc_values_of).nd
  exact fnD_of Fu sc_values_of (Fu.binds fun _ _ _ _ _ _ us hl => match us, hl with | [_, _], _ => rfl) cl_drop fun cdv A outer s H E hr hG tk po =>
    (dss_one (ds_match (de_var 1) (dcs_text (dss_one (ds_ret (de_callTy call_list_of (k_list mk_fl) T.n_list (by decide +kernel) (da_cons (de_var 0) da_nil)))) (dcs_text (dss_one (ds_ret (de_lc (own := [("place", 2)]) fin_fl (ct_name 2) rfl nd (di_range1 rfl T.n_range (da_cons (de_callB c_len k_len T.n_len (by decide +kernel) (da_cons (de_var 0) da_nil)) da_nil)) (blkOk_by (own := [("place", 2)]) (N := nm_values_of) (sc := defScope st_values_of) (by decide +kernel)) (fun _ _ _ _ _ => pg_name (i := 2) nd rfl (Or.inl rfl)) (fun _ _ _ _ _ => dts_nil) (fun _ _ _ _ _ => (de_cmp (or_eq hr.units) k_eqD (de_callD G_need (hr.mono (by decide)) (fun z => nomatch z) takes0 T.mg_need T.kp_need (da_cons (de_var 0) (da_cons (de_var 2) da_nil))) de_int (nomark _)))))) (dcs_text (dss_one (ds_ret (de_lc (own := [("place", 2)]) fin_fl (ct_name 2) rfl nd (di_range1 rfl T.n_range (da_cons (de_callB c_len k_len T.n_len (by decide +kernel) (da_cons (de_var 0) da_nil)) da_nil)) (blkOk_by (own := [("place", 2)]) (N := nm_values_of) (sc := defScope st_values_of) (by decide +kernel)) (fun _ _ _ _ _ => pg_name (i := 2) nd rfl (Or.inl rfl)) (fun _ _ _ _ _ => dts_nil) (fun _ _ _ _ _ => (de_cmp op_isN k_isN (de_callD G_find_taker (hr.mono (by decide)) (fun z => nomatch z) takes0 T.mg_find_taker T.kp_find_taker (da_cons (de_var 0) (da_cons (de_var 2) da_nil))) de_non (nomark _)))))) (dcs_any (dss_one (ds_ret (de_lc (own := [("many", 3)]) fin_fl (ct_name 3) rfl nd (di_seq (de_callD G_lacks (hr.mono (by decide)) (fun z => nomatch z) tk T.mg_lacks T.kp_lacks (da_cons (de_var 0) da_nil))) (blkOk_by (own := [("many", 3)]) (N := nm_values_of) (sc := defScope st_values_of) (by decide +kernel)) (fun _ _ _ _ _ => pg_name (i := 3) nd rfl (Or.inl rfl)) (fun _ _ _ _ _ => dts_nil) (fun _ _ _ _ _ => (de_cmp op_gt k_gt (de_var 3) de_int (nomark _))))))))))))
theorem sc_select : FnScope nm_select ["ring", "wanted"] (defScope st_select) := ⟨rfl, rfl, rfl, by decide +kernel, rfl, by decide +kernel, by decide +kernel⟩
set_option maxHeartbeats 4000000 in
theorem fn_select {fd : FuncData} (T : Tx K mg f__law_stream f__law_draw f__law_pick f__law_ring f__law_missing f__law_from f__law_begins f__law_links f__law_due f_is_wish f_later_places f_find_taker f_takersZ f_lacks f_heights_of f_need_of f_is_integer f_check_place f_turned f_need f_values_of f_select f__law_selected f_law) (Fu : Fun K "select" "select" st_select f_select fd) (G_is_wish : FnD false P w K mg base 1 f_is_wish F_is_wish) (G_values_of : FnD false P w K mg base 6 f_values_of F_values_of) {C_NoProperty : Addr} (T0_NoProperty : XCls K "NoProperty" C_NoProperty) (mc_NoProperty : mg "NoProperty" = some (.ref C_NoProperty)) {C_BadWish : Addr} (T0_BadWish : XCls K "BadWish" C_BadWish) (mc_BadWish : mg "BadWish" = some (.ref C_BadWish)) {I_NoProperty : Addr} (TI_NoProperty : XInit K C_NoProperty I_NoProperty "NoProperty.__init__" "name") {I_BadWish : Addr} (TI_BadWish : XInit K C_BadWish I_BadWish "BadWish.__init__" "value") (mg_PROPERTIES : mg "PROPERTIES" = some u_PROPERTIES) (kr_PROPERTIES : KRep K u_PROPERTIES d_PROPERTIES) (ks : List Str) (hks : ks.Nodup) (hk15 : ks.length ≤ 15) (hb : ∀ (kV doc pm : Value) (an : Option Addr) (cdv ct u : Value) (ws : List Value), ws.length = ks.length → bindArgs (PySem.W.fnOf "select" "select" (defArgs st_select) (defBody st_select) (defScope st_select) .none kV doc pm an cdv ct) ⟨[u], ks.zip ws⟩ = ((alloc (PySem.W.dictOf [] 0) : Sem Addr) >>= fun D => (forIn (ks.zip ws) PUnit.unit fun x _ => (nsSet D x.1 x.2 >>= fun _ => pure (ForInStep.yield PUnit.unit))) >>= fun _ => pure [(("ring" : Str), u), (("wanted" : Str), Value.ref D)])) : FnK false P w K mg base 7 f_select ks (F_select ks) := by
  have nd := (sc_select).nd
  exact fnKw_of Fu sc_select cl_drop hks hk15 hb fun cdv A outer s H E hr hG tk po =>
    (dss_cons (ds_for po rfl (di_keys (de_var 1)) (dg_name 2 nd) (dss_one (ds_if (dt_cmp or_notIn (k_in true) (de_var 2) (de_glob rfl mg_PROPERTIES kr_PROPERTIES) rfl) (dss_one (ds_raise1 rfl tk T0_NoProperty TI_NoProperty hr mc_NoProperty (da_cons (de_var 2) da_nil))) dss_nil)) dss_nil)
    (dss_cons (ds_set 3 nd (de_listRg mk_fl rfl T.n_list T.n_range (de_callB c_len k_len T.n_len (by decide +kernel) (da_cons (de_var 0) da_nil))))
    (dss_cons (ds_for po rfl (di_items (de_var 1)) (dg_tup rfl (dgs_cons (dg_name 2 nd) (dgs_cons (dg_name 4 nd) dgs_nil))) (dss_cons (ds_if (dt_not (dt_val (de_callD G_is_wish (hr.mono (by decide)) (fun z => nomatch z) tk T.mg_is_wish T.kp_is_wish (da_cons (de_var 2) (da_cons (de_var 4) da_nil))))) (dss_one (ds_raise1 rfl tk T0_BadWish TI_BadWish hr mc_BadWish (da_cons (de_var 4) da_nil))) dss_nil)
    (dss_cons (ds_set 5 nd (de_callD G_values_of (hr.mono (by decide)) (fun z => nomatch z) tk T.mg_values_of T.kp_values_of (da_cons (de_var 0) (da_cons (de_var 2) da_nil))))
    (dss_one (ds_setLc 3 (own := [("place", 6)]) fin_fl (ct_name 6) rfl nd (di_seq (de_var 3)) (blkOk_by (own := [("place", 6)]) (N := nm_select) (sc := defScope st_select) (by decide +kernel)) (fun _ _ _ _ _ => pg_name (i := 6) nd rfl (Or.inl rfl)) (fun _ _ _ _ _ => (dts_one (dt_cmp (or_eq hr.units) k_eqD (de_ix (de_var 5) (de_var 6)) (de_var 4) (nomark _)))) (fun _ _ _ _ _ => (de_var 6)))))) dss_nil)
    (dss_one (ds_ret (de_callTy call_tuple_of k_tuple T.n_tuple (by decide +kernel) (da_cons (de_var 3) da_nil)))))))
theorem sc__law_selected : FnScope nm__law_selected ["_law_ring_here", "_law_way", "_law_wish"] (defScope st__law_selected) := ⟨rfl, rfl, rfl, by decide +kernel, rfl, by decide +kernel, by decide +kernel⟩
set_option maxHeartbeats 4000000 in
theorem fn__law_selected {fd : FuncData} (T : Tx K mg f__law_stream f__law_draw f__law_pick f__law_ring f__law_missing f__law_from f__law_begins f__law_links f__law_due f_is_wish f_later_places f_find_taker f_takersZ f_lacks f_heights_of f_need_of f_is_integer f_check_place f_turned f_need f_values_of f_select f__law_selected f_law) (Fu : Fun K "_law_selected" "_law_selected" st__law_selected f__law_selected fd) (G_select_k : FnD false P w K mg base 7 f_select (F_select [])) (G_select_karity : FnK false P w K mg base 7 f_select ["arity"] (F_select ["arity"])) (G_select_kbeginning : FnK false P w K mg base 7 f_select ["beginning"] (F_select ["beginning"])) (G_select_kfree : FnK false P w K mg base 7 f_select ["free"] (F_select ["free"])) (G_select_klacking : FnK false P w K mg base 7 f_select ["lacking"] (F_select ["lacking"])) (G_select_kfree_arity : FnK false P w K mg base 7 f_select ["free", "arity"] (F_select ["free", "arity"])) (G_select_kbeginning_lacking : FnK false P w K mg base 7 f_select ["beginning", "lacking"] (F_select ["beginning", "lacking"])) (G_select_klacking_arity_beginning : FnK false P w K mg base 7 f_select ["lacking", "arity", "beginning"] (F_select ["lacking", "arity", "beginning"])) (G_select_karity_beginning_free_lacking : FnK false P w K mg base 7 f_select ["arity", "beginning", "free", "lacking"] (F_select ["arity", "beginning", "free", "lacking"])) : FnD true P w K mg base 8 f__law_selected F__law_selected := by
  have nd := (sc__law_selected).nd
  exact fnD_of Fu sc__law_selected (Fu.binds fun _ _ _ _ _ _ us hl => match us, hl with | [_, _, _], _ => rfl) cl_drop fun cdv A outer s H E hr hG tk po =>
    (dss_cons (ds_if (dt_cmp (or_eq hr.units) k_eqD (de_var 1) de_int (nomark _)) (dss_one (ds_ret (de_callD G_select_k (hr.mono (by decide)) (fun z => nomatch z) tk T.mg_select T.kp_select (da_cons (de_var 0) da_nil)))) dss_nil)
    (dss_cons (ds_if (dt_cmp (or_eq hr.units) k_eqD (de_var 1) de_int (nomark _)) (dss_one (ds_ret (de_callK (ks := ["arity"]) G_select_karity (hr.mono (by decide)) (fun z => nomatch z) tk T.mg_select T.kp_select (da_cons (de_var 0) da_nil) (dk_cons (de_ix (de_var 2) de_int) dk_nil)))) dss_nil)
    (dss_cons (ds_if (dt_cmp (or_eq hr.units) k_eqD (de_var 1) de_int (nomark _)) (dss_one (ds_ret (de_callK (ks := ["beginning"]) G_select_kbeginning (hr.mono (by decide)) (fun z => nomatch z) tk T.mg_select T.kp_select (da_cons (de_var 0) da_nil) (dk_cons (de_ix (de_var 2) de_int) dk_nil)))) dss_nil)
    (dss_cons (ds_if (dt_cmp (or_eq hr.units) k_eqD (de_var 1) de_int (nomark _)) (dss_one (ds_ret (de_callK (ks := ["free"]) G_select_kfree (hr.mono (by decide)) (fun z => nomatch z) tk T.mg_select T.kp_select (da_cons (de_var 0) da_nil) (dk_cons (de_ix (de_var 2) de_int) dk_nil)))) dss_nil)
    (dss_cons (ds_if (dt_cmp (or_eq hr.units) k_eqD (de_var 1) de_int (nomark _)) (dss_one (ds_ret (de_callK (ks := ["lacking"]) G_select_klacking (hr.mono (by decide)) (fun z => nomatch z) tk T.mg_select T.kp_select (da_cons (de_var 0) da_nil) (dk_cons (de_ix (de_var 2) de_int) dk_nil)))) dss_nil)
    (dss_cons (ds_if (dt_cmp (or_eq hr.units) k_eqD (de_var 1) de_int (nomark _)) (dss_one (ds_ret (de_callK (ks := ["free", "arity"]) G_select_kfree_arity (hr.mono (by decide)) (fun z => nomatch z) tk T.mg_select T.kp_select (da_cons (de_var 0) da_nil) (dk_cons (de_ix (de_var 2) de_int) (dk_cons (de_ix (de_var 2) de_int) dk_nil))))) dss_nil)
    (dss_cons (ds_if (dt_cmp (or_eq hr.units) k_eqD (de_var 1) de_int (nomark _)) (dss_one (ds_ret (de_callK (ks := ["beginning", "lacking"]) G_select_kbeginning_lacking (hr.mono (by decide)) (fun z => nomatch z) tk T.mg_select T.kp_select (da_cons (de_var 0) da_nil) (dk_cons (de_ix (de_var 2) de_int) (dk_cons (de_ix (de_var 2) de_int) dk_nil))))) dss_nil)
    (dss_cons (ds_if (dt_cmp (or_eq hr.units) k_eqD (de_var 1) de_int (nomark _)) (dss_one (ds_ret (de_callK (ks := ["lacking", "arity", "beginning"]) G_select_klacking_arity_beginning (hr.mono (by decide)) (fun z => nomatch z) tk T.mg_select T.kp_select (da_cons (de_var 0) da_nil) (dk_cons (de_ix (de_var 2) de_int) (dk_cons (de_ix (de_var 2) de_int) (dk_cons (de_ix (de_var 2) de_int) dk_nil)))))) dss_nil)
    (dss_one (ds_ret (de_callK (ks := ["arity", "beginning", "free", "lacking"]) G_select_karity_beginning_free_lacking (hr.mono (by decide)) (fun z => nomatch z) tk T.mg_select T.kp_select (da_cons (de_var 0) da_nil) (dk_cons (de_ix (de_var 2) de_int) (dk_cons (de_ix (de_var 2) de_int) (dk_cons (de_ix (de_var 2) de_int) (dk_cons (de_ix (de_var 2) de_int) dk_nil)))))))))))))))
theorem sc_law : FnScope nm_law ["_law_script"] (defScope st_law) := ⟨rfl, rfl, rfl, by decide +kernel, rfl, by decide +kernel, by decide +kernel⟩
set_option maxHeartbeats 4000000 in
theorem fn_law {fd : FuncData} (T : Tx K mg f__law_stream f__law_draw f__law_pick f__law_ring f__law_missing f__law_from f__law_begins f__law_links f__law_due f_is_wish f_later_places f_find_taker f_takersZ f_lacks f_heights_of f_need_of f_is_integer f_check_place f_turned f_need f_values_of f_select f__law_selected f_law) (Fu : Fun K "law" "law" st_law f_law fd) (G__law_stream : FnD true P w K mg base 1 f__law_stream F__law_stream) (G__law_ring : FnD true P w K mg base 3 f__law_ring F__law_ring) (G__law_begins : FnD true P w K mg base 2 f__law_begins F__law_begins) (G__law_links : FnD true P w K mg base 1 f__law_links F__law_links) (G__law_pick : FnD true P w K mg base 2 f__law_pick F__law_pick) (G__law_draw : FnD true P w K mg base 1 f__law_draw F__law_draw) (G__law_due : FnD true P w K mg base 1 f__law_due F__law_due) (G__law_selected : FnD true P w K mg base 8 f__law_selected F__law_selected) (hsys : ∃ o, base.get? sysModules = some o) : FnD true P w K mg base 9 f_law F_law := by
  have nd := (sc_law).nd
  exact fnD_of Fu sc_law (Fu.binds fun _ _ _ _ _ _ us hl => match us, hl with | [_], _ => rfl) cl_drop fun cdv A outer s H E hr hG tk po =>
    (dss_cons (ds_set 1 nd (de_callD G__law_stream (hr.mono (by decide)) hG tk T.mg__law_stream T.kp__law_stream (da_cons (de_var 0) da_nil)))
    (dss_cons (ds_for po rfl (di_range1 rfl T.n_range (da_cons de_int da_nil)) (dg_name 2 nd) (dss_cons (ds_set 3 nd (de_callD G__law_ring (hr.mono (by decide)) hG tk T.mg__law_ring T.kp__law_ring (da_cons (de_var 1) (da_cons de_int da_nil))))
    (dss_cons (ds_par3 4 5 6 rfl nd (da_cons (de_callB (c_repr hr (hG rfl) hsys) k_repr T.n_repr (by decide +kernel) (da_cons (de_var 3) da_nil)) (da_cons (de_callD G__law_begins (hr.mono (by decide)) hG tk T.mg__law_begins T.kp__law_begins (da_cons (de_var 3) da_nil)) (da_cons (de_loc da_nil) da_nil))))
    (dss_cons (ds_asg (de_callD G__law_links (hr.mono (by decide)) hG tk T.mg__law_links T.kp__law_links (da_cons (de_var 3) da_nil)) (dg_sq rfl (dgs_cons (dg_name 7 nd) (dgs_cons (dg_name 8 nd) dgs_nil))))
    (dss_cons (ds_for po rfl (di_enum rfl T.n_enumerate (da_cons (de_var 3) da_nil)) (dg_tup rfl (dgs_cons (dg_name 9 nd) (dgs_cons (dg_name 10 nd) dgs_nil))) (dss_one (ds_expr (de_bm PySem.F.plainAttrs_list PySem.F.slot_list_append PySem.F.type_list_append mt_append k_append chk_lst (de_var 6) (da_cons (de_fl (da_cons (de_var 10) (da_cons (de_cmp or_in (k_in false) (de_var 9) (de_var 5) rfl) (da_cons (de_cmp op_isN k_isN (de_ix (de_var 7) (de_var 9)) de_non (nomark _)) (da_cons (de_cmp or_in (k_in false) de_non (de_ix (de_var 8) (de_var 9)) rfl) da_nil))))) da_nil)))) dss_nil)
    (dss_one (ds_for po rfl (di_range1 rfl T.n_range (da_cons de_int da_nil)) (dg_name 11 nd) (dss_cons (ds_set 12 nd (de_ix (de_fl (da_cons (de_callD G__law_draw (hr.mono (by decide)) hG tk T.mg__law_draw T.kp__law_draw (da_cons (de_var 1) (da_cons de_int da_nil))) (da_cons (de_callD G__law_pick (hr.mono (by decide)) hG tk T.mg__law_pick T.kp__law_pick (da_cons (de_var 1) (da_cons (de_var 3) da_nil))) (da_cons (de_neg de_int) (da_cons (de_op op_pow k_pow de_int de_int) da_nil))))) (de_callD G__law_draw (hr.mono (by decide)) hG tk T.mg__law_draw T.kp__law_draw (da_cons (de_var 1) (da_cons de_int da_nil)))))
    (dss_cons (ds_set 13 nd (de_op or_add k_add (de_fl (da_cons (de_var 12) da_nil)) (de_lc (own := [("_law_k", 16)]) fin_fl (ct_name 16) rfl nd (di_range1 rfl T.n_range (da_cons de_int da_nil)) (blkOk_by (own := [("_law_k", 16)]) (N := nm_law) (sc := defScope st_law) (by decide +kernel)) (fun _ _ _ _ _ => pg_name (i := 16) nd rfl (Or.inl rfl)) (fun _ _ _ _ _ => dts_nil) (fun _ _ _ _ _ => (de_cmp (or_eq hr.units) k_eqD (de_callD G__law_draw (hr.mono (by decide)) hG takes0 T.mg__law_draw T.kp__law_draw (da_cons (de_var 1) (da_cons de_int da_nil))) de_int (nomark _))))))
    (dss_cons (ds_set 14 nd (de_callB (c_repr hr (hG rfl) hsys) k_repr T.n_repr (by decide +kernel) (da_cons (de_callD G__law_due (hr.mono (by decide)) hG tk T.mg__law_due T.kp__law_due (da_cons (de_var 6) (da_cons (de_var 11) (da_cons (de_var 13) da_nil)))) da_nil)))
    (dss_one (ds_for po rfl (di_range1 rfl T.n_range (da_cons de_int da_nil)) (dg_name 15 nd) (dss_one (ds_if (dw_t (dw_or (dt_cmp (or_ne hr.units) k_neD (de_callB (c_repr hr (hG rfl) hsys) k_repr T.n_repr (by decide +kernel) (da_cons (de_callD G__law_selected (hr.mono (by decide)) hG tk T.mg__law_selected T.kp__law_selected (da_cons (de_var 3) (da_cons (de_var 11) (da_cons (de_var 13) da_nil)))) da_nil)) (de_var 14) (nomark _)) (dw_or1 (dt_cmp (or_ne hr.units) k_neD (de_callB (c_repr hr (hG rfl) hsys) k_repr T.n_repr (by decide +kernel) (da_cons (de_var 3) da_nil)) (de_var 4) (nomark _))))) (dss_one (ds_ret de_bl)) dss_nil)) dss_nil))))) dss_nil)))))) dss_nil)
    (dss_one (ds_ret de_bl))))
end
theorem all_mk {l : PySem.W.OpenLaw} {w : World} {K : PySem.W.Frag} {h : Heap} {mg : Str → Option Value} {fa f__law_stream f__law_draw f__law_pick f__law_ring f__law_missing f__law_from f__law_begins f__law_links f__law_due f_is_wish f_later_places f_find_taker f_takersZ f_lacks f_heights_of f_need_of f_is_integer f_check_place f_turned f_need f_values_of f_select f__law_selected f_law : Addr} (X : K.In h) (G : h.Ns mainGlobals mg) (hfa : mg "law" = some (.ref fa))
    {od__law_stream an__law_stream : Option Addr} {sl__law_stream : Array (Option Value)} {oc__law_stream kV__law_stream dc__law_stream pm__law_stream cd__law_stream ct__law_stream : Value}
    {od__law_draw an__law_draw : Option Addr} {sl__law_draw : Array (Option Value)} {oc__law_draw kV__law_draw dc__law_draw pm__law_draw cd__law_draw ct__law_draw : Value}
    {od__law_pick an__law_pick : Option Addr} {sl__law_pick : Array (Option Value)} {oc__law_pick kV__law_pick dc__law_pick pm__law_pick cd__law_pick ct__law_pick : Value}
    {od__law_ring an__law_ring : Option Addr} {sl__law_ring : Array (Option Value)} {oc__law_ring kV__law_ring dc__law_ring pm__law_ring cd__law_ring ct__law_ring : Value}
    {od__law_missing an__law_missing : Option Addr} {sl__law_missing : Array (Option Value)} {oc__law_missing kV__law_missing dc__law_missing pm__law_missing cd__law_missing ct__law_missing : Value}
    {od__law_from an__law_from : Option Addr} {sl__law_from : Array (Option Value)} {oc__law_from kV__law_from dc__law_from pm__law_from cd__law_from ct__law_from : Value}
    {od__law_begins an__law_begins : Option Addr} {sl__law_begins : Array (Option Value)} {oc__law_begins kV__law_begins dc__law_begins pm__law_begins cd__law_begins ct__law_begins : Value}
    {od__law_links an__law_links : Option Addr} {sl__law_links : Array (Option Value)} {oc__law_links kV__law_links dc__law_links pm__law_links cd__law_links ct__law_links : Value}
    {od__law_due an__law_due : Option Addr} {sl__law_due : Array (Option Value)} {oc__law_due kV__law_due dc__law_due pm__law_due cd__law_due ct__law_due : Value}
    {od_is_wish an_is_wish : Option Addr} {sl_is_wish : Array (Option Value)} {oc_is_wish kV_is_wish dc_is_wish pm_is_wish cd_is_wish ct_is_wish : Value}
    {od_later_places an_later_places : Option Addr} {sl_later_places : Array (Option Value)} {oc_later_places kV_later_places dc_later_places pm_later_places cd_later_places ct_later_places : Value}
    {od_find_taker an_find_taker : Option Addr} {sl_find_taker : Array (Option Value)} {oc_find_taker kV_find_taker dc_find_taker pm_find_taker cd_find_taker ct_find_taker : Value}
    {od_takersZ an_takersZ : Option Addr} {sl_takersZ : Array (Option Value)} {oc_takersZ kV_takersZ dc_takersZ pm_takersZ cd_takersZ ct_takersZ : Value}
    {od_lacks an_lacks : Option Addr} {sl_lacks : Array (Option Value)} {oc_lacks kV_lacks dc_lacks pm_lacks cd_lacks ct_lacks : Value}
    {od_heights_of an_heights_of : Option Addr} {sl_heights_of : Array (Option Value)} {oc_heights_of kV_heights_of dc_heights_of pm_heights_of cd_heights_of ct_heights_of : Value}
    {od_need_of an_need_of : Option Addr} {sl_need_of : Array (Option Value)} {oc_need_of kV_need_of dc_need_of pm_need_of cd_need_of ct_need_of : Value}
    {od_is_integer an_is_integer : Option Addr} {sl_is_integer : Array (Option Value)} {oc_is_integer kV_is_integer dc_is_integer pm_is_integer cd_is_integer ct_is_integer : Value}
    {od_check_place an_check_place : Option Addr} {sl_check_place : Array (Option Value)} {oc_check_place kV_check_place dc_check_place pm_check_place cd_check_place ct_check_place : Value}
    {od_turned an_turned : Option Addr} {sl_turned : Array (Option Value)} {oc_turned kV_turned dc_turned pm_turned cd_turned ct_turned : Value}
    {od_need an_need : Option Addr} {sl_need : Array (Option Value)} {oc_need kV_need dc_need pm_need cd_need ct_need : Value}
    {od_values_of an_values_of : Option Addr} {sl_values_of : Array (Option Value)} {oc_values_of kV_values_of dc_values_of pm_values_of cd_values_of ct_values_of : Value}
    {od_select an_select : Option Addr} {sl_select : Array (Option Value)} {oc_select kV_select dc_select pm_select cd_select ct_select : Value}
    {od__law_selected an__law_selected : Option Addr} {sl__law_selected : Array (Option Value)} {oc__law_selected kV__law_selected dc__law_selected pm__law_selected cd__law_selected ct__law_selected : Value}
    {od_law an_law : Option Addr} {sl_law : Array (Option Value)} {oc_law kV_law dc_law pm_law cd_law ct_law : Value}
    {q_PROPERTIES : Addr} {dd_PROPERTIES : Option Addr} {nn_PROPERTIES : Nat} {ss_PROPERTIES : Array (Option Value)}
    {tk0_PROPERTIES tk1_PROPERTIES tk2_PROPERTIES tk3_PROPERTIES : Tok}
    {C_NoProperty : Addr}
    {I_NoProperty N_NoProperty : Addr} {nm_NoProperty q_NoProperty : Str} {bs_NoProperty bm_NoProperty sub_NoProperty : List Value} {sn_NoProperty : List Str} {ab_NoProperty : Bool} {col_NoProperty : Option Bool} {dd_NoProperty : Option Addr} {k0_NoProperty k1_NoProperty k2_NoProperty k3_NoProperty k5_NoProperty : Option Value}
    {io_NoProperty ic_NoProperty it_NoProperty id_NoProperty ip_NoProperty : Value} {iq_NoProperty ia_NoProperty : Option Addr} {is_NoProperty : Array (Option Value)} {p1_NoProperty p2_NoProperty q1_NoProperty q2_NoProperty q3_NoProperty q4_NoProperty : Pos}
    {C_BadWish : Addr}
    {I_BadWish N_BadWish : Addr} {nm_BadWish q_BadWish : Str} {bs_BadWish bm_BadWish sub_BadWish : List Value} {sn_BadWish : List Str} {ab_BadWish : Bool} {col_BadWish : Option Bool} {dd_BadWish : Option Addr} {k0_BadWish k1_BadWish k2_BadWish k3_BadWish k5_BadWish : Option Value}
    {io_BadWish ic_BadWish it_BadWish id_BadWish ip_BadWish : Value} {iq_BadWish ia_BadWish : Option Addr} {is_BadWish : Array (Option Value)} {p1_BadWish p2_BadWish q1_BadWish q2_BadWish q3_BadWish q4_BadWish : Pos}
    {C_NoPlace : Addr}
    {I_NoPlace N_NoPlace : Addr} {nm_NoPlace q_NoPlace : Str} {bs_NoPlace bm_NoPlace sub_NoPlace : List Value} {sn_NoPlace : List Str} {ab_NoPlace : Bool} {col_NoPlace : Option Bool} {dd_NoPlace : Option Addr} {k0_NoPlace k1_NoPlace k2_NoPlace k3_NoPlace k5_NoPlace : Option Value}
    {io_NoPlace ic_NoPlace it_NoPlace id_NoPlace ip_NoPlace : Value} {iq_NoPlace ia_NoPlace : Option Addr} {is_NoPlace : Array (Option Value)} {p1_NoPlace p2_NoPlace q1_NoPlace q2_NoPlace q3_NoPlace q4_NoPlace : Pos}
    (a__law_stream : PySem.W.nsIn K mainGlobals "_law_stream" = some (some (.ref f__law_stream)))
    (l__law_stream : K.lookup f__law_stream = some ⟨oc__law_stream, od__law_stream, .func (PySem.W.fnOf "_law_stream" "_law_stream" (defArgs st__law_stream) (defBody st__law_stream) (defScope st__law_stream) .none kV__law_stream dc__law_stream pm__law_stream an__law_stream cd__law_stream ct__law_stream), sl__law_stream⟩)
    (c__law_stream : PySem.W.codeIn K cd__law_stream "_law_stream" = true)
    (k__law_stream : PySem.W.keepIn K (.ref f__law_stream) = true)
    (a__law_draw : PySem.W.nsIn K mainGlobals "_law_draw" = some (some (.ref f__law_draw)))
    (l__law_draw : K.lookup f__law_draw = some ⟨oc__law_draw, od__law_draw, .func (PySem.W.fnOf "_law_draw" "_law_draw" (defArgs st__law_draw) (defBody st__law_draw) (defScope st__law_draw) .none kV__law_draw dc__law_draw pm__law_draw an__law_draw cd__law_draw ct__law_draw), sl__law_draw⟩)
    (c__law_draw : PySem.W.codeIn K cd__law_draw "_law_draw" = true)
    (k__law_draw : PySem.W.keepIn K (.ref f__law_draw) = true)
    (a__law_pick : PySem.W.nsIn K mainGlobals "_law_pick" = some (some (.ref f__law_pick)))
    (l__law_pick : K.lookup f__law_pick = some ⟨oc__law_pick, od__law_pick, .func (PySem.W.fnOf "_law_pick" "_law_pick" (defArgs st__law_pick) (defBody st__law_pick) (defScope st__law_pick) .none kV__law_pick dc__law_pick pm__law_pick an__law_pick cd__law_pick ct__law_pick), sl__law_pick⟩)
    (c__law_pick : PySem.W.codeIn K cd__law_pick "_law_pick" = true)
    (k__law_pick : PySem.W.keepIn K (.ref f__law_pick) = true)
    (a__law_ring : PySem.W.nsIn K mainGlobals "_law_ring" = some (some (.ref f__law_ring)))
    (l__law_ring : K.lookup f__law_ring = some ⟨oc__law_ring, od__law_ring, .func (PySem.W.fnOf "_law_ring" "_law_ring" (defArgs st__law_ring) (defBody st__law_ring) (defScope st__law_ring) .none kV__law_ring dc__law_ring pm__law_ring an__law_ring cd__law_ring ct__law_ring), sl__law_ring⟩)
    (c__law_ring : PySem.W.codeIn K cd__law_ring "_law_ring" = true)
    (k__law_ring : PySem.W.keepIn K (.ref f__law_ring) = true)
    (a__law_missing : PySem.W.nsIn K mainGlobals "_law_missing" = some (some (.ref f__law_missing)))
    (l__law_missing : K.lookup f__law_missing = some ⟨oc__law_missing, od__law_missing, .func (PySem.W.fnOf "_law_missing" "_law_missing" (defArgs st__law_missing) (defBody st__law_missing) (defScope st__law_missing) .none kV__law_missing dc__law_missing pm__law_missing an__law_missing cd__law_missing ct__law_missing), sl__law_missing⟩)
    (c__law_missing : PySem.W.codeIn K cd__law_missing "_law_missing" = true)
    (k__law_missing : PySem.W.keepIn K (.ref f__law_missing) = true)
    (a__law_from : PySem.W.nsIn K mainGlobals "_law_from" = some (some (.ref f__law_from)))
    (l__law_from : K.lookup f__law_from = some ⟨oc__law_from, od__law_from, .func (PySem.W.fnOf "_law_from" "_law_from" (defArgs st__law_from) (defBody st__law_from) (defScope st__law_from) .none kV__law_from dc__law_from pm__law_from an__law_from cd__law_from ct__law_from), sl__law_from⟩)
    (c__law_from : PySem.W.codeIn K cd__law_from "_law_from" = true)
    (k__law_from : PySem.W.keepIn K (.ref f__law_from) = true)
    (a__law_begins : PySem.W.nsIn K mainGlobals "_law_begins" = some (some (.ref f__law_begins)))
    (l__law_begins : K.lookup f__law_begins = some ⟨oc__law_begins, od__law_begins, .func (PySem.W.fnOf "_law_begins" "_law_begins" (defArgs st__law_begins) (defBody st__law_begins) (defScope st__law_begins) .none kV__law_begins dc__law_begins pm__law_begins an__law_begins cd__law_begins ct__law_begins), sl__law_begins⟩)
    (c__law_begins : PySem.W.codeIn K cd__law_begins "_law_begins" = true)
    (k__law_begins : PySem.W.keepIn K (.ref f__law_begins) = true)
    (a__law_links : PySem.W.nsIn K mainGlobals "_law_links" = some (some (.ref f__law_links)))
    (l__law_links : K.lookup f__law_links = some ⟨oc__law_links, od__law_links, .func (PySem.W.fnOf "_law_links" "_law_links" (defArgs st__law_links) (defBody st__law_links) (defScope st__law_links) .none kV__law_links dc__law_links pm__law_links an__law_links cd__law_links ct__law_links), sl__law_links⟩)
    (c__law_links : PySem.W.codeIn K cd__law_links "_law_links" = true)
    (k__law_links : PySem.W.keepIn K (.ref f__law_links) = true)
    (a__law_due : PySem.W.nsIn K mainGlobals "_law_due" = some (some (.ref f__law_due)))
    (l__law_due : K.lookup f__law_due = some ⟨oc__law_due, od__law_due, .func (PySem.W.fnOf "_law_due" "_law_due" (defArgs st__law_due) (defBody st__law_due) (defScope st__law_due) .none kV__law_due dc__law_due pm__law_due an__law_due cd__law_due ct__law_due), sl__law_due⟩)
    (c__law_due : PySem.W.codeIn K cd__law_due "_law_due" = true)
    (k__law_due : PySem.W.keepIn K (.ref f__law_due) = true)
    (a_is_wish : PySem.W.nsIn K mainGlobals "is_wish" = some (some (.ref f_is_wish)))
    (l_is_wish : K.lookup f_is_wish = some ⟨oc_is_wish, od_is_wish, .func (PySem.W.fnOf "is_wish" "is_wish" (defArgs st_is_wish) (defBody st_is_wish) (defScope st_is_wish) .none kV_is_wish dc_is_wish pm_is_wish an_is_wish cd_is_wish ct_is_wish), sl_is_wish⟩)
    (c_is_wish : PySem.W.codeIn K cd_is_wish "is_wish" = true)
    (k_is_wish : PySem.W.keepIn K (.ref f_is_wish) = true)
    (a_later_places : PySem.W.nsIn K mainGlobals "later_places" = some (some (.ref f_later_places)))
    (l_later_places : K.lookup f_later_places = some ⟨oc_later_places, od_later_places, .func (PySem.W.fnOf "later_places" "later_places" (defArgs st_later_places) (defBody st_later_places) (defScope st_later_places) .none kV_later_places dc_later_places pm_later_places an_later_places cd_later_places ct_later_places), sl_later_places⟩)
    (c_later_places : PySem.W.codeIn K cd_later_places "later_places" = true)
    (k_later_places : PySem.W.keepIn K (.ref f_later_places) = true)
    (a_find_taker : PySem.W.nsIn K mainGlobals "find_taker" = some (some (.ref f_find_taker)))
    (l_find_taker : K.lookup f_find_taker = some ⟨oc_find_taker, od_find_taker, .func (PySem.W.fnOf "find_taker" "find_taker" (defArgs st_find_taker) (defBody st_find_taker) (defScope st_find_taker) .none kV_find_taker dc_find_taker pm_find_taker an_find_taker cd_find_taker ct_find_taker), sl_find_taker⟩)
    (c_find_taker : PySem.W.codeIn K cd_find_taker "find_taker" = true)
    (k_find_taker : PySem.W.keepIn K (.ref f_find_taker) = true)
    (a_takersZ : PySem.W.nsIn K mainGlobals "takers" = some (some (.ref f_takersZ)))
    (l_takersZ : K.lookup f_takersZ = some ⟨oc_takersZ, od_takersZ, .func (PySem.W.fnOf "takers" "takers" (defArgs st_takersZ) (defBody st_takersZ) (defScope st_takersZ) .none kV_takersZ dc_takersZ pm_takersZ an_takersZ cd_takersZ ct_takersZ), sl_takersZ⟩)
    (c_takersZ : PySem.W.codeIn K cd_takersZ "takers" = true)
    (k_takersZ : PySem.W.keepIn K (.ref f_takersZ) = true)
    (a_lacks : PySem.W.nsIn K mainGlobals "lacks" = some (some (.ref f_lacks)))
    (l_lacks : K.lookup f_lacks = some ⟨oc_lacks, od_lacks, .func (PySem.W.fnOf "lacks" "lacks" (defArgs st_lacks) (defBody st_lacks) (defScope st_lacks) .none kV_lacks dc_lacks pm_lacks an_lacks cd_lacks ct_lacks), sl_lacks⟩)
    (c_lacks : PySem.W.codeIn K cd_lacks "lacks" = true)
    (k_lacks : PySem.W.keepIn K (.ref f_lacks) = true)
    (a_heights_of : PySem.W.nsIn K mainGlobals "heights_of" = some (some (.ref f_heights_of)))
    (l_heights_of : K.lookup f_heights_of = some ⟨oc_heights_of, od_heights_of, .func (PySem.W.fnOf "heights_of" "heights_of" (defArgs st_heights_of) (defBody st_heights_of) (defScope st_heights_of) .none kV_heights_of dc_heights_of pm_heights_of an_heights_of cd_heights_of ct_heights_of), sl_heights_of⟩)
    (c_heights_of : PySem.W.codeIn K cd_heights_of "heights_of" = true)
    (k_heights_of : PySem.W.keepIn K (.ref f_heights_of) = true)
    (a_need_of : PySem.W.nsIn K mainGlobals "need_of" = some (some (.ref f_need_of)))
    (l_need_of : K.lookup f_need_of = some ⟨oc_need_of, od_need_of, .func (PySem.W.fnOf "need_of" "need_of" (defArgs st_need_of) (defBody st_need_of) (defScope st_need_of) .none kV_need_of dc_need_of pm_need_of an_need_of cd_need_of ct_need_of), sl_need_of⟩)
    (c_need_of : PySem.W.codeIn K cd_need_of "need_of" = true)
    (k_need_of : PySem.W.keepIn K (.ref f_need_of) = true)
    (a_is_integer : PySem.W.nsIn K mainGlobals "is_integer" = some (some (.ref f_is_integer)))
    (l_is_integer : K.lookup f_is_integer = some ⟨oc_is_integer, od_is_integer, .func (PySem.W.fnOf "is_integer" "is_integer" (defArgs st_is_integer) (defBody st_is_integer) (defScope st_is_integer) .none kV_is_integer dc_is_integer pm_is_integer an_is_integer cd_is_integer ct_is_integer), sl_is_integer⟩)
    (c_is_integer : PySem.W.codeIn K cd_is_integer "is_integer" = true)
    (k_is_integer : PySem.W.keepIn K (.ref f_is_integer) = true)
    (a_check_place : PySem.W.nsIn K mainGlobals "check_place" = some (some (.ref f_check_place)))
    (l_check_place : K.lookup f_check_place = some ⟨oc_check_place, od_check_place, .func (PySem.W.fnOf "check_place" "check_place" (defArgs st_check_place) (defBody st_check_place) (defScope st_check_place) .none kV_check_place dc_check_place pm_check_place an_check_place cd_check_place ct_check_place), sl_check_place⟩)
    (c_check_place : PySem.W.codeIn K cd_check_place "check_place" = true)
    (k_check_place : PySem.W.keepIn K (.ref f_check_place) = true)
    (a_turned : PySem.W.nsIn K mainGlobals "turned" = some (some (.ref f_turned)))
    (l_turned : K.lookup f_turned = some ⟨oc_turned, od_turned, .func (PySem.W.fnOf "turned" "turned" (defArgs st_turned) (defBody st_turned) (defScope st_turned) .none kV_turned dc_turned pm_turned an_turned cd_turned ct_turned), sl_turned⟩)
    (c_turned : PySem.W.codeIn K cd_turned "turned" = true)
    (k_turned : PySem.W.keepIn K (.ref f_turned) = true)
    (a_need : PySem.W.nsIn K mainGlobals "need" = some (some (.ref f_need)))
    (l_need : K.lookup f_need = some ⟨oc_need, od_need, .func (PySem.W.fnOf "need" "need" (defArgs st_need) (defBody st_need) (defScope st_need) .none kV_need dc_need pm_need an_need cd_need ct_need), sl_need⟩)
    (c_need : PySem.W.codeIn K cd_need "need" = true)
    (k_need : PySem.W.keepIn K (.ref f_need) = true)
    (a_values_of : PySem.W.nsIn K mainGlobals "values_of" = some (some (.ref f_values_of)))
    (l_values_of : K.lookup f_values_of = some ⟨oc_values_of, od_values_of, .func (PySem.W.fnOf "values_of" "values_of" (defArgs st_values_of) (defBody st_values_of) (defScope st_values_of) .none kV_values_of dc_values_of pm_values_of an_values_of cd_values_of ct_values_of), sl_values_of⟩)
    (c_values_of : PySem.W.codeIn K cd_values_of "values_of" = true)
    (k_values_of : PySem.W.keepIn K (.ref f_values_of) = true)
    (a_select : PySem.W.nsIn K mainGlobals "select" = some (some (.ref f_select)))
    (l_select : K.lookup f_select = some ⟨oc_select, od_select, .func (PySem.W.fnOf "select" "select" (defArgs st_select) (defBody st_select) (defScope st_select) .none kV_select dc_select pm_select an_select cd_select ct_select), sl_select⟩)
    (c_select : PySem.W.codeIn K cd_select "select" = true)
    (k_select : PySem.W.keepIn K (.ref f_select) = true)
    (a__law_selected : PySem.W.nsIn K mainGlobals "_law_selected" = some (some (.ref f__law_selected)))
    (l__law_selected : K.lookup f__law_selected = some ⟨oc__law_selected, od__law_selected, .func (PySem.W.fnOf "_law_selected" "_law_selected" (defArgs st__law_selected) (defBody st__law_selected) (defScope st__law_selected) .none kV__law_selected dc__law_selected pm__law_selected an__law_selected cd__law_selected ct__law_selected), sl__law_selected⟩)
    (c__law_selected : PySem.W.codeIn K cd__law_selected "_law_selected" = true)
    (k__law_selected : PySem.W.keepIn K (.ref f__law_selected) = true)
    (a_law : PySem.W.nsIn K mainGlobals "law" = some (some (.ref f_law)))
    (l_law : K.lookup f_law = some ⟨oc_law, od_law, .func (PySem.W.fnOf "law" "law" (defArgs st_law) (defBody st_law) (defScope st_law) .none kV_law dc_law pm_law an_law cd_law ct_law), sl_law⟩)
    (c_law : PySem.W.codeIn K cd_law "law" = true)
    (k_law : PySem.W.keepIn K (.ref f_law) = true)
    (a_PROPERTIES : PySem.W.nsIn K mainGlobals "PROPERTIES" = some (some (.ref q_PROPERTIES)))
    (l_PROPERTIES : K.lookup q_PROPERTIES = some ⟨.type "tuple", dd_PROPERTIES, .seq #[.str "arity" tk0_PROPERTIES, .str "beginning" tk1_PROPERTIES, .str "free" tk2_PROPERTIES, .str "lacking" tk3_PROPERTIES] nn_PROPERTIES, ss_PROPERTIES⟩)
    (ca_NoProperty : PySem.W.nsIn K mainGlobals "NoProperty" = some (some (.ref C_NoProperty)))
    (ck_NoProperty : PySem.W.keepIn K (.ref C_NoProperty) = true)
    (ce_NoProperty : PySem.W.subIn K (.ref C_NoProperty) (.type "BaseException") = some true)
    (ct_NoProperty : PySem.W.typeIn K (.ref C_NoProperty) = some (.type "type"))
    (cl_NoProperty : K.lookup C_NoProperty = some (excClassObj nm_NoProperty q_NoProperty C_NoProperty N_NoProperty bs_NoProperty bm_NoProperty true sn_NoProperty sub_NoProperty ab_NoProperty col_NoProperty dd_NoProperty k0_NoProperty k1_NoProperty k2_NoProperty k3_NoProperty k5_NoProperty "ValueError.__new__"))
    (cs_NoProperty : PySem.W.findIn K (.ref C_NoProperty) "__setattr__" = some (some (.builtin "object.__setattr__")))
    (cn_NoProperty : PySem.W.findIn K (.ref C_NoProperty) "name" = some none)
    (ci_NoProperty : PySem.W.findIn K (.ref C_NoProperty) "__init__" = some (some (.ref I_NoProperty)))
    (cf_NoProperty : PySem.W.typeIn K (.ref I_NoProperty) = some (.type "function"))
    (cg_NoProperty : K.lookup I_NoProperty = some ⟨io_NoProperty, iq_NoProperty, .func (PySem.W.fnOf "__init__" "NoProperty.__init__" (iA "name" p1_NoProperty p2_NoProperty) (iB "name" q1_NoProperty q2_NoProperty q3_NoProperty q4_NoProperty) (iS "name") .none .none id_NoProperty ip_NoProperty ia_NoProperty ic_NoProperty it_NoProperty), is_NoProperty⟩)
    (cc_NoProperty : PySem.W.codeIn K ic_NoProperty "NoProperty.__init__" = true)
    (cm_NoProperty : PySem.W.excTail [.type "ValueError", .type "Exception", .type "BaseException", .type "object"] bm_NoProperty = true)
    (ca_BadWish : PySem.W.nsIn K mainGlobals "BadWish" = some (some (.ref C_BadWish)))
    (ck_BadWish : PySem.W.keepIn K (.ref C_BadWish) = true)
    (ce_BadWish : PySem.W.subIn K (.ref C_BadWish) (.type "BaseException") = some true)
    (ct_BadWish : PySem.W.typeIn K (.ref C_BadWish) = some (.type "type"))
    (cl_BadWish : K.lookup C_BadWish = some (excClassObj nm_BadWish q_BadWish C_BadWish N_BadWish bs_BadWish bm_BadWish true sn_BadWish sub_BadWish ab_BadWish col_BadWish dd_BadWish k0_BadWish k1_BadWish k2_BadWish k3_BadWish k5_BadWish "ValueError.__new__"))
    (cs_BadWish : PySem.W.findIn K (.ref C_BadWish) "__setattr__" = some (some (.builtin "object.__setattr__")))
    (cn_BadWish : PySem.W.findIn K (.ref C_BadWish) "value" = some none)
    (ci_BadWish : PySem.W.findIn K (.ref C_BadWish) "__init__" = some (some (.ref I_BadWish)))
    (cf_BadWish : PySem.W.typeIn K (.ref I_BadWish) = some (.type "function"))
    (cg_BadWish : K.lookup I_BadWish = some ⟨io_BadWish, iq_BadWish, .func (PySem.W.fnOf "__init__" "BadWish.__init__" (iA "value" p1_BadWish p2_BadWish) (iB "value" q1_BadWish q2_BadWish q3_BadWish q4_BadWish) (iS "value") .none .none id_BadWish ip_BadWish ia_BadWish ic_BadWish it_BadWish), is_BadWish⟩)
    (cc_BadWish : PySem.W.codeIn K ic_BadWish "BadWish.__init__" = true)
    (cm_BadWish : PySem.W.excTail [.type "ValueError", .type "Exception", .type "BaseException", .type "object"] bm_BadWish = true)
    (ca_NoPlace : PySem.W.nsIn K mainGlobals "NoPlace" = some (some (.ref C_NoPlace)))
    (ck_NoPlace : PySem.W.keepIn K (.ref C_NoPlace) = true)
    (ce_NoPlace : PySem.W.subIn K (.ref C_NoPlace) (.type "BaseException") = some true)
    (ct_NoPlace : PySem.W.typeIn K (.ref C_NoPlace) = some (.type "type"))
    (cl_NoPlace : K.lookup C_NoPlace = some (excClassObj nm_NoPlace q_NoPlace C_NoPlace N_NoPlace bs_NoPlace bm_NoPlace true sn_NoPlace sub_NoPlace ab_NoPlace col_NoPlace dd_NoPlace k0_NoPlace k1_NoPlace k2_NoPlace k3_NoPlace k5_NoPlace "LookupError.__new__"))
    (cs_NoPlace : PySem.W.findIn K (.ref C_NoPlace) "__setattr__" = some (some (.builtin "object.__setattr__")))
    (cn_NoPlace : PySem.W.findIn K (.ref C_NoPlace) "value" = some none)
    (ci_NoPlace : PySem.W.findIn K (.ref C_NoPlace) "__init__" = some (some (.ref I_NoPlace)))
    (cf_NoPlace : PySem.W.typeIn K (.ref I_NoPlace) = some (.type "function"))
    (cg_NoPlace : K.lookup I_NoPlace = some ⟨io_NoPlace, iq_NoPlace, .func (PySem.W.fnOf "__init__" "NoPlace.__init__" (iA "value" p1_NoPlace p2_NoPlace) (iB "value" q1_NoPlace q2_NoPlace q3_NoPlace q4_NoPlace) (iS "value") .none .none id_NoPlace ip_NoPlace ia_NoPlace ic_NoPlace it_NoPlace), is_NoPlace⟩)
    (cc_NoPlace : PySem.W.codeIn K ic_NoPlace "NoPlace.__init__" = true)
    (cm_NoPlace : PySem.W.excTail [.type "LookupError", .type "Exception", .type "BaseException", .type "object"] bm_NoPlace = true)
    (z_range : PySem.W.nsIn K mainGlobals "range" = some none)
    (z_repr : PySem.W.nsIn K mainGlobals "repr" = some none)
    (z_enumerate : PySem.W.nsIn K mainGlobals "enumerate" = some none)
    (z_abs : PySem.W.nsIn K mainGlobals "abs" = some none)
    (z_len : PySem.W.nsIn K mainGlobals "len" = some none)
    (z_sum : PySem.W.nsIn K mainGlobals "sum" = some none)
    (z_tuple : PySem.W.nsIn K mainGlobals "tuple" = some none)
    (z_list : PySem.W.nsIn K mainGlobals "list" = some none)
    (z_int : PySem.W.nsIn K mainGlobals "int" = some none)
    (z_isinstance : PySem.W.nsIn K mainGlobals "isinstance" = some none)
    (z_bool : PySem.W.nsIn K mainGlobals "bool" = some none)
    (z_min : PySem.W.nsIn K mainGlobals "min" = some none)
    (hl : LawOk F_law) : ∃ F : Fn, LawOk F ∧ ∀ base : Heap, K.In base → base.Ns mainGlobals mg → (∃ o, base.get? sysModules = some o) → FnD true l.prog w K mg base 9 fa F := by
  have e := hfa.symm.trans (PySem.W.mg_of X G a_law)
  cases e
  have T : Tx K mg f__law_stream f__law_draw f__law_pick f__law_ring f__law_missing f__law_from f__law_begins f__law_links f__law_due f_is_wish f_later_places f_find_taker f_takersZ f_lacks f_heights_of f_need_of f_is_integer f_check_place f_turned f_need f_values_of f_select f__law_selected fa := ⟨PySem.W.mg_of X G a__law_stream, k__law_stream, PySem.W.mg_of X G a__law_draw, k__law_draw, PySem.W.mg_of X G a__law_pick, k__law_pick, PySem.W.mg_of X G a__law_ring, k__law_ring, PySem.W.mg_of X G a__law_missing, k__law_missing, PySem.W.mg_of X G a__law_from, k__law_from, PySem.W.mg_of X G a__law_begins, k__law_begins, PySem.W.mg_of X G a__law_links, k__law_links, PySem.W.mg_of X G a__law_due, k__law_due, PySem.W.mg_of X G a_is_wish, k_is_wish, PySem.W.mg_of X G a_later_places, k_later_places, PySem.W.mg_of X G a_find_taker, k_find_taker, PySem.W.mg_of X G a_takersZ, k_takersZ, PySem.W.mg_of X G a_lacks, k_lacks, PySem.W.mg_of X G a_heights_of, k_heights_of, PySem.W.mg_of X G a_need_of, k_need_of, PySem.W.mg_of X G a_is_integer, k_is_integer, PySem.W.mg_of X G a_check_place, k_check_place, PySem.W.mg_of X G a_turned, k_turned, PySem.W.mg_of X G a_need, k_need, PySem.W.mg_of X G a_values_of, k_values_of, PySem.W.mg_of X G a_select, k_select, PySem.W.mg_of X G a__law_selected, k__law_selected, PySem.W.mg_none_of X G z_range, PySem.W.mg_none_of X G z_repr, PySem.W.mg_none_of X G z_enumerate, PySem.W.mg_none_of X G z_abs, PySem.W.mg_none_of X G z_len, PySem.W.mg_none_of X G z_sum, PySem.W.mg_none_of X G z_tuple, PySem.W.mg_none_of X G z_list, PySem.W.mg_none_of X G z_int, PySem.W.mg_none_of X G z_isinstance, PySem.W.mg_none_of X G z_bool, PySem.W.mg_none_of X G z_min⟩
  have mg_PROPERTIES := PySem.W.mg_of X G a_PROPERTIES
  have kr_PROPERTIES : KRep K (.ref q_PROPERTIES) d_PROPERTIES := ⟨.ref q_PROPERTIES, rfl, fun ι H => by unfold d_PROPERTIES; rw [RepV]; exact ⟨q_PROPERTIES, [V.str "arity", V.str "beginning", V.str "free", V.str "lacking"], rfl, .inr (.inr ⟨_, _, _, l_PROPERTIES, rfl, rfl, by show 4 ≤ sizeLine; decide, (.cons ⟨_, rfl⟩ (.cons ⟨_, rfl⟩ (.cons ⟨_, rfl⟩ (.cons ⟨_, rfl⟩ .nil))))⟩), (RepL.cons str_rep (RepL.cons str_rep (RepL.cons str_rep (RepL.cons str_rep RepL.nil))))⟩⟩
  have T0_NoProperty : XCls K "NoProperty" C_NoProperty := ⟨ca_NoProperty, ck_NoProperty, ce_NoProperty, ct_NoProperty⟩
  have mc_NoProperty := PySem.W.mg_of X G ca_NoProperty
  have TI_NoProperty : XInit K C_NoProperty I_NoProperty "NoProperty.__init__" "name" := ⟨⟨_, _, _, _, _, _, _, _, _, _, _, _, _, _, _, _, _, xb_VE, cl_NoProperty, cm_NoProperty⟩, cs_NoProperty, cn_NoProperty, ci_NoProperty, cf_NoProperty, ⟨_, _, _, _, _, _, _, _, _, _, _, _, _, _, cg_NoProperty, cc_NoProperty⟩, fun _ _ _ _ _ _ _ _ _ _ _ _ _ => rfl, by decide, by decide⟩
  have T0_BadWish : XCls K "BadWish" C_BadWish := ⟨ca_BadWish, ck_BadWish, ce_BadWish, ct_BadWish⟩
  have mc_BadWish := PySem.W.mg_of X G ca_BadWish
  have TI_BadWish : XInit K C_BadWish I_BadWish "BadWish.__init__" "value" := ⟨⟨_, _, _, _, _, _, _, _, _, _, _, _, _, _, _, _, _, xb_VE, cl_BadWish, cm_BadWish⟩, cs_BadWish, cn_BadWish, ci_BadWish, cf_BadWish, ⟨_, _, _, _, _, _, _, _, _, _, _, _, _, _, cg_BadWish, cc_BadWish⟩, fun _ _ _ _ _ _ _ _ _ _ _ _ _ => rfl, by decide, by decide⟩
  have T0_NoPlace : XCls K "NoPlace" C_NoPlace := ⟨ca_NoPlace, ck_NoPlace, ce_NoPlace, ct_NoPlace⟩
  have mc_NoPlace := PySem.W.mg_of X G ca_NoPlace
  have TI_NoPlace : XInit K C_NoPlace I_NoPlace "NoPlace.__init__" "value" := ⟨⟨_, _, _, _, _, _, _, _, _, _, _, _, _, _, _, _, _, xb_LE, cl_NoPlace, cm_NoPlace⟩, cs_NoPlace, cn_NoPlace, ci_NoPlace, cf_NoPlace, ⟨_, _, _, _, _, _, _, _, _, _, _, _, _, _, cg_NoPlace, cc_NoPlace⟩, fun _ _ _ _ _ _ _ _ _ _ _ _ _ => rfl, by decide, by decide⟩
  refine ⟨F_law, hl, fun base _ _ hsys => ?_⟩
  have G__law_stream : FnD true l.prog w K mg base 1 f__law_stream F__law_stream := fn__law_stream T (fun_mk (st := st__law_stream) l__law_stream c__law_stream k__law_stream) 
  have G__law_draw : FnD true l.prog w K mg base 1 f__law_draw F__law_draw := fn__law_draw T (fun_mk (st := st__law_draw) l__law_draw c__law_draw k__law_draw) 
  have G__law_pick : FnD true l.prog w K mg base 2 f__law_pick F__law_pick := fn__law_pick T (fun_mk (st := st__law_pick) l__law_pick c__law_pick k__law_pick) G__law_draw
  have G__law_ring : FnD true l.prog w K mg base 3 f__law_ring F__law_ring := fn__law_ring T (fun_mk (st := st__law_ring) l__law_ring c__law_ring k__law_ring) G__law_draw G__law_pick
  have G__law_missing : FnD true l.prog w K mg base 1 f__law_missing F__law_missing := fn__law_missing T (fun_mk (st := st__law_missing) l__law_missing c__law_missing k__law_missing) 
  have G__law_from : FnD true l.prog w K mg base 1 f__law_from F__law_from := fn__law_from T (fun_mk (st := st__law_from) l__law_from c__law_from k__law_from) 
  have G__law_begins : FnD true l.prog w K mg base 2 f__law_begins F__law_begins := fn__law_begins T (fun_mk (st := st__law_begins) l__law_begins c__law_begins k__law_begins) G__law_missing G__law_from
  have G__law_links : FnD true l.prog w K mg base 1 f__law_links F__law_links := fn__law_links T (fun_mk (st := st__law_links) l__law_links c__law_links k__law_links) 
  have G__law_due : FnD true l.prog w K mg base 1 f__law_due F__law_due := fn__law_due T (fun_mk (st := st__law_due) l__law_due c__law_due k__law_due) 
  have G_is_wish : FnD false l.prog w K mg base 1 f_is_wish F_is_wish := fn_is_wish T (fun_mk (st := st_is_wish) l_is_wish c_is_wish k_is_wish) 
  have G_later_places : GnD l.prog w K mg base 0 f_later_places G_later_places := fn_later_places T (fun_mk (st := st_later_places) l_later_places c_later_places k_later_places) 
  have G_find_taker : FnD false l.prog w K mg base 3 f_find_taker F_find_taker := fn_find_taker T (fun_mk (st := st_find_taker) l_find_taker c_find_taker k_find_taker) G_later_places
  have G_takersZ : FnD false l.prog w K mg base 4 f_takersZ F_takersZ := fn_takersZ T (fun_mk (st := st_takersZ) l_takersZ c_takersZ k_takersZ) G_find_taker
  have G_lacks : FnD false l.prog w K mg base 5 f_lacks F_lacks := fn_lacks T (fun_mk (st := st_lacks) l_lacks c_lacks k_lacks) G_takersZ
  have G_heights_of : FnD false l.prog w K mg base 1 f_heights_of F_heights_of := fn_heights_of T (fun_mk (st := st_heights_of) l_heights_of c_heights_of k_heights_of) 
  have G_need_of : FnD false l.prog w K mg base 2 f_need_of F_need_of := fn_need_of T (fun_mk (st := st_need_of) l_need_of c_need_of k_need_of) G_heights_of
  have G_is_integer : FnD false l.prog w K mg base 1 f_is_integer F_is_integer := fn_is_integer T (fun_mk (st := st_is_integer) l_is_integer c_is_integer k_is_integer) 
  have G_check_place : FnD false l.prog w K mg base 2 f_check_place F_check_place := fn_check_place T (fun_mk (st := st_check_place) l_check_place c_check_place k_check_place) G_is_integer T0_NoPlace mc_NoPlace TI_NoPlace
  have G_turned : FnD false l.prog w K mg base 3 f_turned F_turned := fn_turned T (fun_mk (st := st_turned) l_turned c_turned k_turned) G_check_place
  have G_need : FnD false l.prog w K mg base 4 f_need F_need := fn_need T (fun_mk (st := st_need) l_need c_need k_need) G_need_of G_turned
  have G_values_of : FnD false l.prog w K mg base 6 f_values_of F_values_of := fn_values_of T (fun_mk (st := st_values_of) l_values_of c_values_of k_values_of) G_lacks G_find_taker G_need
  have G_select_k : FnD false l.prog w K mg base 7 f_select (F_select []) := fnD_ofK (fn_select T (fun_mk (st := st_select) l_select c_select k_select) G_is_wish G_values_of T0_NoProperty mc_NoProperty T0_BadWish mc_BadWish TI_NoProperty TI_BadWish mg_PROPERTIES kr_PROPERTIES [] (by decide) (by decide) (fun _ _ _ _ _ _ _ ws hl => match ws, hl with | [], _ => rfl))
  have G_select_karity : FnK false l.prog w K mg base 7 f_select ["arity"] (F_select ["arity"]) := fn_select T (fun_mk (st := st_select) l_select c_select k_select) G_is_wish G_values_of T0_NoProperty mc_NoProperty T0_BadWish mc_BadWish TI_NoProperty TI_BadWish mg_PROPERTIES kr_PROPERTIES ["arity"] (by decide) (by decide) (fun _ _ _ _ _ _ _ ws hl => match ws, hl with | [_], _ => rfl)
  have G_select_karity_beginning_free_lacking : FnK false l.prog w K mg base 7 f_select ["arity", "beginning", "free", "lacking"] (F_select ["arity", "beginning", "free", "lacking"]) := fn_select T (fun_mk (st := st_select) l_select c_select k_select) G_is_wish G_values_of T0_NoProperty mc_NoProperty T0_BadWish mc_BadWish TI_NoProperty TI_BadWish mg_PROPERTIES kr_PROPERTIES ["arity", "beginning", "free", "lacking"] (by decide) (by decide) (fun _ _ _ _ _ _ _ ws hl => match ws, hl with | [_, _, _, _], _ => rfl)
  have G_select_kbeginning : FnK false l.prog w K mg base 7 f_select ["beginning"] (F_select ["beginning"]) := fn_select T (fun_mk (st := st_select) l_select c_select k_select) G_is_wish G_values_of T0_NoProperty mc_NoProperty T0_BadWish mc_BadWish TI_NoProperty TI_BadWish mg_PROPERTIES kr_PROPERTIES ["beginning"] (by decide) (by decide) (fun _ _ _ _ _ _ _ ws hl => match ws, hl with | [_], _ => rfl)
  have G_select_kbeginning_lacking : FnK false l.prog w K mg base 7 f_select ["beginning", "lacking"] (F_select ["beginning", "lacking"]) := fn_select T (fun_mk (st := st_select) l_select c_select k_select) G_is_wish G_values_of T0_NoProperty mc_NoProperty T0_BadWish mc_BadWish TI_NoProperty TI_BadWish mg_PROPERTIES kr_PROPERTIES ["beginning", "lacking"] (by decide) (by decide) (fun _ _ _ _ _ _ _ ws hl => match ws, hl with | [_, _], _ => rfl)
  have G_select_kfree : FnK false l.prog w K mg base 7 f_select ["free"] (F_select ["free"]) := fn_select T (fun_mk (st := st_select) l_select c_select k_select) G_is_wish G_values_of T0_NoProperty mc_NoProperty T0_BadWish mc_BadWish TI_NoProperty TI_BadWish mg_PROPERTIES kr_PROPERTIES ["free"] (by decide) (by decide) (fun _ _ _ _ _ _ _ ws hl => match ws, hl with | [_], _ => rfl)
  have G_select_kfree_arity : FnK false l.prog w K mg base 7 f_select ["free", "arity"] (F_select ["free", "arity"]) := fn_select T (fun_mk (st := st_select) l_select c_select k_select) G_is_wish G_values_of T0_NoProperty mc_NoProperty T0_BadWish mc_BadWish TI_NoProperty TI_BadWish mg_PROPERTIES kr_PROPERTIES ["free", "arity"] (by decide) (by decide) (fun _ _ _ _ _ _ _ ws hl => match ws, hl with | [_, _], _ => rfl)
  have G_select_klacking : FnK false l.prog w K mg base 7 f_select ["lacking"] (F_select ["lacking"]) := fn_select T (fun_mk (st := st_select) l_select c_select k_select) G_is_wish G_values_of T0_NoProperty mc_NoProperty T0_BadWish mc_BadWish TI_NoProperty TI_BadWish mg_PROPERTIES kr_PROPERTIES ["lacking"] (by decide) (by decide) (fun _ _ _ _ _ _ _ ws hl => match ws, hl with | [_], _ => rfl)
  have G_select_klacking_arity_beginning : FnK false l.prog w K mg base 7 f_select ["lacking", "arity", "beginning"] (F_select ["lacking", "arity", "beginning"]) := fn_select T (fun_mk (st := st_select) l_select c_select k_select) G_is_wish G_values_of T0_NoProperty mc_NoProperty T0_BadWish mc_BadWish TI_NoProperty TI_BadWish mg_PROPERTIES kr_PROPERTIES ["lacking", "arity", "beginning"] (by decide) (by decide) (fun _ _ _ _ _ _ _ ws hl => match ws, hl with | [_, _, _], _ => rfl)
  have G__law_selected : FnD true l.prog w K mg base 8 f__law_selected F__law_selected := fn__law_selected T (fun_mk (st := st__law_selected) l__law_selected c__law_selected k__law_selected) G_select_k G_select_karity G_select_kbeginning G_select_kfree G_select_klacking G_select_kfree_arity G_select_kbeginning_lacking G_select_klacking_arity_beginning G_select_karity_beginning_free_lacking
  have G_law : FnD true l.prog w K mg base 9 fa F_law := fn_law T (fun_mk (st := st_law) l_law c_law k_law) G__law_stream G__law_ring G__law_begins G__law_links G__law_pick G__law_draw G__law_due G__law_selected hsys
  exact G_law
end TX
open PySem PySem.W PyProof.Rows
set_option maxRecDepth 100000 in
set_option maxHeartbeats 0 in
theorem PySem.Challenge.cw_ringpostfix_k43_places_selected_holds : PySem.Challenge.rw_ringpostfix_k43_places_selected.Holds := by
  w_on; o_law; k_head; (case hw => w_witness2)
  k_fill
  refine DL.law_walk (k := 9) (l := PySem.Challenge.rw_ringpostfix_k43_places_selected) rfl rfl ⟨rfl, by decide, by decide⟩ (by decide +kernel) (fun w h Y => PySem.W.kIn_of Y) ?F
  case F =>
    intro w mg fa h KX G hmg
    refine' TX.all_mk KX G hmg ?a__law_stream ?l__law_stream ?c__law_stream ?k__law_stream ?a__law_draw ?l__law_draw ?c__law_draw ?k__law_draw ?a__law_pick ?l__law_pick ?c__law_pick ?k__law_pick ?a__law_ring ?l__law_ring ?c__law_ring ?k__law_ring ?a__law_missing ?l__law_missing ?c__law_missing ?k__law_missing ?a__law_from ?l__law_from ?c__law_from ?k__law_from ?a__law_begins ?l__law_begins ?c__law_begins ?k__law_begins ?a__law_links ?l__law_links ?c__law_links ?k__law_links ?a__law_due ?l__law_due ?c__law_due ?k__law_due ?a_is_wish ?l_is_wish ?c_is_wish ?k_is_wish ?a_later_places ?l_later_places ?c_later_places ?k_later_places ?a_find_taker ?l_find_taker ?c_find_taker ?k_find_taker ?a_takersZ ?l_takersZ ?c_takersZ ?k_takersZ ?a_lacks ?l_lacks ?c_lacks ?k_lacks ?a_heights_of ?l_heights_of ?c_heights_of ?k_heights_of ?a_need_of ?l_need_of ?c_need_of ?k_need_of ?a_is_integer ?l_is_integer ?c_is_integer ?k_is_integer ?a_check_place ?l_check_place ?c_check_place ?k_check_place ?a_turned ?l_turned ?c_turned ?k_turned ?a_need ?l_need ?c_need ?k_need ?a_values_of ?l_values_of ?c_values_of ?k_values_of ?a_select ?l_select ?c_select ?k_select ?a__law_selected ?l__law_selected ?c__law_selected ?k__law_selected ?a_law ?l_law ?c_law ?k_law ?a_PROPERTIES ?l_PROPERTIES ?ca_NoProperty ?ck_NoProperty ?ce_NoProperty ?ct_NoProperty ?cl_NoProperty ?cs_NoProperty ?cn_NoProperty ?ci_NoProperty ?cf_NoProperty ?cg_NoProperty ?cc_NoProperty ?cm_NoProperty ?ca_BadWish ?ck_BadWish ?ce_BadWish ?ct_BadWish ?cl_BadWish ?cs_BadWish ?cn_BadWish ?ci_BadWish ?cf_BadWish ?cg_BadWish ?cc_BadWish ?cm_BadWish ?ca_NoPlace ?ck_NoPlace ?ce_NoPlace ?ct_NoPlace ?cl_NoPlace ?cs_NoPlace ?cn_NoPlace ?ci_NoPlace ?cf_NoPlace ?cg_NoPlace ?cc_NoPlace ?cm_NoPlace ?z_range ?z_repr ?z_enumerate ?z_abs ?z_len ?z_sum ?z_tuple ?z_list ?z_int ?z_isinstance ?z_bool ?z_min TX.law_ok
    (case a__law_stream => k_is)
    (case l__law_stream => k_is)
    (case c__law_stream => k_is)
    (case k__law_stream => k_is)
    (case a__law_draw => k_is)
    (case l__law_draw => k_is)
    (case c__law_draw => k_is)
    (case k__law_draw => k_is)
    (case a__law_pick => k_is)
    (case l__law_pick => k_is)
    (case c__law_pick => k_is)
    (case k__law_pick => k_is)
    (case a__law_ring => k_is)
    (case l__law_ring => k_is)
    (case c__law_ring => k_is)
    (case k__law_ring => k_is)
    (case a__law_missing => k_is)
    (case l__law_missing => k_is)
    (case c__law_missing => k_is)
    (case k__law_missing => k_is)
    (case a__law_from => k_is)
    (case l__law_from => k_is)
    (case c__law_from => k_is)
    (case k__law_from => k_is)
    (case a__law_begins => k_is)
    (case l__law_begins => k_is)
    (case c__law_begins => k_is)
    (case k__law_begins => k_is)
    (case a__law_links => k_is)
    (case l__law_links => k_is)
    (case c__law_links => k_is)
    (case k__law_links => k_is)
    (case a__law_due => k_is)
    (case l__law_due => k_is)
    (case c__law_due => k_is)
    (case k__law_due => k_is)
    (case a_is_wish => k_is)
    (case l_is_wish => k_is)
    (case c_is_wish => k_is)
    (case k_is_wish => k_is)
    (case a_later_places => k_is)
    (case l_later_places => k_is)
    (case c_later_places => k_is)
    (case k_later_places => k_is)
    (case a_find_taker => k_is)
    (case l_find_taker => k_is)
    (case c_find_taker => k_is)
    (case k_find_taker => k_is)
    (case a_takersZ => k_is)
    (case l_takersZ => k_is)
    (case c_takersZ => k_is)
    (case k_takersZ => k_is)
    (case a_lacks => k_is)
    (case l_lacks => k_is)
    (case c_lacks => k_is)
    (case k_lacks => k_is)
    (case a_heights_of => k_is)
    (case l_heights_of => k_is)
    (case c_heights_of => k_is)
    (case k_heights_of => k_is)
    (case a_need_of => k_is)
    (case l_need_of => k_is)
    (case c_need_of => k_is)
    (case k_need_of => k_is)
    (case a_is_integer => k_is)
    (case l_is_integer => k_is)
    (case c_is_integer => k_is)
    (case k_is_integer => k_is)
    (case a_check_place => k_is)
    (case l_check_place => k_is)
    (case c_check_place => k_is)
    (case k_check_place => k_is)
    (case a_turned => k_is)
    (case l_turned => k_is)
    (case c_turned => k_is)
    (case k_turned => k_is)
    (case a_need => k_is)
    (case l_need => k_is)
    (case c_need => k_is)
    (case k_need => k_is)
    (case a_values_of => k_is)
    (case l_values_of => k_is)
    (case c_values_of => k_is)
    (case k_values_of => k_is)
    (case a_select => k_is)
    (case l_select => k_is)
    (case c_select => k_is)
    (case k_select => k_is)
    (case a__law_selected => k_is)
    (case l__law_selected => k_is)
    (case c__law_selected => k_is)
    (case k__law_selected => k_is)
    (case a_law => k_is)
    (case l_law => k_is)
    (case c_law => k_is)
    (case k_law => k_is)
    (case a_PROPERTIES => k_is)
    (case l_PROPERTIES => k_is)
    (case ca_NoProperty => k_is)
    (case ck_NoProperty => k_is)
    (case ce_NoProperty => k_is)
    (case ct_NoProperty => k_is)
    (case cl_NoProperty => k_is)
    (case cs_NoProperty => k_is)
    (case cn_NoProperty => k_is)
    (case ci_NoProperty => k_is)
    (case cf_NoProperty => k_is)
    (case cg_NoProperty => k_is)
    (case cc_NoProperty => k_is)
    (case cm_NoProperty => kernel_rfl)
    (case ca_BadWish => k_is)
    (case ck_BadWish => k_is)
    (case ce_BadWish => k_is)
    (case ct_BadWish => k_is)
    (case cl_BadWish => k_is)
    (case cs_BadWish => k_is)
    (case cn_BadWish => k_is)
    (case ci_BadWish => k_is)
    (case cf_BadWish => k_is)
    (case cg_BadWish => k_is)
    (case cc_BadWish => k_is)
    (case cm_BadWish => kernel_rfl)
    (case ca_NoPlace => k_is)
    (case ck_NoPlace => k_is)
    (case ce_NoPlace => k_is)
    (case ct_NoPlace => k_is)
    (case cl_NoPlace => k_is)
    (case cs_NoPlace => k_is)
    (case cn_NoPlace => k_is)
    (case ci_NoPlace => k_is)
    (case cf_NoPlace => k_is)
    (case cg_NoPlace => k_is)
    (case cc_NoPlace => k_is)
    (case cm_NoPlace => kernel_rfl)
    (case z_range => k_is)
    (case z_repr => k_is)
    (case z_enumerate => k_is)
    (case z_abs => k_is)
    (case z_len => k_is)
    (case z_sum => k_is)
    (case z_tuple => k_is)
    (case z_list => k_is)
    (case z_int => k_is)
    (case z_isinstance => k_is)
    (case z_bool => k_is)
    (case z_min => k_is)
