import PyProof.Rows.All
import Wide.All
import OpenK.AllK
import KE.OsRunLaw
import Wide.FinOn
import HandS.ForMost
import HandS.ForExc
import HandS.Star
import HandS.IsInst
import HandS.Flow
import HandS.Wide
import HandS.EndBits
import PyProof.ReprRoads
import HandS.TupAny
import HandS.TupMul
import HandS.Deep
import HandS.More
import HandS.Style
import KE.KTupSum
import PyProof.WalkInts
import HandS.SortInts
import HandS.Zip
import KE.KRevSl
import HandS.ExcCtx
import HandS.RaiseFrom
import KE.KExcInit
import KE.KExcIs
import HandS.ExcIs
import HandS.ExcField
import HandS.TryMany
import HandS.Small
import HandS.HotCalls
import HandS.Conv
import HandS.Iter
import KE.GoesEnum
import PyProof.NeKinds
import KE.DataFind
import KE.KEqDict
import HandS.NoneIn
import PyProof.Rows.IntBool
import HandS.ExcValue
import HandS.Text
import PyProof.StrBlock2
import PyProof.CallStr
import HandS.FStr
import HandS.GenList
import PyProof.RulesMatch
import PyProof.AutoSeq1
import HandS.Dict
import HandS.Property
import PyProof.RulesMatchSeq
import KE.KUnpackStar
import OpenK.KOps
import HandS.SlotsOwn
import KE.KFmtOwn
import HandS.ClsMeth
import OpenK.KMore
import HandS.Finally
import HandS.Defaults
import KE.KSuperObj
import KE.KParC
import HandS.SuiteRaise
import HandS.SetFor
import HandS.Strs
import HandS.TupSets
import KE.KDictDisplayH
import KE.KSuper
import HandS.RaiseMore
import HandS.TupLe
import HandS.Replace
import HandS.ReplaceList
import PyProof.Rows.ReprOcc
import PyProof.Rows.StrBin
import PySem.Challenge.RW_ringpostfix_k34_whole_same_terms_turned
set_option Elab.async false
set_option linter.all false
set_option maxRecDepth 100000
set_option maxHeartbeats 4000000
set_option maxHeartbeats 0
namespace HL
open PySem PySem.W PyProof.Rows PySem.Calls
section
local macro_rules | `(tactic| kernel_rfl) => `(tactic| exact False.elim (by assumption))
theorem K0 (c : False) : PySem.Challenge.rw_ringpostfix_k34_whole_same_terms_turned.Holds := by
  w_on; o_law; k_headL; (case hw => w_witness2)
  all_goals exact c.elim
end
def p0 : PySem.Params := { strHash := fun _ => 0, shareClass := fun _ => 0, mergeTok := id, idOf := fun _ => 0, idOfShared := fun _ _ => 0, followText := fun _ => false, idOfImm := fun _ => 0 }
noncomputable def as : List Addr := (K0.heap_39 p0).map fun x => x.1
end HL
namespace HL
open PySem PySem.W PyProof.Rows PySem.Calls
abbrev rr : RowW := OpenRow.toRowW (OpenLaw.row PySem.Challenge.rw_ringpostfix_k34_whole_same_terms_turned)
abbrev pp : Program := rr.prog
abbrev ls : List PySem.Str := []
def vw : Program := PySem.W.view pp [1, 2, 3, 5, 6, 7, 8, 9, 10, 12, 14, 16, 17, 19, 20, 21, 22, 24, 25, 26, 27, 28, 29, 30, 31]
noncomputable abbrev nd (w : World) (os : PySem.OsState) := HeadRun.endF (HeadRun.stepQ (HeadRun.denQ HeadRun.tabQ) pp w) 2852 pp w os
noncomputable abbrev snG (q : Program) (s : SharedT) := HeadRun.seenQ q ls (importedModules pp.main.body) (fun s => xlAt q [] s && recOk rr.records s) s.abs
noncomputable abbrev sn (s : SharedT) := snG vw s
noncomputable abbrev lk (w : World) (s : SharedT) := HeadRun.looksF pp (boot_heap w.params) s.abs
theorem partA : ∀ (w : World) (os : PySem.OsState), (nd w os).map (fun s => (lk w s, (HL.sn s).2.1)) = some ((true, bltViewBooted)) := by
  intro w os; kernel_rfl
theorem partB : ∀ (w : World) (os : PySem.OsState), (nd w os).map (fun s => (HL.sn s).1) = some (expectedOf HL.vw) := by
  intro w os; kernel_rfl
theorem partC : ∀ (w : World) (os : PySem.OsState), (nd w os).map (fun s => (HL.sn s).2.2.1) = some (true) := by
  intro w os; kernel_rfl
theorem partD : ∀ (w : World) (os : PySem.OsState), (nd w os).map (fun s => (HL.sn s).2.2.2.2.2.1) = some (plainGoodE HL.vw (looseW HL.vw HL.ls)) := by
  intro w os; kernel_rfl
theorem partE : ∀ (w : World) (os : PySem.OsState), (nd w os).map (fun s => ((HL.sn s).2.2.2.2.1, (HL.sn s).2.2.2.2.2.2.1)) = some ((pinGoodD (drecsOf HL.vw), plainGoodD HL.vw HL.ls)) := by
  intro w os; kernel_rfl
theorem partF : ∀ (w : World) (os : PySem.OsState), (nd w os).map (fun s => (HL.sn s).2.2.2.2.2.2.2.2) = some (clsGoodW HL.vw HL.ls) := by
  intro w os; kernel_rfl
theorem partG : ∀ (w : World) (os : PySem.OsState), (nd w os).map (fun s => (HL.sn s).2.2.2.2.2.2.2.1) = some (wideGood HL.vw) := by
  intro w os; kernel_rfl
theorem partH : ∀ (w : World) (os : PySem.OsState), (nd w os).map (fun s => (HL.sn s).2.2.2.1) = some (true) := by
  intro w os; kernel_rfl
theorem partK : ∀ (w : World) (os : PySem.OsState), (nd w os).map (fun s => as.map (HeadRun.getT s)) = some ((K0.heap_39 w.params).map fun x => some x.2) := by
  intro w os; kernel_rfl
theorem glue {o : Option SharedT} {w : World} {q : Program} {as : List Addr} {k : List (Option Obj)} (e : vw = q)
    (hA : o.map (fun s => (lk w s, (HL.sn s).2.1)) = some (true, bltViewBooted)) (hB : o.map (fun s => (HL.sn s).1) = some (expectedOf HL.vw)) (hC : o.map (fun s => (HL.sn s).2.2.1) = some (true)) (hD : o.map (fun s => (HL.sn s).2.2.2.2.2.1) = some (plainGoodE HL.vw (looseW HL.vw HL.ls)))
    (hE : o.map (fun s => ((HL.sn s).2.2.2.2.1, (HL.sn s).2.2.2.2.2.2.1)) = some (pinGoodD (drecsOf HL.vw), plainGoodD HL.vw HL.ls)) (hF : o.map (fun s => (HL.sn s).2.2.2.2.2.2.2.2) = some (clsGoodW HL.vw HL.ls)) (hG : o.map (fun s => (HL.sn s).2.2.2.2.2.2.2.1) = some (wideGood HL.vw)) (hH : o.map (fun s => (HL.sn s).2.2.2.1) = some (true)) (hK : o.map (fun s => as.map (HeadRun.getT s)) = some k) :
    o.map (fun s => (HeadRun.looksF pp (boot_heap w.params) s.abs, HeadRun.seenQ q ls (importedModules pp.main.body) (fun s => xlAt q [] s && recOk rr.records s) s.abs, as.map (HeadRun.getT s))) = some (true, openGood q ls, k) := by
  subst e
  cases o with
  | none => cases hK
  | some s =>
    have a := Option.some.inj hA
    have v := Option.some.inj hE
    refine congrArg some (Prod.ext (congrArg (fun x => x.1) a) (Prod.ext ?_ (Option.some.inj hK)))
    refine Prod.ext (Option.some.inj hB) (Prod.ext (congrArg (fun x => x.2) a) (Prod.ext (Option.some.inj hC) (Prod.ext (Option.some.inj hH) (Prod.ext (congrArg (fun x => x.1) v) (Prod.ext (Option.some.inj hD) (Prod.ext (congrArg (fun x => x.2) v) (Prod.ext (Option.some.inj hG) (Option.some.inj hF))))))))
end HL
set_option maxHeartbeats 4000000
namespace DL
open PySem PySem.Spec L2
open PyProof.Rows hiding St
/-- a class by its name: of the program, built in -/
inductive Cn where
  | own (n : Str) | blt (n : String)
  deriving DecidableEq
/-- plain data (tuples, frozen lists and dicts by value), defs by name, caught errors, and places of the store -/
inductive D where
  | non | bl (b : Bool) | int (i : Int) | str (x : Str) | ty (n : String) | fn (n : Str)
  | tup (ds : List D) | fl (ds : List D) | kl (ds : List D) | ktp (ds : List D) | ztp (ds : List D) | fd (kvs : List (Key × D)) | exc (c : Cn) (fs : List (Str × D)) | loc (n : Nat)
abbrev Ev := List (Option D)
/-- what a place of the store holds -/
inductive Ob where
  | lst (ds : List D)
  | ins (c : Str) (fs : List (Str × D))
  | dct (kvs : List (Key × D))
  | dtt (kvs : List (Key × D))
  | scr (ds : List D)
  | tpl (ds : List D)
  | dkt (kvs : List (List Key × D))
  | dkl (kvs : List (List Key × D))
abbrev Sto := List Ob
structure Ex where
  cls : Cn
  fs : List (Str × D)
inductive R (α : Type) where
  | ok (a : α) (S : Sto)
  | er (e : Ex) (S : Sto)
  | stuck
inductive SR where
  | nx (ρ : Ev) (S : Sto)
  | rt (d : D) (S : Sto)
  | bk (ρ : Ev) (S : Sto)
  | ct (ρ : Ev) (S : Sto)
  | er (e : Ex) (ρ : Ev) (S : Sto)
  | stuck
/-- a test that no reckoning opens -/
noncomputable def ifp {α : Type} (p : Prop) (a b : α) : α := @ite α p (Classical.propDecidable p) a b
theorem ifp_pos {α : Type} {p : Prop} {a b : α} (h : p) : ifp p a b = a := by unfold ifp; exact if_pos h
theorem ifp_neg {α : Type} {p : Prop} {a b : α} (h : ¬ p) : ifp p a b = b := by unfold ifp; exact if_neg h
theorem ifp_t {α : Type} {a b : α} : ifp True a b = a := ifp_pos trivial
theorem ifp_f {α : Type} {a b : α} : ifp False a b = b := ifp_neg id
def R.bind {α β : Type} (r : R α) (k : α → Sto → R β) : R β := match r with
  | .ok a S => k a S
  | .er e S => .er e S
  | .stuck => .stuck
@[simp] theorem R.bind_ok {α β : Type} (a : α) (S : Sto) (k : α → Sto → R β) : (R.ok a S).bind k = k a S := rfl
@[simp] theorem R.bind_er {α β : Type} (e : Ex) (S : Sto) (k : α → Sto → R β) : (R.er e S : R α).bind k = .er e S := rfl
@[simp] theorem R.bind_stuck {α β : Type} (k : α → Sto → R β) : (R.stuck : R α).bind k = .stuck := rfl
def TupAt (K : PySem.W.Frag) (ι : List Addr) (H : Hp) (a : Addr) (vs : List V) : Prop := (a ∉ ι ∧ H a = some (.tup vs)) ∨ (∃ o, H a = some (.frz o (.tup vs))) ∨ SqT K (fun _ => none) a vs
def LstAt (ι : List Addr) (H : Hp) (a : Addr) (vs : List V) : Prop := a ∉ ι ∧ H a = some (.lst vs)
/-- a list that nobody changes: locked, or of the written part -/
def KlAt (K : PySem.W.Frag) (ι : List Addr) (H : Hp) (a : Addr) (vs : List V) : Prop := (a ∉ ι ∧ ∃ o, H a = some (.frz o (.lst vs))) ∨ SqL K (fun _ => none) a vs
theorem no_rd {a : Addr} {u : HO} (h : Rd (fun _ => none) a u) : False := by
  rcases h with h | ⟨_, h⟩ <;> cases h
theorem TupAt.sq {K : PySem.W.Frag} {ι : List Addr} {H : Hp} {a : Addr} {vs : List V} (h : TupAt K ι H a vs) : SqT K H a vs := by
  rcases h with h | h | h | h
  · exact .inl (.inl h.2)
  · exact .inl (.inr h)
  · exact (no_rd h).elim
  · exact .inr h
theorem KlAt.sq {K : PySem.W.Frag} {ι : List Addr} {H : Hp} {a : Addr} {vs : List V} (h : KlAt K ι H a vs) : SqL K H a vs := by
  rcases h with ⟨_, h⟩ | h | h
  · exact .inl (.inr h)
  · exact (no_rd h).elim
  · exact .inr h
theorem LstAt.sq {K : PySem.W.Frag} {ι : List Addr} {H : Hp} {a : Addr} {vs : List V} (h : LstAt ι H a vs) : SqL K H a vs := SqL.of h.2
def RepC (K : PySem.W.Frag) : Cn → Value → Prop
  | .own n, v => ∃ C, v = .ref C ∧ PySem.W.nsIn K mainGlobals n = some (some (.ref C))
  | .blt n, v => v = .type n
/-- an error that is held as a value: at a, its class, its dict -/
def exv (a : Addr) (cls : Value) (d : Option Addr) : HO := .ext fun h => ∃ (oe : Obj) (vs : Array Value), h.get? a = some oe ∧ oe.cls = cls ∧ oe.dict = d ∧ oe.data = .fields vs
mutual
def RepV (K : PySem.W.Frag) (ι : List Addr) (H : Hp) : D → V → Prop
  | .non, v => v = .non
  | .bl b, v => v = .bl b
  | .int i, v => v = .int i
  | .str x, v => v = .str x
  | .ty n, v => v = .ty n
  | .fn n, v => ∃ a, v = .ref a ∧ PySem.W.nsIn K mainGlobals n = some (some (.ref a))
  | .loc n, v => ∃ a, ι[n]? = some a ∧ v = .ref a
  | .tup ds, v => ∃ a vs, v = .ref a ∧ TupAt K ι H a vs ∧ RepL K ι H ds vs
  | .fl ds, v => ∃ a vs, v = .ref a ∧ LstAt ι H a vs ∧ RepL K ι H ds vs
  | .kl ds, v => ∃ a vs, v = .ref a ∧ KlAt K ι H a vs ∧ RepL K ι H ds vs
  | .ktp ds, v => ∃ a vs, v = .ref a ∧ (a ∉ ι ∧ H a = some (.tup vs)) ∧ RepL K ι H ds vs
  | .ztp ds, v => ∃ a vs, v = .ref a ∧ (∃ o, H a = some (.frz o (.tup vs)) ∧ o.cls = .type "tuple" ∧ o.dict = none) ∧ RepL K ι H ds vs
  | .fd kvs, v => ∃ a ks, v = .ref a ∧ a ∉ ι ∧ H a = some (.dK ks) ∧ RepK K ι H kvs ks
  | .exc c fs, v => ∃ a cls dd, v = .ref a ∧ a ∉ ι ∧ H a = some (exv a cls dd) ∧ RepC K c cls ∧ ((dd = none ∧ fs = []) ∨ ∃ d vs, dd = some d ∧ d ∉ ι ∧ H d = some (.xd vs) ∧ RepF K ι H fs vs)
def RepL (K : PySem.W.Frag) (ι : List Addr) (H : Hp) : List D → List V → Prop
  | [], vs => vs = []
  | d :: ds, vs => ∃ v r, vs = v :: r ∧ RepV K ι H d v ∧ RepL K ι H ds r
def RepK (K : PySem.W.Frag) (ι : List Addr) (H : Hp) : List (Key × D) → List (Key × V) → Prop
  | [], vs => vs = []
  | (k, d) :: ds, vs => ∃ v r, vs = (k, v) :: r ∧ RepV K ι H d v ∧ RepK K ι H ds r
def RepF (K : PySem.W.Frag) (ι : List Addr) (H : Hp) : List (Str × D) → List (Str × V) → Prop
  | [], vs => vs = []
  | (k, d) :: ds, vs => ∃ v r, vs = (k, v) :: r ∧ RepV K ι H d v ∧ RepF K ι H ds r
end
def RepKT (K : PySem.W.Frag) (ι : List Addr) (H : Hp) : List (List Key × D) → List (List Key × V) → Prop
  | [], vs => vs = []
  | (k, d) :: ds, vs => ∃ v r, vs = (k, v) :: r ∧ RepV K ι H d v ∧ RepKT K ι H ds r
def RepO (K : PySem.W.Frag) (ι : List Addr) (H : Hp) (a : Addr) : Ob → Prop
  | .lst ds => ∃ vs, H a = some (.lst vs) ∧ RepL K ι H ds vs
  | .ins c fs => ∃ C dx vs, PySem.W.nsIn K mainGlobals c = some (some (.ref C)) ∧ H a = some (.ins C dx vs) ∧ RepF K ι H fs vs
  | .dct kvs => ∃ ks, H a = some (.dK ks) ∧ RepK K ι H kvs ks
  | .dtt kvs => ∃ o ks, H a = some (.frz o (.dK ks)) ∧ RepK K ι H kvs ks
  | .scr ds => ∃ o vs, H a = some (.frz o (.lst vs)) ∧ RepL K ι H ds vs
  | .tpl ds => ∃ o vs, H a = some (.frz o (.tup vs)) ∧ o.cls = .type "tuple" ∧ o.dict = none ∧ RepL K ι H ds vs
  | .dkt kvs => ∃ ks, H a = some (.dT ks) ∧ RepKT K ι H kvs ks
  | .dkl kvs => ∃ o ks, H a = some (.frz o (.dT ks)) ∧ RepKT K ι H kvs ks
structure Sim (K : PySem.W.Frag) (ι : List Addr) (H : Hp) (S : Sto) : Prop where
  nd : ι.Nodup
  len : ι.length = S.length
  ob : ∀ (n : Nat) (a : Addr) (o : Ob), ι[n]? = some a → S[n]? = some o → RepO K ι H a o
def RepE (K : PySem.W.Frag) (ι : List Addr) (H : Hp) (σ : St) (ρ : Ev) : Prop :=
  σ.length = ρ.length ∧ ∀ (i : Nat) (d : D), ρ[i]? = some (some d) → ∃ v, σ[i]? = some (some v) ∧ RepV K ι H d v
structure Grow (ι : List Addr) (H : Hp) (ι' : List Addr) (H' : Hp) : Prop where
  pre : ι <+: ι'
  keep : ∀ a o, H a = some o → a ∉ ι → H' a = some o
  fresh : ∀ a, a ∈ ι' → a ∉ ι → H a = none
  frz : ∀ a od u, H a = some (.frz od u) → H' a = some (.frz od u)
theorem Grow.refl (ι : List Addr) (H : Hp) : Grow ι H ι H := ⟨List.prefix_rfl, fun _ _ e _ => e, fun _ h n => absurd h n, fun _ _ _ e => e⟩
theorem Grow.trans {ι ι1 ι2 : List Addr} {H H1 H2 : Hp} (a : Grow ι H ι1 H1) (b : Grow ι1 H1 ι2 H2) : Grow ι H ι2 H2 where
  pre := a.pre.trans b.pre
  keep := fun c o e n => b.keep c o (a.keep c o e n) fun z => by
    have := a.fresh c z n
    rw [this] at e; cases e
  fresh := fun c h n => by
    by_cases z : c ∈ ι1
    · exact a.fresh c z n
    · have q := b.fresh c h z
      cases e : H c with
      | none => rfl
      | some o => rw [a.keep c o e n] at q; cases q
  frz := fun c od u e => b.frz c od u (a.frz c od u e)
theorem Grow.rd {ι ι' : List Addr} {H H' : Hp} {a : Addr} {u : HO} (g : Grow ι H ι' H') (n : a ∉ ι) (r : H a = some u) : a ∉ ι' ∧ H' a = some u := by
  refine ⟨fun z => ?_, g.keep _ _ r n⟩
  have q := g.fresh a z n
  rw [q] at r; cases r
theorem TupAt.grow {K : PySem.W.Frag} {ι ι' : List Addr} {H H' : Hp} {a : Addr} {vs : List V} (g : Grow ι H ι' H') (h : TupAt K ι H a vs) : TupAt K ι' H' a vs := by
  rcases h with ⟨n, r⟩ | ⟨o, h⟩ | h
  · exact .inl (g.rd n r)
  · exact .inr (.inl ⟨o, g.frz _ _ _ h⟩)
  · exact .inr (.inr h)
theorem KlAt.grow {K : PySem.W.Frag} {ι ι' : List Addr} {H H' : Hp} {a : Addr} {vs : List V} (g : Grow ι H ι' H') (h : KlAt K ι H a vs) : KlAt K ι' H' a vs := by
  rcases h with ⟨n, o, r⟩ | h
  · exact .inl ⟨(g.rd n r).1, o, (g.rd n r).2⟩
  · exact .inr h
theorem LstAt.grow {ι ι' : List Addr} {H H' : Hp} {a : Addr} {vs : List V} (g : Grow ι H ι' H') (h : LstAt ι H a vs) : LstAt ι' H' a vs := g.rd h.1 h.2
theorem getElem?_pre {ι ι' : List Addr} (p : ι <+: ι') {n : Nat} {a : Addr} (h : ι[n]? = some a) : ι'[n]? = some a := by
  obtain ⟨t, rfl⟩ := p
  have hn : n < ι.length := (List.getElem?_eq_some_iff.mp h).1
  rw [List.getElem?_append_left hn]; exact h
mutual
theorem RepV.grow {K : PySem.W.Frag} {ι ι' : List Addr} {H H' : Hp} (g : Grow ι H ι' H') : ∀ (d : D) (v : V), RepV K ι H d v → RepV K ι' H' d v
  | .non, _, h => by rw [RepV] at h ⊢; exact h
  | .bl _, _, h => by rw [RepV] at h ⊢; exact h
  | .int _, _, h => by rw [RepV] at h ⊢; exact h
  | .str _, _, h => by rw [RepV] at h ⊢; exact h
  | .ty _, _, h => by rw [RepV] at h ⊢; exact h
  | .fn _, _, h => by rw [RepV] at h ⊢; exact h
  | .loc n, _, h => by
    rw [RepV] at h ⊢
    obtain ⟨a, e, r⟩ := h
    exact ⟨a, getElem?_pre g.pre e, r⟩
  | .tup ds, _, h => by
    rw [RepV] at h ⊢
    obtain ⟨a, vs, e, t, r⟩ := h
    exact ⟨a, vs, e, t.grow g, RepL.grow g ds vs r⟩
  | .fl ds, _, h => by
    rw [RepV] at h ⊢
    obtain ⟨a, vs, e, t, r⟩ := h
    exact ⟨a, vs, e, t.grow g, RepL.grow g ds vs r⟩
  | .kl ds, _, h => by
    rw [RepV] at h ⊢
    obtain ⟨a, vs, e, t, r⟩ := h
    exact ⟨a, vs, e, t.grow g, RepL.grow g ds vs r⟩
  | .ktp ds, _, h => by
    rw [RepV] at h ⊢
    obtain ⟨a, vs, e, ⟨n, t⟩, r⟩ := h
    have q := g.rd n t
    exact ⟨a, vs, e, ⟨q.1, g.keep _ _ t n⟩, RepL.grow g ds vs r⟩
  | .ztp ds, _, h => by
    rw [RepV] at h ⊢
    obtain ⟨a, vs, e, ⟨o, t, c1, c2⟩, r⟩ := h
    exact ⟨a, vs, e, ⟨o, g.frz _ _ _ t, c1, c2⟩, RepL.grow g ds vs r⟩
  | .fd kvs, _, h => by
    rw [RepV] at h ⊢
    obtain ⟨a, vs, e, n, t, r⟩ := h
    have q := g.rd n t
    exact ⟨a, vs, e, q.1, g.keep _ _ t n, RepK.grow g kvs vs r⟩
  | .exc c fs, _, h => by
    rw [RepV] at h ⊢
    obtain ⟨a, cls, dd, e, n, t, rc, r⟩ := h
    have q := g.rd n t
    refine ⟨a, cls, dd, e, q.1, q.2, rc, ?_⟩
    rcases r with r | ⟨d, vs, e1, e2, e3, e4⟩
    · exact .inl r
    · have q2 := g.rd e2 e3
      exact .inr ⟨d, vs, e1, q2.1, q2.2, RepF.grow g fs vs e4⟩
theorem RepL.grow {K : PySem.W.Frag} {ι ι' : List Addr} {H H' : Hp} (g : Grow ι H ι' H') : ∀ (ds : List D) (vs : List V), RepL K ι H ds vs → RepL K ι' H' ds vs
  | [], _, h => by rw [RepL] at h ⊢; exact h
  | d :: ds, _, h => by
    rw [RepL] at h ⊢
    obtain ⟨v, r, e, a, b⟩ := h
    exact ⟨v, r, e, RepV.grow g d v a, RepL.grow g ds r b⟩
theorem RepK.grow {K : PySem.W.Frag} {ι ι' : List Addr} {H H' : Hp} (g : Grow ι H ι' H') : ∀ (ds : List (Key × D)) (vs : List (Key × V)), RepK K ι H ds vs → RepK K ι' H' ds vs
  | [], _, h => by rw [RepK] at h ⊢; exact h
  | (k, d) :: ds, _, h => by
    rw [RepK] at h ⊢
    obtain ⟨v, r, e, a, b⟩ := h
    exact ⟨v, r, e, RepV.grow g d v a, RepK.grow g ds r b⟩
theorem RepF.grow {K : PySem.W.Frag} {ι ι' : List Addr} {H H' : Hp} (g : Grow ι H ι' H') : ∀ (ds : List (Str × D)) (vs : List (Str × V)), RepF K ι H ds vs → RepF K ι' H' ds vs
  | [], _, h => by rw [RepF] at h ⊢; exact h
  | (k, d) :: ds, _, h => by
    rw [RepF] at h ⊢
    obtain ⟨v, r, e, a, b⟩ := h
    exact ⟨v, r, e, RepV.grow g d v a, RepF.grow g ds r b⟩
end
theorem RepKT.grow {K : PySem.W.Frag} {ι ι' : List Addr} {H H' : Hp} (g : Grow ι H ι' H') : ∀ (ds : List (List Key × D)) (vs : List (List Key × V)), RepKT K ι H ds vs → RepKT K ι' H' ds vs
  | [], _, h => by rw [RepKT] at h ⊢; exact h
  | (k, d) :: ds, _, h => by
    rw [RepKT] at h ⊢
    obtain ⟨v, r, e, a, b⟩ := h
    exact ⟨v, r, e, RepV.grow g d v a, RepKT.grow g ds r b⟩
theorem RepE.grow {K : PySem.W.Frag} {ι ι' : List Addr} {H H' : Hp} {σ : St} {ρ : Ev} (g : Grow ι H ι' H') (h : RepE K ι H σ ρ) : RepE K ι' H' σ ρ :=
  ⟨h.1, fun i d e => let ⟨v, e', r⟩ := h.2 i d e; ⟨v, e', RepV.grow g d v r⟩⟩
theorem RepE.get {K : PySem.W.Frag} {ι : List Addr} {H : Hp} {σ : St} {ρ : Ev} (h : RepE K ι H σ ρ) {i : Nat} {d : D} (e : ρ[i]? = some (some d)) : ∃ v, σ[i]? = some (some v) ∧ RepV K ι H d v := h.2 i d e
theorem RepE.set {K : PySem.W.Frag} {ι : List Addr} {H : Hp} {σ : St} {ρ : Ev} (h : RepE K ι H σ ρ) {d : D} {v : V} (r : RepV K ι H d v) (i : Nat) : RepE K ι H (σ.set i (some v)) (ρ.set i (some d)) := by
  refine ⟨by simp [h.1], fun j d' e => ?_⟩
  rw [List.getElem?_set] at e ⊢
  by_cases hij : i = j
  · rw [if_pos hij] at e ⊢
    by_cases hl : i < ρ.length
    · rw [if_pos hl] at e
      rw [if_pos (by rw [h.1]; exact hl)]
      cases e
      exact ⟨v, rfl, r⟩
    · rw [if_neg hl] at e; cases e
  · rw [if_neg hij] at e ⊢
    exact h.2 j d' e
theorem RepE.drop {K : PySem.W.Frag} {ι : List Addr} {H : Hp} {σ : St} {ρ : Ev} (h : RepE K ι H σ ρ) (x : Option V) (i : Nat) : RepE K ι H (σ.set i x) (ρ.set i none) := by
  refine ⟨by simp [h.1], fun j d' e => ?_⟩
  rw [List.getElem?_set] at e ⊢
  by_cases hij : i = j
  · rw [if_pos hij] at e
    by_cases hl : i < ρ.length
    · rw [if_pos hl] at e; cases e
    · rw [if_neg hl] at e; cases e
  · rw [if_neg hij] at e ⊢
    exact h.2 j d' e
theorem RepL.length {K : PySem.W.Frag} {ι : List Addr} {H : Hp} : ∀ (ds : List D) (vs : List V), RepL K ι H ds vs → ds.length = vs.length
  | [], _, h => by rw [RepL] at h; subst h; rfl
  | d :: ds, _, h => by
    rw [RepL] at h
    obtain ⟨v, r, rfl, _, b⟩ := h
    simp [RepL.length ds r b]
theorem RepL.get {K : PySem.W.Frag} {ι : List Addr} {H : Hp} : ∀ (ds : List D) (vs : List V), RepL K ι H ds vs → ∀ (i : Nat) (d : D), ds[i]? = some d → ∃ v, vs[i]? = some v ∧ RepV K ι H d v
  | [], _, h, i, d, e => by simp at e
  | d :: ds, _, h, i, d', e => by
    rw [RepL] at h
    obtain ⟨v, r, rfl, a, b⟩ := h
    cases i with
    | zero => simp at e; subst e; exact ⟨v, rfl, a⟩
    | succ i => exact RepL.get ds r b i d' (by simpa using e)
theorem RepL.app {K : PySem.W.Frag} {ι : List Addr} {H : Hp} : ∀ (ds : List D) (vs : List V), RepL K ι H ds vs → ∀ (es : List D) (us : List V), RepL K ι H es us → RepL K ι H (ds ++ es) (vs ++ us)
  | [], _, h, es, us, h' => by rw [RepL] at h; subst h; simpa using h'
  | d :: ds, _, h, es, us, h' => by
    rw [RepL] at h
    obtain ⟨v, r, rfl, a, b⟩ := h
    show RepL K ι H (d :: (ds ++ es)) (v :: (r ++ us))
    rw [RepL]
    exact ⟨v, _, rfl, a, RepL.app ds r b es us h'⟩
theorem RepL.one {K : PySem.W.Frag} {ι : List Addr} {H : Hp} {d : D} {v : V} (h : RepV K ι H d v) : RepL K ι H [d] [v] := by
  rw [RepL]; exact ⟨v, [], rfl, h, by rw [RepL]⟩
theorem RepL.nil {K : PySem.W.Frag} {ι : List Addr} {H : Hp} : RepL K ι H [] [] := by rw [RepL]
theorem RepL.cons {K : PySem.W.Frag} {ι : List Addr} {H : Hp} {d : D} {v : V} {ds : List D} {vs : List V} (h : RepV K ι H d v) (t : RepL K ι H ds vs) : RepL K ι H (d :: ds) (v :: vs) := by
  rw [RepL]; exact ⟨v, vs, rfl, h, t⟩
theorem RepL.take {K : PySem.W.Frag} {ι : List Addr} {H : Hp} : ∀ (ds : List D) (vs : List V) (n : Nat), RepL K ι H ds vs → RepL K ι H (ds.take n) (vs.take n)
  | _, _, 0, _ => by simp [RepL]
  | [], _, n + 1, h => by rw [RepL] at h; subst h; simp [RepL]
  | d :: ds, _, n + 1, h => by
    rw [RepL] at h
    obtain ⟨v, r, rfl, a, b⟩ := h
    exact RepL.cons a (RepL.take ds r n b)
theorem RepL.drop {K : PySem.W.Frag} {ι : List Addr} {H : Hp} : ∀ (ds : List D) (vs : List V) (n : Nat), RepL K ι H ds vs → RepL K ι H (ds.drop n) (vs.drop n)
  | _, _, 0, h => h
  | [], _, n + 1, h => by rw [RepL] at h; subst h; simp [RepL]
  | d :: ds, _, n + 1, h => by
    rw [RepL] at h
    obtain ⟨v, r, rfl, a, b⟩ := h
    exact RepL.drop ds r n b
theorem RepL.set {K : PySem.W.Frag} {ι : List Addr} {H : Hp} {d : D} {v : V} (r : RepV K ι H d v) : ∀ (ds : List D) (vs : List V) (n : Nat), RepL K ι H ds vs → RepL K ι H (ds.set n d) (vs.set n v)
  | [], _, n, h => by rw [RepL] at h; subst h; simp [RepL]
  | d' :: ds, _, 0, h => by
    rw [RepL] at h
    obtain ⟨v', r', rfl, a, b⟩ := h
    exact RepL.cons r b
  | d' :: ds, _, n + 1, h => by
    rw [RepL] at h
    obtain ⟨v', r', rfl, a, b⟩ := h
    exact RepL.cons a (RepL.set r ds r' n b)
theorem RepO.grow {K : PySem.W.Frag} {ι : List Addr} {H H' : Hp} {a : Addr} {o : Ob} {ι' : List Addr} (g : Grow ι H ι' H') (e : H' a = H a) (h : RepO K ι H a o) : RepO K ι' H' a o := by
  cases o with
  | lst ds => obtain ⟨vs, q, r⟩ := h; exact ⟨vs, by rw [e]; exact q, RepL.grow g ds vs r⟩
  | ins C fs => obtain ⟨C', dx, vs, nc, q, r⟩ := h; exact ⟨C', dx, vs, nc, by rw [e]; exact q, RepF.grow g fs vs r⟩
  | dct ks => obtain ⟨vs, q, r⟩ := h; exact ⟨vs, by rw [e]; exact q, RepK.grow g ks vs r⟩
  | dtt ks => obtain ⟨o, vs, q, r⟩ := h; exact ⟨o, vs, by rw [e]; exact q, RepK.grow g ks vs r⟩
  | scr ds => obtain ⟨o, vs, q, r⟩ := h; exact ⟨o, vs, by rw [e]; exact q, RepL.grow g ds vs r⟩
  | tpl ds => obtain ⟨o, vs, q, c1, c2, r⟩ := h; exact ⟨o, vs, by rw [e]; exact q, c1, c2, RepL.grow g ds vs r⟩
  | dkt ks => obtain ⟨vs, q, r⟩ := h; exact ⟨vs, by rw [e]; exact q, RepKT.grow g ks vs r⟩
  | dkl ks => obtain ⟨o, vs, q, r⟩ := h; exact ⟨o, vs, by rw [e]; exact q, RepKT.grow g ks vs r⟩
theorem RepO.some {K : PySem.W.Frag} {ι : List Addr} {H : Hp} {a : Addr} {o : Ob} (h : RepO K ι H a o) : ∃ u, H a = some u := by
  cases o with
  | lst ds => obtain ⟨vs, q, _⟩ := h; exact ⟨_, q⟩
  | ins C fs => obtain ⟨C', dx, vs, _, q, _⟩ := h; exact ⟨_, q⟩
  | dct ks => obtain ⟨vs, q, _⟩ := h; exact ⟨_, q⟩
  | dtt ks => obtain ⟨o, vs, q, _⟩ := h; exact ⟨_, q⟩
  | scr ds => obtain ⟨o, vs, q, _⟩ := h; exact ⟨_, q⟩
  | tpl ds => obtain ⟨o, vs, q, _⟩ := h; exact ⟨_, q⟩
  | dkt ks => obtain ⟨vs, q, _⟩ := h; exact ⟨_, q⟩
  | dkl ks => obtain ⟨o, vs, q, _⟩ := h; exact ⟨_, q⟩
theorem Sim.there {K : PySem.W.Frag} {ι : List Addr} {H : Hp} {S : Sto} (s : Sim K ι H S) {a : Addr} (h : a ∈ ι) : ∃ u, H a = some u := by
  obtain ⟨n, hn, rfl⟩ := List.mem_iff_getElem.mp h
  have hs : n < S.length := by rw [← s.len]; exact hn
  exact (s.ob n ι[n] S[n] (List.getElem?_eq_some_iff.mpr ⟨hn, rfl⟩) (List.getElem?_eq_some_iff.mpr ⟨hs, rfl⟩)).some
theorem Sim.free {K : PySem.W.Frag} {ι : List Addr} {H : Hp} {S : Sto} (s : Sim K ι H S) {p : Addr} (h : H p = none) : p ∉ ι := fun z => by
  obtain ⟨u, e⟩ := s.there z
  rw [h] at e; cases e
/-- a new thing outside of the store -/
theorem Grow.upd {ι : List Addr} {H : Hp} {p : Addr} {o : HO} (h : H p = none) : Grow ι H ι (L2.upd H p o) :=
  ⟨List.prefix_rfl, fun a u e _ => by rw [upd_ne (ne_of_none e h)]; exact e, fun _ z n => absurd z n, fun a od u e => by rw [upd_ne (ne_of_none e h)]; exact e⟩
theorem Sim.upd {K : PySem.W.Frag} {ι : List Addr} {H : Hp} {S : Sto} (s : Sim K ι H S) {p : Addr} {o : HO} (h : H p = none) : Sim K ι (L2.upd H p o) S :=
  ⟨s.nd, s.len, fun n a u e1 e2 => (s.ob n a u e1 e2).grow (Grow.upd h) (by
    have hp := s.free h
    have hne : a ≠ p := fun z => hp (z ▸ List.mem_of_getElem? e1)
    rw [upd_ne hne])⟩
/-- a new place -/
theorem Grow.push {ι : List Addr} {H : Hp} {p : Addr} {o : HO} (h : H p = none) : Grow ι H (ι ++ [p]) (L2.upd H p o) :=
  ⟨List.prefix_append _ _, fun a u e _ => by rw [upd_ne (ne_of_none e h)]; exact e, fun a z n => by
    rcases List.mem_append.mp z with z | z
    · exact absurd z n
    · rw [List.mem_singleton.mp z]; exact h, fun a od u e => by rw [upd_ne (ne_of_none e h)]; exact e⟩
theorem Sim.push {K : PySem.W.Frag} {ι : List Addr} {H : Hp} {S : Sto} (s : Sim K ι H S) {p : Addr} {o : HO} {b : Ob} (h : H p = none) (r : RepO K (ι ++ [p]) (L2.upd H p o) p b) : Sim K (ι ++ [p]) (L2.upd H p o) (S ++ [b]) := by
  have hp := s.free h
  refine ⟨?_, by simp [s.len], fun n a u e1 e2 => ?_⟩
  · exact List.nodup_append.mpr ⟨s.nd, by simp, fun x hx y hy => by rw [List.mem_singleton.mp hy]; exact fun z => hp (z ▸ hx)⟩
  · by_cases hn : n < ι.length
    · rw [List.getElem?_append_left hn] at e1
      rw [List.getElem?_append_left (by rw [← s.len]; exact hn)] at e2
      refine (s.ob n a u e1 e2).grow (Grow.push h) ?_
      have hne : a ≠ p := fun z => hp (z ▸ List.mem_of_getElem? e1)
      rw [upd_ne hne]
    · rw [List.getElem?_append_right (by omega)] at e1
      rw [List.getElem?_append_right (by rw [← s.len]; omega)] at e2
      rw [← s.len] at e2
      have hl := (List.getElem?_eq_some_iff.mp e1).1
      have : n - ι.length = 0 := by simpa using hl
      rw [this] at e1 e2
      simp at e1 e2
      subst e1; subst e2
      exact r
/-- a place changed -/
def NoFrz (u : HO) : Prop := ∀ od v, u ≠ .frz od v
theorem Grow.put {ι : List Addr} {H : Hp} {p : Addr} {o u0 : HO} (h : p ∈ ι) (hu : H p = some u0) (hf : NoFrz u0) : Grow ι H ι (L2.upd H p o) :=
  ⟨List.prefix_rfl, fun a u e n => by
    have hne : a ≠ p := fun z => n (z ▸ h)
    rw [upd_ne hne]; exact e, fun _ z n => absurd z n, fun a od u e => by
    have hne : a ≠ p := fun z => by
      rw [z, hu] at e
      exact hf _ _ (Option.some.inj e)
    rw [upd_ne hne]; exact e⟩
theorem Sim.put {K : PySem.W.Frag} {ι : List Addr} {H : Hp} {S : Sto} (s : Sim K ι H S) {p : Addr} {o u0 : HO} {b : Ob} {m : Nat} (h : ι[m]? = some p) (hu : H p = some u0) (hf : NoFrz u0) (r : RepO K ι (L2.upd H p o) p b) : Sim K ι (L2.upd H p o) (S.set m b) := by
  refine ⟨s.nd, by simp [s.len], fun n a u e1 e2 => ?_⟩
  by_cases hn : n = m
  · subst hn
    rw [h] at e1; cases e1
    have hl : n < S.length := by rw [← s.len]; exact (List.getElem?_eq_some_iff.mp h).1
    rw [List.getElem?_set_self hl] at e2; cases e2
    exact r
  · rw [List.getElem?_set_ne (Ne.symm hn)] at e2
    refine (s.ob n a u e1 e2).grow (Grow.put (List.mem_of_getElem? h) hu hf) ?_
    rw [upd_ne]
    rintro rfl
    obtain ⟨h1, q1⟩ := List.getElem?_eq_some_iff.mp e1
    obtain ⟨h2, q2⟩ := List.getElem?_eq_some_iff.mp h
    exact hn ((List.getElem_inj s.nd).mp (q1.trans q2.symm))
/-- a raised exception: its class, its own dict -/
def RepX (K : PySem.W.Frag) (ι : List Addr) (H : Hp) (e : Ex) (cls : Value) (dd : Option Addr) : Prop :=
  RepC K e.cls cls ∧ ((dd = none ∧ e.fs = []) ∨ ∃ a vs, dd = some a ∧ a ∉ ι ∧ H a = some (.xd vs) ∧ RepF K ι H e.fs vs)
/-- behind a result: what is wanted of a value, W of an exception -/
def Post {α : Type} (K : PySem.W.Frag) (W : WX) (σ : St) (ι : List Addr) (H : Hp) (r : R α) (P : α → Sto → List Addr → Hp → Prop) : Prop := match r with
  | .ok a S' => ∀ ι' H', Grow ι H ι' H' → Sim K ι' H' S' → P a S' ι' H'
  | .er e S' => ∀ ι' H' cls dd, Grow ι H ι' H' → Sim K ι' H' S' → RepX K ι' H' e cls dd → W cls dd σ H'
  | .stuck => False
theorem Post.bind {α β : Type} {K : PySem.W.Frag} {W : WX} {σ : St} {ι : List Addr} {H : Hp} {r : R α} {k : α → Sto → R β} {P : β → Sto → List Addr → Hp → Prop} (h : Post K W σ ι H (r.bind k) P) :
    Post K W σ ι H r fun a S1 ι1 H1 => Post K W σ ι1 H1 (k a S1) P := by
  cases r with
  | stuck => exact h
  | er e S => exact h
  | ok a S =>
    intro ι1 H1 G1 s1
    have h : Post K W σ ι H (k a S) P := h
    show Post K W σ ι1 H1 (k a S) P
    revert h
    cases k a S with
    | stuck => exact fun h => h
    | er e S => exact fun h ι2 H2 cls dd G2 s2 x => h ι2 H2 cls dd (G1.trans G2) s2 x
    | ok b S => exact fun h ι2 H2 G2 s2 => h ι2 H2 (G1.trans G2) s2
theorem Post.mono {α : Type} {K : PySem.W.Frag} {W : WX} {σ : St} {ι : List Addr} {H : Hp} {r : R α} {P P' : α → Sto → List Addr → Hp → Prop} (h : Post K W σ ι H r P)
    (i : ∀ a S' ι' H', Grow ι H ι' H' → Sim K ι' H' S' → P a S' ι' H' → P' a S' ι' H') : Post K W σ ι H r P' := by
  cases r with
  | stuck => exact h
  | er e S => exact h
  | ok a S => exact fun ι' H' G s => i a S ι' H' G s (h ι' H' G s)
theorem Post.here {α : Type} {K : PySem.W.Frag} {W : WX} {σ : St} {ι : List Addr} {H : Hp} {a : α} {S : Sto} {P : α → Sto → List Addr → Hp → Prop} (h : Post K W σ ι H (.ok a S) P) (s : Sim K ι H S) : P a S ι H := h ι H (Grow.refl ι H) s
/-- the world of a piece of code: the store's addresses, the data of the slots, the store -/
def rdE (K : PySem.W.Frag) (W : WX) (f : Ev → Sto → R D) : TE := fun σ H Q => ∃ ι ρ S, RepE K ι H σ ρ ∧ Sim K ι H S ∧ Post K W σ ι H (f ρ S) fun d _ ι' H' => ∀ v, RepV K ι' H' d v → Q v H'
def rdT (K : PySem.W.Frag) (W : WX) (f : Ev → Sto → R Bool) : TT := fun σ H Q => ∃ ι ρ S, RepE K ι H σ ρ ∧ Sim K ι H S ∧ Post K W σ ι H (f ρ S) fun b _ _ H' => Q b H'
def rdA (K : PySem.W.Frag) (W : WX) (f : Ev → Sto → R (List D)) : TA := fun σ H Q => ∃ ι ρ S, RepE K ι H σ ρ ∧ Sim K ι H S ∧ Post K W σ ι H (f ρ S) fun ds _ ι' H' => ∀ vs, RepL K ι' H' ds vs → Q vs H'
/-- behind a statement -/
def PostS (K : PySem.W.Frag) (W : WX) (E : Ends) (ι : List Addr) (H : Hp) (r : SR) : Prop := match r with
  | .nx ρ' S' => ∀ ι' H' σ', Grow ι H ι' H' → Sim K ι' H' S' → RepE K ι' H' σ' ρ' → E.nx σ' H'
  | .rt d S' => ∀ ι' H' v, Grow ι H ι' H' → Sim K ι' H' S' → RepV K ι' H' d v → E.rt v H'
  | .bk ρ' S' => ∀ ι' H' σ', Grow ι H ι' H' → Sim K ι' H' S' → RepE K ι' H' σ' ρ' → E.bk σ' H'
  | .ct ρ' S' => ∀ ι' H' σ', Grow ι H ι' H' → Sim K ι' H' S' → RepE K ι' H' σ' ρ' → E.ct σ' H'
  | .er e ρ' S' => ∀ ι' H' σ' cls dd, Grow ι H ι' H' → Sim K ι' H' S' → RepE K ι' H' σ' ρ' → RepX K ι' H' e cls dd → W cls dd σ' H'
  | .stuck => False
theorem PostS.grow {K : PySem.W.Frag} {W : WX} {E : Ends} {ι ι1 : List Addr} {H H1 : Hp} {r : SR} (h : PostS K W E ι H r) (G : Grow ι H ι1 H1) : PostS K W E ι1 H1 r := by
  cases r with
  | stuck => exact h
  | nx ρ S => exact fun ι' H' σ' G1 => h ι' H' σ' (G.trans G1)
  | bk ρ S => exact fun ι' H' σ' G1 => h ι' H' σ' (G.trans G1)
  | ct ρ S => exact fun ι' H' σ' G1 => h ι' H' σ' (G.trans G1)
  | rt d S => exact fun ι' H' v G1 => h ι' H' v (G.trans G1)
  | er e ρ S => exact fun ι' H' σ' cls dd G1 => h ι' H' σ' cls dd (G.trans G1)
def rdS (K : PySem.W.Frag) (W : WX) (F : Ev → Sto → SR) : TS := fun E σ H => ∃ ι ρ S, RepE K ι H σ ρ ∧ Sim K ι H S ∧ PostS K W E ι H (F ρ S)
abbrev DE (X : Cx) (W : WX) (e : Expr) (f : Ev → Sto → R D) : Prop := PE X e (rdE X.K W f)
abbrev DT (X : Cx) (W : WX) (e : Expr) (f : Ev → Sto → R Bool) : Prop := PT X e (rdT X.K W f)
abbrev DW (X : Cx) (W : WX) (e : Expr) (f : Ev → Sto → R Bool) : Prop := PW X e (rdT X.K W f)
abbrev DA (X : Cx) (W : WX) (es : List Expr) (f : Ev → Sto → R (List D)) : Prop := PA X es (rdA X.K W f)
abbrev DS (X : Cx) (W : WX) (st : Stmt) (F : Ev → Sto → SR) : Prop := PS X st (rdS X.K W F)
abbrev DSs (X : Cx) (W : WX) (st : List Stmt) (F : Ev → Sto → SR) : Prop := PSs X st (rdS X.K W F)
theorem PE.imp {X : Cx} {e : Expr} {t u : TE} (h : PE X e t) (i : ∀ σ H Q, u σ H Q → t σ H Q) : PE X e u := ⟨fun pins s σ H Q I q => h.run pins s σ H Q I (i σ H Q q)⟩
theorem PT.imp {X : Cx} {e : Expr} {t u : TT} (h : PT X e t) (i : ∀ σ H Q, u σ H Q → t σ H Q) : PT X e u := ⟨fun pins s σ H Q I q => h.run pins s σ H Q I (i σ H Q q)⟩
theorem PW.imp {X : Cx} {e : Expr} {t u : TT} (h : PW X e t) (i : ∀ σ H Q, u σ H Q → t σ H Q) : PW X e u := ⟨fun wh pins s σ H Q I q => h.run wh pins s σ H Q I (i σ H Q q)⟩
theorem PA.imp {X : Cx} {e : List Expr} {t u : TA} (h : PA X e t) (i : ∀ σ H Q, u σ H Q → t σ H Q) : PA X e u := ⟨fun p pins s σ H Q I q => h.run p pins s σ H Q I (i σ H Q q)⟩
theorem PS.imp {X : Cx} {e : Stmt} {t u : TS} (h : PS X e t) (i : ∀ D σ H, u D σ H → t D σ H) : PS X e u := ⟨fun pins s σ H D I q => h.run pins s σ H D I (i D σ H q)⟩
theorem PSs.imp {X : Cx} {e : List Stmt} {t u : TS} (h : PSs X e t) (i : ∀ D σ H, u D σ H → t D σ H) : PSs X e u := ⟨fun pins s σ H D I q => h.run pins s σ H D I (i D σ H q)⟩
end DL
namespace DL
open PySem PySem.Spec L2
open PyProof.Rows hiding St
section
variable {X : Cx} {W : WX} {pos : Pos}
def eVar (i : Nat) : Ev → Sto → R D := fun ρ S => match ρ[i]? with
  | some (some d) => .ok d S
  | _ => .stuck
def eC (d : D) : Ev → Sto → R D := fun _ S => .ok d S
theorem de_var (i : Nat) {x : Str} {pos : Pos} (hN : X.N[i]? = some x := by rfl) (hv : Vis X.env.scope x := by first | exact Or.inl rfl | exact Or.inr (Or.inl rfl) | exact Or.inr (Or.inr rfl)) (hd : (x == ("__debug__" : Str)) = false := by decide)
    (hcd : (x == ("__classdict__" : Str)) = false := by decide) : DE X W (.Name x pos) (eVar i) := by
  refine PE.imp (pe_var hN hv hd hcd) fun σ H Q ⟨ι, ρ, S, hE, hS, h⟩ => ?_
  unfold eVar at h
  split at h
  · rename_i d e
    obtain ⟨v, e', r⟩ := hE.get e
    exact ⟨v, e', h.here hS v r⟩
  · exact h.elim
theorem de_c {e : Expr} {d : D} {v : V} (h : PE X e (tC v)) (r : ∀ ι H, RepV X.K ι H d v) : DE X W e (eC d) :=
  PE.imp h fun σ H Q ⟨ι, ρ, S, hE, hS, h⟩ => h.here hS v (r ι H)
theorem de_int {i j pos} : DE X W (.Constant (.int i) j pos) (eC (.int i)) := de_c pe_int fun _ _ => by rw [RepV]
theorem de_bl {b j pos} : DE X W (.Constant (.bool b) j pos) (eC (.bl b)) := de_c pe_bl fun _ _ => by rw [RepV]
theorem de_non {j pos} : DE X W (.Constant .none j pos) (eC .non) := de_c pe_non fun _ _ => by rw [RepV]
theorem de_str {x j pos} : DE X W (.Constant (.str x) j pos) (eC (.str x)) := de_c pe_str fun _ _ => by rw [RepV]
def eOp (o : D → D → Sto → R D) (f g : Ev → Sto → R D) : Ev → Sto → R D := fun ρ S => (f ρ S).bind fun a S1 => (g ρ S1).bind fun b S2 => o a b S2
/-- a rule by values keeps the function o -/
def OpK (K : PySem.W.Frag) (r : R2) (o : D → D → Sto → R D) : Prop := ∀ (W : WX) (σ : St) (ι : List Addr) (H : Hp) (S : Sto) (x y : V) (a b : D) (Q : VK), Sim K ι H S → RepV K ι H a x → RepV K ι H b y →
  Post K W σ ι H (o a b S) (fun d _ ι' H' => ∀ v, RepV K ι' H' d v → Q v H') → r x y H Q
theorem op_seq {r : R2} {o : D → D → Sto → R D} {f g : Ev → Sto → R D} (k : OpK X.K r o) : ∀ σ H Q, rdE X.K W (eOp o f g) σ H Q → tOp r (rdE X.K W f) (rdE X.K W g) σ H Q := fun σ H Q ⟨ι, ρ, S, hE, hS, h⟩ => by
  refine ⟨ι, ρ, S, hE, hS, (Post.bind h).mono fun a S1 ι1 H1 G1 s1 h1 x rx => ?_⟩
  refine ⟨ι1, ρ, S1, hE.grow G1, s1, (Post.bind h1).mono fun b S2 ι2 H2 G2 s2 h2 y ry => ?_⟩
  exact k W σ ι2 H2 S2 x y a b Q s2 (RepV.grow G2 a x rx) ry h2
theorem de_op {a b : Expr} {op : Operator} {r : R2} {o : D → D → Sto → R D} {f g : Ev → Sto → R D} (ho : OpR X (binaryOp op) r) (k : OpK X.K r o) (ha : DE X W a f) (hb : DE X W b g) : DE X W (.BinOp a op b pos) (eOp o f g) :=
  PE.imp (pe_op ho ha hb) (op_seq k)
theorem de_cmp {a b : Expr} {op : CmpOp} {r : R2} {o : D → D → Sto → R D} {f g : Ev → Sto → R D} (ho : OpR X (compareOp op) r) (k : OpK X.K r o) (ha : DE X W a f) (hb : DE X W b g) (hm : behindInMarks op b = false) : DE X W (.Compare a [op] [b] pos) (eOp o f g) :=
  PE.imp (pe_cmpR ho ha hb hm) (op_seq k)
/-- a value's truth where it is a bool -/
def bOf : D → Sto → R Bool := fun d S => match d with
  | .bl b => .ok b S
  | _ => .stuck
def eT (f : Ev → Sto → R D) : Ev → Sto → R Bool := fun ρ S => (f ρ S).bind bOf
theorem bOf_post {K : PySem.W.Frag} {σ : St} {ι : List Addr} {H : Hp} {d : D} {S : Sto} {v : V} {Q : Bool → Hp → Prop} (h : Post K W σ ι H (bOf d S) fun b _ _ H' => Q b H') (s : Sim K ι H S) (r : RepV K ι H d v) : ∃ c, v = .bl c ∧ Q c H := by
  cases d with
  | bl b => rw [RepV] at r; exact ⟨b, r, h.here s⟩
  | _ => exact (show False from h).elim
theorem dt_of_test {e : Expr} {t : TE} {f : Ev → Sto → R D} (h : PT X e (tTest t)) (i : ∀ σ H Q, rdE X.K W f σ H Q → t σ H Q) : DT X W e (eT f) := by
  refine PT.imp h fun σ H Q ⟨ι, ρ, S, hE, hS, q⟩ => i σ H _ ⟨ι, ρ, S, hE, hS, (Post.bind q).mono fun d S1 ι1 H1 G1 s1 h1 v rv => bOf_post h1 s1 rv⟩
theorem dt_cmp {a b : Expr} {op : CmpOp} {r : R2} {o : D → D → Sto → R D} {f g : Ev → Sto → R D} (ho : OpR X (compareOp op) r) (k : OpK X.K r o) (ha : DE X W a f) (hb : DE X W b g) (hm : behindInMarks op b = false) : DT X W (.Compare a [op] [b] pos) (eT (eOp o f g)) :=
  dt_of_test (pt_cmpR ho ha hb hm) (op_seq k)
/-- an expression whose value is a bool, as a test -/
theorem dt_val {e : Expr} {f : Ev → Sto → R D} (h : DE X W e f) (he : ∀ whole, isTrue e X.env whole = (do let v ← whole; standAt e.pos; holding [v] (truthy v)) := by intro _; rfl) : DT X W e (eT f) := by
  refine PT.imp (pt_val h he) fun σ H Q ⟨ι, ρ, S, hE, hS, q⟩ => ⟨ι, ρ, S, hE, hS, (Post.bind q).mono fun d S1 ι1 H1 G1 s1 h1 v rv => bOf_post h1 s1 rv⟩
def eAnd (f g : Ev → Sto → R Bool) : Ev → Sto → R Bool := fun ρ S => (f ρ S).bind fun b S1 => if b = true then g ρ S1 else .ok false S1
def eOr (f g : Ev → Sto → R Bool) : Ev → Sto → R Bool := fun ρ S => (f ρ S).bind fun b S1 => if b = true then .ok true S1 else g ρ S1
def eNot (f : Ev → Sto → R Bool) : Ev → Sto → R Bool := fun ρ S => (f ρ S).bind fun b S1 => .ok (!b) S1
def eIf (c : Ev → Sto → R Bool) (f g : Ev → Sto → R D) : Ev → Sto → R D := fun ρ S => (c ρ S).bind fun b S1 => if b = true then f ρ S1 else g ρ S1
variable {a b c : Expr} {rest : List Expr} {f g : Ev → Sto → R Bool}
theorem dw_or1 (ha : DT X W a f) : DW X W (.BoolOp .Or [a] pos) f := pw_or1 ha
theorem dw_or (ha : DT X W a f) (hb : DW X W (.BoolOp .Or (b :: rest) pos) g) : DW X W (.BoolOp .Or (a :: b :: rest) pos) (eOr f g) := by
  refine PW.imp (pw_or ha hb) fun σ H Q ⟨ι, ρ, S, hE, hS, h⟩ => ⟨ι, ρ, S, hE, hS, (Post.bind h).mono fun k S1 ι1 H1 G1 s1 h1 => ?_⟩
  cases k with
  | false => rw [if_neg (by decide)] at h1 ⊢; exact ⟨ι1, ρ, S1, hE.grow G1, s1, h1⟩
  | true => rw [if_pos rfl] at h1 ⊢; exact h1.here s1
theorem dw_t (h : DW X W a f) : DT X W a f := PW.pt h
theorem dt_not (ha : DT X W a f) : DT X W (.UnaryOp .Not a pos) (eNot f) := by
  refine PT.imp (pt_not ha) fun σ H Q ⟨ι, ρ, S, hE, hS, h⟩ => ⟨ι, ρ, S, hE, hS, (Post.bind h).mono fun k S1 ι1 H1 G1 s1 h1 => ?_⟩
  exact h1.here s1
theorem de_if {f g : Ev → Sto → R D} {t : Ev → Sto → R Bool} (hc : DT X W c t) (ha : DE X W a f) (hb : DE X W b g) : DE X W (.IfExp c a b pos) (eIf t f g) := by
  refine PE.imp (pe_ifExp hc ha hb) fun σ H Q ⟨ι, ρ, S, hE, hS, h⟩ => ⟨ι, ρ, S, hE, hS, (Post.bind h).mono fun k S1 ι1 H1 G1 s1 h1 => ?_⟩
  cases k with
  | true => rw [if_pos rfl] at h1 ⊢; exact ⟨ι1, ρ, S1, hE.grow G1, s1, h1⟩
  | false => rw [if_neg (by decide)] at h1 ⊢; exact ⟨ι1, ρ, S1, hE.grow G1, s1, h1⟩
/-- and, or, not as values: all but the last a bool -/
def eAndV (f g : Ev → Sto → R D) : Ev → Sto → R D := fun ρ S => (f ρ S).bind fun d S1 => (bOf d S1).bind fun b S2 => if b = true then g ρ S2 else .ok (.bl false) S2
def eOrV (f g : Ev → Sto → R D) : Ev → Sto → R D := fun ρ S => (f ρ S).bind fun d S1 => (bOf d S1).bind fun b S2 => if b = true then .ok (.bl true) S2 else g ρ S2
def eNotV (f : Ev → Sto → R D) : Ev → Sto → R D := fun ρ S => (f ρ S).bind fun d S1 => (bOf d S1).bind fun b S2 => .ok (.bl (!b)) S2
theorem bOf_bind {K : PySem.W.Frag} {σ : St} {ι : List Addr} {H : Hp} {d : D} {S : Sto} {v : V} {k : Bool → Sto → R D} {P : D → Sto → List Addr → Hp → Prop} (h : Post K W σ ι H ((bOf d S).bind k) P) (s : Sim K ι H S) (r : RepV K ι H d v) :
    ∃ c, v = .bl c ∧ Post K W σ ι H (k c S) P := by
  cases d with
  | bl b => rw [RepV] at r; exact ⟨b, r, h⟩
  | _ => exact (show False from h).elim
theorem de_one {op} {f : Ev → Sto → R D} (h : DE X W a f) : DE X W (.BoolOp op [a] pos) f := pe_one h
theorem de_and {f g : Ev → Sto → R D} (ha : DE X W a f) (hb : DE X W (.BoolOp .And (b :: rest) pos) g) : DE X W (.BoolOp .And (a :: b :: rest) pos) (eAndV f g) := by
  refine PE.imp (pe_and ha hb) fun σ H Q ⟨ι, ρ, S, hE, hS, h⟩ => ⟨ι, ρ, S, hE, hS, (Post.bind h).mono fun d S1 ι1 H1 G1 s1 h1 v rv => ?_⟩
  obtain ⟨k, e, h2⟩ := bOf_bind h1 s1 rv
  refine ⟨k, e, ?_⟩
  cases k with
  | true => rw [if_pos rfl] at h2 ⊢; exact ⟨ι1, ρ, S1, hE.grow G1, s1, h2⟩
  | false => rw [if_neg (by decide)] at h2 ⊢; exact h2.here s1 _ (by rw [RepV])
theorem de_not {f : Ev → Sto → R D} (ha : DE X W a f) : DE X W (.UnaryOp .Not a pos) (eNotV f) := by
  refine PE.imp (pe_not ha) fun σ H Q ⟨ι, ρ, S, hE, hS, h⟩ => ⟨ι, ρ, S, hE, hS, (Post.bind h).mono fun d S1 ι1 H1 G1 s1 h1 v rv => ?_⟩
  obtain ⟨k, e, h2⟩ := bOf_bind h1 s1 rv
  exact ⟨k, e, h2.here s1 _ (by rw [RepV])⟩
end
end DL
namespace DL
open PySem PySem.Spec L2
open PyProof.Rows hiding St
theorem OpR.or {X : Cx} {f : Value → Value → Sem Value} {r r' : R2} (h : OpR X f r) (h' : OpR X f r') : OpR X f (fun x y H Q => r x y H Q ∨ r' x y H Q) := by
  intro pins s σ H x y v u Q I rx ry q
  rcases q with q | q
  · exact h pins s σ H x y v u Q I rx ry q
  · exact h' pins s σ H x y v u Q I rx ry q
/-- a new tuple, a new list that is not changed any more -/
theorem rep_tup {K : PySem.W.Frag} {ι : List Addr} {H : Hp} {S : Sto} {ds : List D} {vs : List V} {p : Addr} (s : Sim K ι H S) (h : H p = none) (r : RepL K ι H ds vs) : RepV K ι (upd H p (.tup vs)) (.tup ds) (.ref p) := by
  rw [RepV]
  exact ⟨p, vs, rfl, .inl ⟨s.free h, upd_same⟩, RepL.grow (Grow.upd h) ds vs r⟩
theorem rep_fl {K : PySem.W.Frag} {ι : List Addr} {H : Hp} {S : Sto} {ds : List D} {vs : List V} {p : Addr} (s : Sim K ι H S) (h : H p = none) (r : RepL K ι H ds vs) : RepV K ι (upd H p (.lst vs)) (.fl ds) (.ref p) := by
  rw [RepV]
  exact ⟨p, vs, rfl, ⟨s.free h, upd_same⟩, RepL.grow (Grow.upd h) ds vs r⟩
theorem new_tup {K : PySem.W.Frag} {W : WX} {σ : St} {ι : List Addr} {H : Hp} {S : Sto} {ds : List D} {vs : List V} {Q : VK} (h : Post K W σ ι H (.ok (.tup ds) S) fun d _ ι' H' => ∀ v, RepV K ι' H' d v → Q v H') (s : Sim K ι H S) (r : RepL K ι H ds vs) :
    ∀ p, H p = none → Q (.ref p) (upd H p (.tup vs)) := fun p hp => h ι _ (Grow.upd hp) (s.upd hp) _ (rep_tup s hp r)
theorem new_fl {K : PySem.W.Frag} {W : WX} {σ : St} {ι : List Addr} {H : Hp} {S : Sto} {ds : List D} {vs : List V} {Q : VK} (h : Post K W σ ι H (.ok (.fl ds) S) fun d _ ι' H' => ∀ v, RepV K ι' H' d v → Q v H') (s : Sim K ι H S) (r : RepL K ι H ds vs) :
    ∀ p, H p = none → Q (.ref p) (upd H p (.lst vs)) := fun p hp => h ι _ (Grow.upd hp) (s.upd hp) _ (rep_fl s hp r)
theorem new_loc {K : PySem.W.Frag} {W : WX} {σ : St} {ι : List Addr} {H : Hp} {S : Sto} {ds : List D} {vs : List V} {Q : VK} (h : Post K W σ ι H (.ok (.loc S.length) (S ++ [.lst ds])) fun d _ ι' H' => ∀ v, RepV K ι' H' d v → Q v H') (s : Sim K ι H S) (r : RepL K ι H ds vs) :
    ∀ p, H p = none → Q (.ref p) (upd H p (.lst vs)) := fun p hp => by
  refine h (ι ++ [p]) _ (Grow.push hp) (s.push hp ⟨vs, upd_same, RepL.grow (Grow.push hp) ds vs r⟩) _ ?_
  rw [RepV]
  exact ⟨p, by rw [← s.len]; simp, rfl⟩
def getL (S : Sto) (n : Nat) : Option (List D) := match S[n]? with
  | some (.lst ds) => some ds
  | _ => none
def getQ (S : Sto) (n : Nat) : Option (List D) := match S[n]? with
  | some (.lst ds) => some ds
  | some (.scr ds) => some ds
  | _ => none
def lstOf (S : Sto) : D → Option (List D)
  | .fl ds => some ds
  | .loc n => getL S n
  | _ => none
def seqOf (S : Sto) : D → Option (List D)
  | .tup ds => some ds
  | .fl ds => some ds
  | .kl ds => some ds
  | .loc n => getQ S n
  | _ => none
theorem getL_some {S : Sto} {n : Nat} {ds : List D} (h : getL S n = some ds) : S[n]? = some (.lst ds) := by
  unfold getL at h
  (try unfold ifp at h); split at h
  · rename_i e; cases h; exact e
  · cases h
theorem getL_of {S : Sto} {n : Nat} {ds : List D} (h : S[n]? = some (.lst ds)) : getL S n = some ds := by unfold getL; rw [h]
theorem getQ_of {S : Sto} {n : Nat} {ds : List D} (h : S[n]? = some (.lst ds)) : getQ S n = some ds := by unfold getQ; rw [h]
theorem lst_at {K : PySem.W.Frag} {ι : List Addr} {H : Hp} {S : Sto} {d : D} {x : V} {ds : List D} (s : Sim K ι H S) (r : RepV K ι H d x) (e : lstOf S d = some ds) : ∃ p vs, x = .ref p ∧ H p = some (.lst vs) ∧ RepL K ι H ds vs := by
  cases d with
  | fl xs => cases e; rw [RepV] at r; obtain ⟨a, vs, rfl, t, q⟩ := r; exact ⟨a, vs, rfl, t.2, q⟩
  | loc n =>
    rw [RepV] at r
    obtain ⟨a, ea, rfl⟩ := r
    obtain ⟨vs, h1, h2⟩ := s.ob _ _ _ ea (getL_some e)
    exact ⟨a, vs, rfl, h1, h2⟩
  | _ => cases e
theorem seq_at {K : PySem.W.Frag} {ι : List Addr} {H : Hp} {S : Sto} {d : D} {x : V} {ds : List D} (s : Sim K ι H S) (r : RepV K ι H d x) (e : seqOf S d = some ds) : ∃ p vs, x = .ref p ∧ (SqL K H p vs ∨ SqT K H p vs) ∧ RepL K ι H ds vs := by
  cases d with
  | tup xs => cases e; rw [RepV] at r; obtain ⟨a, vs, rfl, t, q⟩ := r; exact ⟨a, vs, rfl, .inr t.sq, q⟩
  | fl xs => cases e; rw [RepV] at r; obtain ⟨a, vs, rfl, t, q⟩ := r; exact ⟨a, vs, rfl, .inl t.sq, q⟩
  | kl xs => cases e; rw [RepV] at r; obtain ⟨a, vs, rfl, t, q⟩ := r; exact ⟨a, vs, rfl, .inl t.sq, q⟩
  | loc n =>
    rw [RepV] at r
    obtain ⟨a, ea, rfl⟩ := r
    have e : getQ S n = some ds := e
    unfold getQ at e
    (try unfold ifp at e); split at e
    · rename_i q; cases e
      obtain ⟨vs, h1, h2⟩ := s.ob _ _ _ ea q
      exact ⟨a, vs, rfl, .inl (SqL.of h1), h2⟩
    · rename_i q; cases e
      obtain ⟨o, vs, h1, h2⟩ := s.ob _ _ _ ea q
      exact ⟨a, vs, rfl, .inl (.inl (.inr ⟨o, h1⟩)), h2⟩
    · cases e
  | _ => cases e
theorem tup_at {K : PySem.W.Frag} {ι : List Addr} {H : Hp} {ds : List D} {x : V} (r : RepV K ι H (.tup ds) x) : ∃ p vs, x = .ref p ∧ SqT K H p vs ∧ RepL K ι H ds vs := by
  rw [RepV] at r; obtain ⟨a, vs, rfl, t, q⟩ := r; exact ⟨a, vs, rfl, t.sq, q⟩
theorem int_at {K : PySem.W.Frag} {ι : List Addr} {H : Hp} {i : Int} {x : V} (r : RepV K ι H (.int i) x) : x = .int i := by rw [RepV] at r; exact r
theorem str_at {K : PySem.W.Frag} {ι : List Addr} {H : Hp} {i : Str} {x : V} (r : RepV K ι H (.str i) x) : x = .str i := by rw [RepV] at r; exact r
theorem int_rep {K : PySem.W.Frag} {ι : List Addr} {H : Hp} {i : Int} : RepV K ι H (.int i) (.int i) := by rw [RepV]
theorem bl_rep {K : PySem.W.Frag} {ι : List Addr} {H : Hp} {i : Bool} : RepV K ι H (.bl i) (.bl i) := by rw [RepV]
theorem str_rep {K : PySem.W.Frag} {ι : List Addr} {H : Hp} {i : Str} : RepV K ι H (.str i) (.str i) := by rw [RepV]
theorem non_rep {K : PySem.W.Frag} {ι : List Addr} {H : Hp} : RepV K ι H .non .non := by rw [RepV]
theorem rep_nil {K : PySem.W.Frag} {ι : List Addr} {H : Hp} {ds : List D} (h : RepL K ι H ds []) : ds = [] := by
  cases ds with
  | nil => rfl
  | cons d ds => rw [RepL] at h; obtain ⟨v, r, e, _⟩ := h; cases e
noncomputable def dAdd (a b : D) (S : Sto) : R D := match a, b with
  | .int i, .int j => .ok (.int (i + j)) S
  | .str x, .str y => ifp (x.length + y.length ≤ sizeLine) (.ok (.str (x ++ y)) S) .stuck
  | .tup xs, .tup ys => ifp (xs.length + ys.length ≤ sizeLine) (.ok (.tup (xs ++ ys)) S) .stuck
  | a, b => match lstOf S a, lstOf S b with
    | some xs, some ys => ifp (xs.length + ys.length ≤ sizeLine) (.ok (.fl (xs ++ ys)) S) .stuck
    | _, _ => .stuck
def dSub (a b : D) (S : Sto) : R D := match a, b with
  | .int i, .int j => .ok (.int (i - j)) S
  | _, _ => .stuck
open Classical in
noncomputable def dMul (a b : D) (S : Sto) : R D := match a, b with
  | .int i, .int j => ifp (CMul i j ∨ CMulW i j) (.ok (.int (i * j)) S) .stuck
  | a, .int k => match lstOf S a with
    | some xs => ifp (-(2 ^ 63) ≤ k ∧ k < 2 ^ 63 ∧ xs.length * k.toNat ≤ sizeLine) (.ok (.fl (List.replicate k.toNat xs).flatten) S) .stuck
    | _ => .stuck
  | _, _ => .stuck
noncomputable def dFdiv (a b : D) (S : Sto) : R D := match a, b with
  | .int i, .int j => ifp (0 < j ∧ j.natAbs.log2 < 9000) (.ok (.int (i / j)) S) .stuck
  | _, _ => .stuck
def dMod (a b : D) (S : Sto) : R D := match a, b with
  | .int i, .int j => if 0 < j then .ok (.int (i % j)) S else .stuck
  | _, _ => .stuck
noncomputable def dPow (a b : D) (S : Sto) : R D := match a, b with
  | .int i, .int j => ifp (0 ≤ j ∧ j ≤ 1000000 ∧ i.natAbs < 2 ^ 64) (.ok (.int (i ^ j.toNat)) S) .stuck
  | _, _ => .stuck
def dCmp (p : Int → Int → Bool) (a b : D) (S : Sto) : R D := match a, b with
  | .int i, .int j => .ok (.bl (p i j)) S
  | _, _ => .stuck
section
variable {X : Cx} {K : PySem.W.Frag}
def rAddD (K : PySem.W.Frag) : R2 := fun x y H Q => (∃ i j, x = .int i ∧ y = .int j ∧ Q (.int (i + j)) H) ∨ (∃ i j, x = .str i ∧ y = .str j ∧ i.length + j.length ≤ sizeLine ∧ Q (.str (i ++ j)) H) ∨ rCatA K x y H Q ∨ rCat x y H Q
theorem or_add : OpR X (binaryOp .Add) (rAddD X.K) := OpR.or op_add (OpR.or op_add_str (OpR.or op_catA op_cat))
theorem RepL.replicate {K : PySem.W.Frag} {ι : List Addr} {H : Hp} {ds : List D} {vs : List V} (h : RepL K ι H ds vs) : ∀ n : Nat, RepL K ι H (List.replicate n ds).flatten (List.replicate n vs).flatten
  | 0 => RepL.nil
  | n + 1 => by
    rw [List.replicate_succ, List.replicate_succ, List.flatten_cons, List.flatten_cons]
    exact RepL.app ds vs h _ _ (RepL.replicate h n)
theorem k_cat {W : WX} {σ : St} {ι : List Addr} {H : Hp} {S : Sto} {a b : D} {x y : V} {Q : VK} (s : Sim K ι H S) (rx : RepV K ι H a x) (ry : RepV K ι H b y)
    (h : Post K W σ ι H (match lstOf S a, lstOf S b with
    | some xs, some ys => ifp (xs.length + ys.length ≤ sizeLine) (.ok (.fl (xs ++ ys)) S) .stuck
    | _, _ => .stuck) fun d _ ι' H' => ∀ v, RepV K ι' H' d v → Q v H') : rCat x y H Q := by
  (try unfold ifp at h); split at h
  · rename_i xs ys e1 e2
    (try unfold ifp at h); split at h
    · rename_i hl
      obtain ⟨p, vs, rfl, hp, rp⟩ := lst_at s rx e1
      obtain ⟨q, us, rfl, hq, rq⟩ := lst_at s ry e2
      refine ⟨p, q, vs, us, rfl, rfl, hp, hq, ?_, new_fl h s (RepL.app _ _ rp _ _ rq)⟩
      rw [← RepL.length _ _ rp, ← RepL.length _ _ rq]; exact hl
    · exact h.elim
  · exact h.elim
theorem k_add : OpK K (rAddD K) dAdd := by
  intro W σ ι H S x y a b Q s rx ry h
  unfold dAdd at h
  (try unfold ifp at h); split at h
  · rename_i i j
    exact .inl ⟨i, j, int_at rx, int_at ry, h.here s _ int_rep⟩
  · rename_i i j
    (try unfold ifp at h); split at h
    · rename_i hl
      exact .inr (.inl ⟨i, j, str_at rx, str_at ry, hl, h.here s _ str_rep⟩)
    · exact h.elim
  · rename_i xs ys
    (try unfold ifp at h); split at h
    · rename_i hl
      obtain ⟨p, vs, rfl, hp, rp⟩ := tup_at rx
      obtain ⟨q, us, rfl, hq, rq⟩ := tup_at ry
      refine .inr (.inr (.inl ⟨p, q, vs, us, rfl, rfl, hp, hq, ?_, fun e => ?_, fun e1 e => ?_, fun _ _ => new_tup h s (RepL.app _ _ rp _ _ rq)⟩))
      · rw [← RepL.length _ _ rp, ← RepL.length _ _ rq]; exact hl
      · subst e
        have := rep_nil rp
        subst this
        exact h.here s _ (by simpa using ry)
      · subst e
        have := rep_nil rq
        subst this
        exact h.here s _ (by simpa using rx)
    · exact h.elim
  · exact .inr (.inr (.inr (k_cat s rx ry h)))
theorem k_sub : OpK K (rI0 fun i j => .int (i - j)) dSub := by
  intro W σ ι H S x y a b Q s rx ry h
  unfold dSub at h
  (try unfold ifp at h); split at h
  · rename_i i j
    exact ⟨i, j, int_at rx, int_at ry, h.here s _ int_rep⟩
  · exact h.elim
def rMulD : R2 := fun x y H Q => rI CMul (fun i j => .int (i * j)) x y H Q ∨ rI CMulW (fun i j => .int (i * j)) x y H Q ∨ rRep x y H Q
theorem or_mul : OpR X (binaryOp .Mult) rMulD := OpR.or op_mul (OpR.or op_mulW op_rep)
theorem k_mul : OpK K rMulD dMul := by
  intro W σ ι H S x y a b Q s rx ry h
  unfold dMul at h
  (try unfold ifp at h); split at h
  · rename_i i j
    (try unfold ifp at h); split at h
    · rename_i hl
      rcases hl with hl | hl
      · exact .inl ⟨i, j, int_at rx, int_at ry, hl, h.here s _ int_rep⟩
      · exact .inr (.inl ⟨i, j, int_at rx, int_at ry, hl, h.here s _ int_rep⟩)
    · exact h.elim
  · rename_i k _
    (try unfold ifp at h); split at h
    · rename_i xs e
      (try unfold ifp at h); split at h
      · rename_i hl
        obtain ⟨p, vs, rfl, hp, rp⟩ := lst_at s rx e
        refine .inr (.inr ⟨p, k, vs, rfl, int_at ry, hp, hl.1, hl.2.1, ?_, new_fl h s (RepL.replicate rp _)⟩)
        rw [← RepL.length _ _ rp]; exact hl.2.2
      · exact h.elim
    · exact h.elim
  · exact h.elim
theorem k_fdiv : OpK K (rI CDivW fun i j => .int (i / j)) dFdiv := by
  intro W σ ι H S x y a b Q s rx ry h
  unfold dFdiv at h
  (try unfold ifp at h); split at h
  · rename_i i j
    (try unfold ifp at h); split at h
    · rename_i hl
      exact ⟨i, j, int_at rx, int_at ry, hl, h.here s _ int_rep⟩
    · exact h.elim
  · exact h.elim
theorem k_mod : OpK K (rI (fun _ j => j ≠ 0) fun i j => .int (i.fmod j)) dMod := by
  intro W σ ι H S x y a b Q s rx ry h
  unfold dMod at h
  (try unfold ifp at h); split at h
  · rename_i i j
    (try unfold ifp at h); split at h
    · rename_i hl
      refine ⟨i, j, int_at rx, int_at ry, by omega, ?_⟩
      show Q (V.int (i.fmod j)) H
      rw [Int.fmod_eq_emod_of_nonneg i (by omega)]
      exact h.here s _ int_rep
    · exact h.elim
  · exact h.elim
theorem k_pow : OpK K (rI CPow fun i j => .int (i ^ j.toNat)) dPow := by
  intro W σ ι H S x y a b Q s rx ry h
  unfold dPow at h
  (try unfold ifp at h); split at h
  · rename_i i j
    (try unfold ifp at h); split at h
    · rename_i hl
      exact ⟨i, j, int_at rx, int_at ry, hl, h.here s _ int_rep⟩
    · exact h.elim
  · exact h.elim
theorem k_cmp {p : Int → Int → Bool} : OpK K (rI0 fun i j => .bl (p i j)) (dCmp p) := by
  intro W σ ι H S x y a b Q s rx ry h
  unfold dCmp at h
  (try unfold ifp at h); split at h
  · rename_i i j
    exact ⟨i, j, int_at rx, int_at ry, h.here s _ bl_rep⟩
  · exact h.elim
def dLt : D → D → Sto → R D := dCmp fun i j => decide (i < j)
def dLe : D → D → Sto → R D := dCmp fun i j => decide (i ≤ j)
def dGt : D → D → Sto → R D := dCmp fun i j => decide (j < i)
def dGe : D → D → Sto → R D := dCmp fun i j => decide (j ≤ i)
end
end DL
namespace DL
open PySem PySem.Spec L2
open PyProof.Rows hiding St
section
variable {X : Cx} {W : WX} {pos : Pos} {e : Expr} {es : List Expr}
def aNil : Ev → Sto → R (List D) := fun _ S => .ok [] S
def aCons (f : Ev → Sto → R D) (g : Ev → Sto → R (List D)) : Ev → Sto → R (List D) := fun ρ S => (f ρ S).bind fun d S1 => (g ρ S1).bind fun ds S2 => .ok (d :: ds) S2
def sOf (d : D) (S : Sto) : R (List D) := match seqOf S d with
  | some ds => .ok ds S
  | none => .stuck
def aStar (f : Ev → Sto → R D) (g : Ev → Sto → R (List D)) : Ev → Sto → R (List D) := fun ρ S => (f ρ S).bind fun d S1 => (sOf d S1).bind fun xs S2 => (g ρ S2).bind fun ds S3 => .ok (xs ++ ds) S3
theorem da_nil : DA X W [] aNil := PA.imp pa_nil fun σ H Q ⟨ι, ρ, S, hE, hS, h⟩ => h.here hS [] RepL.nil
theorem da_cons {f : Ev → Sto → R D} {g : Ev → Sto → R (List D)} (ha : DE X W e f) (hr : DA X W es g) (hs : starEach (e :: es) X.env = (false, eval e X.env) :: starEach es X.env := by rfl) : DA X W (e :: es) (aCons f g) := by
  refine PA.imp (pa_cons ha hr hs) fun σ H Q ⟨ι, ρ, S, hE, hS, h⟩ => ⟨ι, ρ, S, hE, hS, (Post.bind h).mono fun d S1 ι1 H1 G1 s1 h1 v rv => ?_⟩
  refine ⟨ι1, ρ, S1, hE.grow G1, s1, (Post.bind h1).mono fun ds S2 ι2 H2 G2 s2 h2 vs rs => ?_⟩
  exact h2.here s2 _ (RepL.cons (RepV.grow G2 d v rv) rs)
theorem sOf_bind {α : Type} {K : PySem.W.Frag} {σ : St} {ι : List Addr} {H : Hp} {d : D} {S : Sto} {v : V} {k : List D → Sto → R α} {P : α → Sto → List Addr → Hp → Prop} (h : Post K W σ ι H ((sOf d S).bind k) P) (s : Sim K ι H S) (r : RepV K ι H d v) :
    ∃ ds p vs, v = .ref p ∧ (SqL K H p vs ∨ SqT K H p vs) ∧ RepL K ι H ds vs ∧ Post K W σ ι H (k ds S) P := by
  unfold sOf at h
  cases e : seqOf S d with
  | none => rw [e] at h; exact h.elim
  | some ds =>
    rw [e] at h
    obtain ⟨p, vs, rfl, q, rl⟩ := seq_at s r e
    exact ⟨ds, p, vs, rfl, q, rl, h⟩
theorem da_star {p : Pos} {f : Ev → Sto → R D} {g : Ev → Sto → R (List D)} (ha : DE X W e f) (hr : DA X W es g) (hs : starEach (.Starred e p :: es) X.env = (true, eval e X.env) :: starEach es X.env := by rfl) : DA X W (.Starred e p :: es) (aStar f g) := by
  refine PA.imp (StX.pa_star ha hr hs) fun σ H Q ⟨ι, ρ, S, hE, hS, h⟩ => ⟨ι, ρ, S, hE, hS, (Post.bind h).mono fun d S1 ι1 H1 G1 s1 h1 v rv => ?_⟩
  obtain ⟨ds, p, vs, rfl, q, rl, h2⟩ := sOf_bind h1 s1 rv
  refine ⟨p, vs, rfl, q.symm, ι1, ρ, S1, hE.grow G1, s1, (Post.bind h2).mono fun es S2 ι2 H2 G2 s2 h2 us rs => ?_⟩
  exact h2.here s2 _ (RepL.app _ _ (RepL.grow G2 _ _ rl) _ _ rs)
noncomputable def eTup (g : Ev → Sto → R (List D)) : Ev → Sto → R D := fun ρ S => (g ρ S).bind fun ds S1 => ifp (ds.length ≤ sizeLine) (.ok (.tup ds) S1) .stuck
noncomputable def eFl (g : Ev → Sto → R (List D)) : Ev → Sto → R D := fun ρ S => (g ρ S).bind fun ds S1 => ifp (ds.length ≤ sizeLine) (.ok (.fl ds) S1) .stuck
noncomputable def eLoc (g : Ev → Sto → R (List D)) : Ev → Sto → R D := fun ρ S => (g ρ S).bind fun ds S1 => ifp (ds.length ≤ sizeLine) (.ok (.loc S1.length) (S1 ++ [.lst ds])) .stuck
theorem de_tup {k} {g : Ev → Sto → R (List D)} (h : DA X W es g) : DE X W (.Tuple es k pos) (eTup g) := by
  refine PE.imp (pe_tup h) fun σ H Q ⟨ι, ρ, S, hE, hS, h⟩ => ⟨ι, ρ, S, hE, hS, (Post.bind h).mono fun ds S1 ι1 H1 G1 s1 h1 vs rs => ?_⟩
  (try unfold ifp at h1); split at h1
  · rename_i hl
    exact ⟨by rw [← RepL.length _ _ rs]; exact hl, new_tup h1 s1 rs⟩
  · exact h1.elim
theorem de_fl {g : Ev → Sto → R (List D)} (h : DA X W es g) : DE X W (.List es pos) (eFl g) := by
  refine PE.imp (pe_lst h) fun σ H Q ⟨ι, ρ, S, hE, hS, h⟩ => ⟨ι, ρ, S, hE, hS, (Post.bind h).mono fun ds S1 ι1 H1 G1 s1 h1 vs rs => ?_⟩
  (try unfold ifp at h1); split at h1
  · rename_i hl
    exact ⟨by rw [← RepL.length _ _ rs]; exact hl, new_fl h1 s1 rs⟩
  · exact h1.elim
theorem de_loc {g : Ev → Sto → R (List D)} (h : DA X W es g) : DE X W (.List es pos) (eLoc g) := by
  refine PE.imp (pe_lst h) fun σ H Q ⟨ι, ρ, S, hE, hS, h⟩ => ⟨ι, ρ, S, hE, hS, (Post.bind h).mono fun ds S1 ι1 H1 G1 s1 h1 vs rs => ?_⟩
  (try unfold ifp at h1); split at h1
  · rename_i hl
    exact ⟨by rw [← RepL.length _ _ rs]; exact hl, new_loc h1 s1 rs⟩
  · exact h1.elim
noncomputable def dIx (a b : D) (S : Sto) : R D := match a, b with
  | .str z, .int i => ifp (z.length ≤ sizeLine) (match atI z.cps.toList i with
    | some c => .ok (.str ⟨#[c]⟩) S
    | none => .stuck) .stuck
  | a, .int i => match seqOf S a with
    | some xs => (match atI xs i with
      | some d => .ok d S
      | none => .stuck)
    | none => .stuck
  | _, _ => .stuck
theorem atI_rep {K : PySem.W.Frag} {ι : List Addr} {H : Hp} {ds : List D} {vs : List V} {i : Int} {d : D} (r : RepL K ι H ds vs) (e : atI ds i = some d) : ∃ v, atI vs i = some v ∧ RepV K ι H d v := by
  unfold atI at e ⊢
  rw [← RepL.length _ _ r]
  cases h : ixN ds.length i with
  | none => rw [h] at e; cases e
  | some j =>
    rw [h] at e
    exact RepL.get _ _ r j d e
theorem k_ix {K : PySem.W.Frag} : OpK K (rIx K) dIx := by
  intro W σ ι H S x y a b Q s rx ry h
  unfold dIx at h
  (try unfold ifp at h); split at h
  · rename_i z i
    (try unfold ifp at h); split at h
    · rename_i hz
      (try unfold ifp at h); split at h
      · rename_i c hc
        exact .inr (.inr ⟨z, i, c, str_at rx, int_at ry, hz, hc, h.here s _ str_rep⟩)
      · exact h.elim
    · exact h.elim
  · rename_i i _
    (try unfold ifp at h); split at h
    · rename_i xs e
      (try unfold ifp at h); split at h
      · rename_i d hd
        obtain ⟨p, vs, rfl, q, rl⟩ := seq_at s rx e
        obtain ⟨v, hv, rv⟩ := atI_rep rl hd
        rcases q with q | q
        · exact .inl ⟨p, vs, i, v, rfl, int_at ry, q, hv, h.here s _ rv⟩
        · exact .inr (.inl ⟨p, vs, i, v, rfl, int_at ry, q, hv, h.here s _ rv⟩)
      · exact h.elim
    · exact h.elim
  · exact h.elim
theorem de_ix {a b : Expr} {f g : Ev → Sto → R D} (ha : DE X W a f) (hb : DE X W b g) (hs : PlainIx b := by exact fun _ _ => rfl) : DE X W (.Subscript a b pos) (eOp dIx f g) :=
  PE.imp (pe_ix ix_seq ha hb hs) (op_seq k_ix)
def rdO (K : PySem.W.Frag) (W : WX) (f : Ev → Sto → R (Option Int)) : TO := fun σ H Q => ∃ ι ρ S, RepE K ι H σ ρ ∧ Sim K ι H S ∧ Post K W σ ι H (f ρ S) fun b _ _ H' => Q b H'
abbrev DO (X : Cx) (W : WX) (e : Option Expr) (f : Ev → Sto → R (Option Int)) : Prop := PO X e (rdO X.K W f)
theorem PO.imp {X : Cx} {e : Option Expr} {t u : TO} (h : PO X e t) (i : ∀ σ H Q, u σ H Q → t σ H Q) : PO X e u := ⟨fun pins s σ H Q I q => h.run pins s σ H Q I (i σ H Q q)⟩
def oNone : Ev → Sto → R (Option Int) := fun _ S => .ok none S
def iOf (d : D) (S : Sto) : R Int := match d with
  | .int i => .ok i S
  | _ => .stuck
def oSome (f : Ev → Sto → R D) : Ev → Sto → R (Option Int) := fun ρ S => (f ρ S).bind fun d S1 => (iOf d S1).bind fun i S2 => .ok (some i) S2
theorem do_none : DO X W none oNone := PO.imp po_none fun σ H Q ⟨ι, ρ, S, hE, hS, h⟩ => h.here hS
theorem do_some {f : Ev → Sto → R D} (h : DE X W e f) : DO X W (some e) (oSome f) := by
  refine PO.imp (po_some h) fun σ H Q ⟨ι, ρ, S, hE, hS, h⟩ => ⟨ι, ρ, S, hE, hS, (Post.bind h).mono fun d S1 ι1 H1 G1 s1 h1 v rv => ?_⟩
  cases d with
  | int i => exact ⟨i, int_at rv, h1.here s1⟩
  | _ => exact (show False from h1).elim
def cut {α : Type} (xs : List α) (lo hi : Option Int) : List α := (xs.drop (HT.sIx xs.length 0 lo)).take (HT.sIx xs.length xs.length hi - HT.sIx xs.length 0 lo)
noncomputable def dSl (mk : List D → Sto → R D) (a : D) (lo hi : Option Int) (S : Sto) : R D := match a with
  | .str z => ifp (z.length ≤ sizeLine) (.ok (.str (cutS z lo hi)) S) .stuck
  | .tup xs => .ok (.tup (cut xs lo hi)) S
  | a => match lstOf S a with
    | some xs => mk (cut xs lo hi) S
    | none => .stuck
def mkFl (ds : List D) (S : Sto) : R D := .ok (.fl ds) S
def mkLoc (ds : List D) (S : Sto) : R D := .ok (.loc S.length) (S ++ [.lst ds])
/-- a new list comes, frozen or into the store -/
def MkOk (mk : List D → Sto → R D) : Prop := ∀ (K : PySem.W.Frag) (W : WX) (σ : St) (ι : List Addr) (H : Hp) (S : Sto) (ds : List D) (vs : List V) (Q : VK), Post K W σ ι H (mk ds S) (fun d _ ι' H' => ∀ v, RepV K ι' H' d v → Q v H') → Sim K ι H S → RepL K ι H ds vs →
  ∀ p, H p = none → Q (.ref p) (upd H p (.lst vs))
theorem mk_fl : MkOk mkFl := fun _ _ _ _ _ _ _ _ _ h s r => new_fl h s r
noncomputable def eSl (mk : List D → Sto → R D) (f : Ev → Sto → R D) (l u : Ev → Sto → R (Option Int)) : Ev → Sto → R D := fun ρ S => (f ρ S).bind fun d S1 => (l ρ S1).bind fun lo S2 => (u ρ S2).bind fun hi S3 => dSl mk d lo hi S3
theorem cut_rep {K : PySem.W.Frag} {ι : List Addr} {H : Hp} {ds : List D} {vs : List V} (r : RepL K ι H ds vs) (lo hi : Option Int) : RepL K ι H (cut ds lo hi) (cutV vs lo hi) := by
  unfold cut cutV
  rw [← RepL.length _ _ r]
  exact RepL.take _ _ _ (RepL.drop _ _ _ r)
theorem cut_whole {α : Type} (xs : List α) (lo hi : Option Int) (h : HT.sIx xs.length 0 lo = 0 ∧ HT.sIx xs.length xs.length hi = xs.length) : cut xs lo hi = xs := by
  unfold cut
  rw [h.1, h.2]
  simp
theorem de_sl {mk : List D → Sto → R D} {lo hi : Option Expr} {p2 : Pos} {f : Ev → Sto → R D} {l u : Ev → Sto → R (Option Int)} (m : MkOk mk) (he : DE X W e f) (hl : DO X W lo l) (hu : DO X W hi u) : DE X W (.Subscript e (.Slice lo hi none p2) pos) (eSl mk f l u) := by
  refine PE.imp (pe_slice (SlR.or sl_str (SlR.or sl_tupA sl_list)) he hl hu) fun σ H Q ⟨ι, ρ, S, hE, hS, h⟩ => ⟨ι, ρ, S, hE, hS, (Post.bind h).mono fun d S1 ι1 H1 G1 s1 h1 v rv => ?_⟩
  refine ⟨ι1, ρ, S1, hE.grow G1, s1, (Post.bind h1).mono fun lo S2 ι2 H2 G2 s2 h2 => ?_⟩
  refine ⟨ι2, ρ, S2, (hE.grow G1).grow G2, s2, (Post.bind h2).mono fun hi S3 ι3 H3 G3 s3 h3 => ?_⟩
  have rv := RepV.grow G3 d v (RepV.grow G2 d v rv)
  unfold dSl at h3
  (try unfold ifp at h3); split at h3
  · (try unfold ifp at h3); split at h3
    · rename_i hz
      exact .inl ⟨_, str_at rv, hz, h3.here s3 _ str_rep⟩
    · exact h3.elim
  · obtain ⟨p, vs, rfl, q, rl⟩ := tup_at rv
    refine .inr (.inl ⟨p, vs, rfl, q, fun e => ?_, fun _ => new_tup h3 s3 (cut_rep rl _ _)⟩)
    rw [← RepL.length _ _ rl] at e
    rw [cut_whole _ _ _ e] at h3
    exact h3.here s3 _ rv
  · (try unfold ifp at h3); split at h3
    · rename_i xs e
      obtain ⟨p, vs, rfl, q, rl⟩ := lst_at s3 rv e
      exact .inr (.inr ⟨p, vs, rfl, SqL.of q, m _ _ _ _ _ _ _ _ _ h3 s3 (cut_rep rl _ _)⟩)
    · exact h3.elim
end
end DL
namespace DL
open PySem PySem.Spec L2
open PyProof.Rows hiding St
def keyPy : Key → PyData
  | .inl i => .int i
  | .inr x => .str x
mutual
def py : D → Option PyData
  | .non => some .none
  | .bl b => some (.bool b)
  | .int i => some (.int i)
  | .str x => some (.str x)
  | .tup ds => (pyL ds).map .tuple
  | .fl ds => (pyL ds).map .list
  | .kl _ => none
  | .ktp _ => none
  | .ztp _ => none
  | .fd kvs => (pyK kvs).map .dict
  | .ty _ => none
  | .fn _ => none
  | .exc _ _ => none
  | .loc _ => none
def pyL : List D → Option (List PyData)
  | [] => some []
  | d :: ds => (py d).bind fun p => (pyL ds).map fun ps => p :: ps
def pyK : List (Key × D) → Option (List (PyData × PyData))
  | [] => some []
  | (k, d) :: ds => (py d).bind fun p => (pyK ds).map fun ps => (keyPy k, p) :: ps
end
def pyS (S : Sto) : D → Option PyData
  | .loc n => (getQ S n).bind fun ds => (pyL ds).map .list
  | d => py d
mutual
theorem py_dp {K : PySem.W.Frag} {ι : List Addr} {H : Hp} : ∀ (d : D) (v : V) (p : PyData), RepV K ι H d v → py d = some p → p.hasDict = false → Dp K H v p
  | .non, v, p, r, e, _ => by rw [RepV] at r; rw [py] at e; cases e; subst r; exact .non
  | .bl b, v, p, r, e, _ => by rw [RepV] at r; rw [py] at e; cases e; subst r; exact .bl b
  | .int i, v, p, r, e, _ => by rw [RepV] at r; rw [py] at e; cases e; subst r; exact .int i
  | .str x, v, p, r, e, _ => by rw [RepV] at r; rw [py] at e; cases e; subst r; exact .str x
  | .tup ds, v, p, r, e, n => by
    rw [RepV] at r
    obtain ⟨a, vs, rfl, t, q⟩ := r
    rw [py] at e
    cases h : pyL ds with
    | none => rw [h] at e; cases e
    | some ps =>
      rw [h] at e; cases e
      exact .tup t.sq (pyL_dp ds vs ps q h (by simpa [PyData.hasDict] using n))
  | .fl ds, v, p, r, e, n => by
    rw [RepV] at r
    obtain ⟨a, vs, rfl, t, q⟩ := r
    rw [py] at e
    cases h : pyL ds with
    | none => rw [h] at e; cases e
    | some ps =>
      rw [h] at e; cases e
      exact .lst t.sq (pyL_dp ds vs ps q h (by simpa [PyData.hasDict] using n))
  | .kl _, v, p, r, e, _ => by rw [py] at e; cases e
  | .ktp _, v, p, r, e, _ => by rw [py] at e; cases e
  | .ztp _, v, p, r, e, _ => by rw [py] at e; cases e
  | .fd kvs, v, p, r, e, n => by
    rw [py] at e
    cases h : pyK kvs with
    | none => rw [h] at e; cases e
    | some ps => rw [h] at e; cases e; simp [PyData.hasDict] at n
  | .ty _, v, p, r, e, _ => by rw [py] at e; cases e
  | .fn _, v, p, r, e, _ => by rw [py] at e; cases e
  | .exc _ _, v, p, r, e, _ => by rw [py] at e; cases e
  | .loc _, v, p, r, e, _ => by rw [py] at e; cases e
theorem pyL_dp {K : PySem.W.Frag} {ι : List Addr} {H : Hp} : ∀ (ds : List D) (vs : List V) (ps : List PyData), RepL K ι H ds vs → pyL ds = some ps → PyData.hasDictAll ps = false → DpAll K H vs ps
  | [], vs, ps, r, e, _ => by rw [RepL] at r; rw [pyL] at e; cases e; subst r; exact .nil
  | d :: ds, vs, ps, r, e, n => by
    rw [RepL] at r
    obtain ⟨v, us, rfl, a, b⟩ := r
    rw [pyL] at e
    cases h : py d with
    | none => rw [h] at e; cases e
    | some p =>
      rw [h] at e
      cases h2 : pyL ds with
      | none => rw [h2] at e; cases e
      | some qs =>
        rw [h2] at e; cases e
        simp only [PyData.hasDictAll, Bool.or_eq_false_iff] at n
        exact .cons (py_dp d v p a h n.1) (pyL_dp ds us qs b h2 n.2)
end
theorem pyS_dp {K : PySem.W.Frag} {ι : List Addr} {H : Hp} {S : Sto} {d : D} {v : V} {p : PyData} (s : Sim K ι H S) (r : RepV K ι H d v) (e : pyS S d = some p) (n : p.hasDict = false) : Dp K H v p := by
  cases d with
  | loc m =>
    have e : (getQ S m).bind (fun ds => (pyL ds).map .list) = some p := e
    cases h : getQ S m with
    | none => rw [h] at e; cases e
    | some ds =>
      rw [h] at e
      have e : (pyL ds).map PyData.list = some p := e
      cases h2 : pyL ds with
      | none => rw [h2] at e; cases e
      | some ps =>
        rw [h2] at e; cases e
        rw [RepV] at r
        obtain ⟨a, ea, rfl⟩ := r
        have n : PyData.hasDictAll ps = false := by simpa [PyData.hasDict] using n
        unfold getQ at h
        split at h
        · rename_i q; cases h
          obtain ⟨vs, h1, h3⟩ := s.ob _ _ _ ea q
          exact .lst (SqL.of h1) (pyL_dp _ _ _ h3 h2 n)
        · rename_i q; cases h
          obtain ⟨o, vs, h1, h3⟩ := s.ob _ _ _ ea q
          exact .lst (.inl (.inr ⟨o, h1⟩)) (pyL_dp _ _ _ h3 h2 n)
        · cases h
  | _ => exact py_dp _ v p r e n
def dEqP (neg : Bool) (a b : D) (S : Sto) : R D := match pyS S a, pyS S b with
  | some p, some q => if SeqAt.shaped p = true ∧ SeqAt.shaped q = true then .ok (.bl (if neg then !PyData.eqv p q else PyData.eqv p q)) S else .stuck
  | _, _ => .stuck
def dEq (neg : Bool) (a b : D) (S : Sto) : R D := match a, b with
  | .str x, .str y => .ok (.bl (if neg then !decide (x = y) else decide (x = y))) S
  | a, b => dEqP neg a b S
theorem noDict_shaped {p : PyData} (h : SeqAt.shaped p = true) : p.hasDict = false := PyData.hasDict_of_canLay p (SeqAt.canLay_of_shaped h)
theorem or_eq {X : Cx} (hu : X.A.units + 64 < cLine) : OpR X (compareOp .Eq) (fun x y H Q => rEq x y H Q ∨ rEqD X.K x y H Q) := OpR.or op_eq (op_eqD hu)
theorem or_ne {X : Cx} (hu : X.A.units + 64 < cLine) : OpR X (compareOp .NotEq) (fun x y H Q => rNe x y H Q ∨ rNeD X.K x y H Q) := OpR.or op_ne (op_neD hu)
theorem dec_str (x y : Str) : decide ((V.str x) = V.str y) = decide (x = y) := by
  by_cases e : x = y
  · subst e; simp
  · rw [decide_eq_false e, decide_eq_false fun z => e (V.str.inj z)]
theorem k_eqD {K : PySem.W.Frag} : OpK K (fun x y H Q => rEq x y H Q ∨ rEqD K x y H Q) (dEq false) := by
  intro W σ ι H S x y a b Q s rx ry h
  unfold dEq at h
  split at h
  · rename_i u v
    rw [str_at rx, str_at ry]
    refine .inl ⟨rfl, ?_⟩
    rw [dec_str]
    exact h.here s _ bl_rep
  · unfold dEqP at h
    split at h
    · rename_i p q e1 e2
      split at h
      · rename_i hl
        exact .inr ⟨p, q, pyS_dp s rx e1 (noDict_shaped hl.1), pyS_dp s ry e2 (noDict_shaped hl.2), hl.1, hl.2, h.here s _ bl_rep⟩
      · exact h.elim
    · exact h.elim
theorem k_neD {K : PySem.W.Frag} : OpK K (fun x y H Q => rNe x y H Q ∨ rNeD K x y H Q) (dEq true) := by
  intro W σ ι H S x y a b Q s rx ry h
  unfold dEq at h
  split at h
  · rename_i u v
    rw [str_at rx, str_at ry]
    refine .inl ⟨rfl, ?_⟩
    rw [dec_str]
    exact h.here s _ bl_rep
  · unfold dEqP at h
    split at h
    · rename_i p q e1 e2
      split at h
      · rename_i hl
        exact .inr ⟨p, q, pyS_dp s rx e1 (noDict_shaped hl.1), pyS_dp s ry e2 (noDict_shaped hl.2), hl.1, hl.2, h.here s _ bl_rep⟩
      · exact h.elim
    · exact h.elim
def isN : D → Bool
  | .non => true
  | _ => false
def dIsN (neg : Bool) (a b : D) (S : Sto) : R D := match b with
  | .non => .ok (.bl (if neg then !isN a else isN a)) S
  | _ => .stuck
theorem rep_isN {K : PySem.W.Frag} {ι : List Addr} {H : Hp} {d : D} {v : V} (r : RepV K ι H d v) : decide (v = .non) = isN d := by
  cases d with
  | non => rw [RepV] at r; subst r; rfl
  | bl b => rw [RepV] at r; subst r; rfl
  | int b => rw [RepV] at r; subst r; rfl
  | str b => rw [RepV] at r; subst r; rfl
  | ty b => rw [RepV] at r; subst r; rfl
  | fn b => rw [RepV] at r; obtain ⟨a, rfl, _⟩ := r; rfl
  | exc c b => rw [RepV] at r; obtain ⟨a, _, _, rfl, _⟩ := r; rfl
  | loc b => rw [RepV] at r; obtain ⟨a, _, rfl⟩ := r; rfl
  | tup b => rw [RepV] at r; obtain ⟨a, vs, rfl, _⟩ := r; rfl
  | fl b => rw [RepV] at r; obtain ⟨a, vs, rfl, _⟩ := r; rfl
  | kl b => rw [RepV] at r; obtain ⟨a, vs, rfl, _⟩ := r; rfl
  | ktp b => rw [RepV] at r; obtain ⟨a, vs, rfl, _⟩ := r; rfl
  | ztp b => rw [RepV] at r; obtain ⟨a, vs, rfl, _⟩ := r; rfl
  | fd b => rw [RepV] at r; obtain ⟨a, vs, rfl, _⟩ := r; rfl
theorem k_isN {K : PySem.W.Frag} : OpK K (fun x y H Q => y = .non ∧ Q (.bl (decide (x = .non))) H) (dIsN false) := by
  intro W σ ι H S x y a b Q s rx ry h
  cases b with
  | non => rw [RepV] at ry; rw [rep_isN rx]; exact ⟨ry, h.here s _ bl_rep⟩
  | _ => exact (show False from h).elim
end DL
namespace DL
open PySem PySem.Spec L2
open PyProof.Rows hiding St
def R.toS {α : Type} (r : R α) (ρ : Ev) (k : α → Sto → SR) : SR := match r with
  | .ok a S => k a S
  | .er e S => .er e ρ S
  | .stuck => .stuck
@[simp] theorem R.toS_ok {α : Type} (a : α) (S : Sto) (ρ : Ev) (k : α → Sto → SR) : (R.ok a S).toS ρ k = k a S := rfl
@[simp] theorem R.toS_er {α : Type} (e : Ex) (S : Sto) (ρ : Ev) (k : α → Sto → SR) : (R.er e S : R α).toS ρ k = .er e ρ S := rfl
@[simp] theorem R.toS_stuck {α : Type} (ρ : Ev) (k : α → Sto → SR) : (R.stuck : R α).toS ρ k = .stuck := rfl
def SR.next (r : SR) (k : Ev → Sto → SR) : SR := match r with
  | .nx ρ S => k ρ S
  | .rt d S => .rt d S
  | .bk ρ S => .bk ρ S
  | .ct ρ S => .ct ρ S
  | .er e ρ S => .er e ρ S
  | .stuck => .stuck
@[simp] theorem SR.next_nx (ρ : Ev) (S : Sto) (k : Ev → Sto → SR) : (SR.nx ρ S).next k = k ρ S := rfl
@[simp] theorem SR.next_rt (d : D) (S : Sto) (k : Ev → Sto → SR) : (SR.rt d S).next k = .rt d S := rfl
@[simp] theorem SR.next_er (e : Ex) (ρ : Ev) (S : Sto) (k : Ev → Sto → SR) : (SR.er e ρ S).next k = .er e ρ S := rfl
@[simp] theorem SR.next_bk (ρ : Ev) (S : Sto) (k : Ev → Sto → SR) : (SR.bk ρ S).next k = .bk ρ S := rfl
@[simp] theorem SR.next_ct (ρ : Ev) (S : Sto) (k : Ev → Sto → SR) : (SR.ct ρ S).next k = .ct ρ S := rfl
@[simp] theorem SR.next_stuck (k : Ev → Sto → SR) : (SR.stuck).next k = .stuck := rfl
theorem PostS.bind {α : Type} {K : PySem.W.Frag} {W : WX} {E : Ends} {σ : St} {ρ : Ev} {ι : List Addr} {H : Hp} {r : R α} {k : α → Sto → SR} (h : PostS K W E ι H (r.toS ρ k)) (hE : RepE K ι H σ ρ) :
    Post K W σ ι H r fun a S1 ι1 H1 => PostS K W E ι1 H1 (k a S1) := by
  cases r with
  | stuck => exact h
  | er e S => exact fun ι' H' cls dd G s x => h ι' H' σ cls dd G s (hE.grow G) x
  | ok a S => exact fun ι1 H1 G1 s1 => PostS.grow h G1
def dCmpI (p : Int → Int → Int) (a b : D) (S : Sto) : R D := match a, b with
  | .int i, .int j => .ok (.int (p i j)) S
  | _, _ => .stuck
def dAddI : D → D → Sto → R D := dCmpI fun i j => i + j
def dSubI : D → D → Sto → R D := dCmpI fun i j => i - j
section
variable {X : Cx} {W : WX} {pos : Pos} {e : Expr} {st : Stmt} {rest : List Stmt}
def sNil : Ev → Sto → SR := fun ρ S => .nx ρ S
def sSeq (F G : Ev → Sto → SR) : Ev → Sto → SR := fun ρ S => (F ρ S).next G
theorem dss_nil : DSs X W [] sNil := PSs.imp pss_nil fun E σ H ⟨ι, ρ, S, hE, hS, h⟩ => h ι H σ (Grow.refl _ _) hS hE
theorem dss_cons {F G : Ev → Sto → SR} (h1 : DS X W st F) (h2 : DSs X W rest G) : DSs X W (st :: rest) (sSeq F G) := by
  refine PSs.imp (pss_cons h1 h2) fun E σ H ⟨ι, ρ, S, hE, hS, h⟩ => ⟨ι, ρ, S, hE, hS, ?_⟩
  unfold sSeq at h
  cases hF : F ρ S with
  | nx ρ1 S1 => rw [hF] at h; exact fun ι1 H1 σ1 G1 s1 e1 => ⟨ι1, ρ1, S1, e1, s1, PostS.grow h G1⟩
  | rt d S1 => rw [hF] at h; exact h
  | bk ρ1 S1 => rw [hF] at h; exact h
  | ct ρ1 S1 => rw [hF] at h; exact h
  | er e ρ1 S1 => rw [hF] at h; exact h
  | stuck => rw [hF] at h; exact h
theorem dss_one {F : Ev → Sto → SR} (h1 : DS X W st F) : DSs X W [st] F := pss_one h1
def sBrk : Ev → Sto → SR := fun ρ S => .bk ρ S
def sCnt : Ev → Sto → SR := fun ρ S => .ct ρ S
def sExp (f : Ev → Sto → R D) : Ev → Sto → SR := fun ρ S => (f ρ S).toS ρ fun _ S1 => .nx ρ S1
def sRet (f : Ev → Sto → R D) : Ev → Sto → SR := fun ρ S => (f ρ S).toS ρ fun d S1 => .rt d S1
theorem ds_expr {f : Ev → Sto → R D} (he : DE X W e f) (hs : swapsWith e none pos.line X.env = pure false := by rfl) : DS X W (.Expr e pos) (sExp f) := by
  refine PS.imp (ps_expr he hs) fun E σ H ⟨ι, ρ, S, hE, hS, h⟩ => ⟨ι, ρ, S, hE, hS, (PostS.bind h hE).mono fun d S1 ι1 H1 G1 s1 h1 v rv => ?_⟩
  exact h1 ι1 H1 σ (Grow.refl _ _) s1 (hE.grow G1)
theorem ds_ret {f : Ev → Sto → R D} (he : DE X W e f) : DS X W (.Return (some e) pos) (sRet f) := by
  refine PS.imp (ps_ret he) fun E σ H ⟨ι, ρ, S, hE, hS, h⟩ => ⟨ι, ρ, S, hE, hS, (PostS.bind h hE).mono fun d S1 ι1 H1 G1 s1 h1 v rv => ?_⟩
  exact h1 ι1 H1 v (Grow.refl _ _) s1 rv
def sRetN : Ev → Sto → SR := fun _ S => .rt .non S
def sIf (c : Ev → Sto → R Bool) (F G : Ev → Sto → SR) : Ev → Sto → SR := fun ρ S => (c ρ S).toS ρ fun b S1 => if b = true then F ρ S1 else G ρ S1
theorem ds_if {c : Expr} {a b : List Stmt} {t : Ev → Sto → R Bool} {F G : Ev → Sto → SR} (hc : DT X W c t) (ha : DSs X W a F) (hb : DSs X W b G) : DS X W (.If c a b pos) (sIf t F G) := by
  refine PS.imp (ps_if hc ha hb) fun E σ H ⟨ι, ρ, S, hE, hS, h⟩ => ⟨ι, ρ, S, hE, hS, (PostS.bind h hE).mono fun b S1 ι1 H1 G1 s1 h1 => ?_⟩
  cases b with
  | true => rw [if_pos rfl] at h1 ⊢; exact ⟨ι1, ρ, S1, hE.grow G1, s1, h1⟩
  | false => rw [if_neg (by decide)] at h1 ⊢; exact ⟨ι1, ρ, S1, hE.grow G1, s1, h1⟩
abbrev Tg := D → Ev → Sto → Option (Ev × Sto)
abbrev Tgs := List D → Ev → Sto → Option (Ev × Sto)
def rdG (K : PySem.W.Frag) (T : Tg) : TG := fun v σ H Q => ∃ ι ρ S d ρ' S', RepE K ι H σ ρ ∧ Sim K ι H S ∧ RepV K ι H d v ∧ T d ρ S = some (ρ', S') ∧ ∀ ι' H' σ', Grow ι H ι' H' → Sim K ι' H' S' → RepE K ι' H' σ' ρ' → Q σ' H'
abbrev DG (X : Cx) (e : Expr) (T : Tg) : Prop := PG X e (rdG X.K T)
theorem PG.imp {X : Cx} {e : Expr} {t u : TG} (h : PG X e t) (i : ∀ v σ H Q, u v σ H Q → t v σ H Q) : PG X e u := ⟨fun pins s σ H v w Q I r q => h.run pins s σ H v w Q I r (i v σ H Q q)⟩
def tN (i : Nat) : Tg := fun d ρ S => some (ρ.set i (some d), S)
theorem dg_name (i : Nat) {x : Str} (hN : X.N.Nodup) (hi : X.N[i]? = some x := by rfl) (hx : Loc X.env.scope x := by first | exact .inl rfl | exact .inr rfl) (hf : X.fn x = true ∨ X.env.scope.names.lookup x = some .local := by first | exact .inl rfl | exact .inr rfl | assumption) : DG X (.Name x pos) (tN i) :=
  PG.imp (pg_name hN hi hx hf) fun v σ H Q ⟨ι, ρ, S, d, ρ', S', hE, hS, r, e, h⟩ => by
    cases e
    exact h ι H _ (Grow.refl _ _) hS (hE.set r i)
def rdGs (K : PySem.W.Frag) (T : Tgs) : TGs := fun vs σ H Q => ∃ ι ρ S ds ρ' S', RepE K ι H σ ρ ∧ Sim K ι H S ∧ RepL K ι H ds vs ∧ T ds ρ S = some (ρ', S') ∧ ∀ ι' H' σ', Grow ι H ι' H' → Sim K ι' H' S' → RepE K ι' H' σ' ρ' → Q σ' H'
abbrev DGs (X : Cx) (e : List Expr) (T : Tgs) : Prop := PGs X e (rdGs X.K T)
theorem PGs.imp {X : Cx} {e : List Expr} {t u : TGs} (h : PGs X e t) (i : ∀ v σ H Q, u v σ H Q → t v σ H Q) : PGs X e u := ⟨fun pins s σ H v w Q I r q => h.run pins s σ H v w Q I r (i v σ H Q q)⟩
def tNil : Tgs := fun ds ρ S => match ds with
  | [] => some (ρ, S)
  | _ => none
def tCons (T : Tg) (U : Tgs) : Tgs := fun ds ρ S => match ds with
  | d :: r => (T d ρ S).bind fun q => U r q.1 q.2
  | [] => none
theorem dgs_nil : DGs X [] tNil := PGs.imp pgs_nil fun v σ H Q ⟨ι, ρ, S, ds, ρ', S', hE, hS, r, e, h⟩ => by
  cases ds with
  | nil => cases e; rw [RepL] at r; exact ⟨r, h ι H σ (Grow.refl _ _) hS hE⟩
  | cons d ds => cases e
theorem dgs_cons {es : List Expr} {T : Tg} {U : Tgs} (h1 : DG X e T) (h2 : DGs X es U) (hs : (assignEach (e :: es) X.env).map (·.2) = assign e X.env :: (assignEach es X.env).map (·.2) := by rfl) : DGs X (e :: es) (tCons T U) :=
  PGs.imp (pgs_cons h1 h2 hs) fun v σ H Q ⟨ι, ρ, S, ds, ρ', S', hE, hS, r, e, h⟩ => by
    cases ds with
    | nil => cases e
    | cons d ds =>
      rw [RepL] at r
      obtain ⟨v, vs, rfl, rv, rl⟩ := r
      have e : (T d ρ S).bind (fun q => U ds q.1 q.2) = some (ρ', S') := e
      cases hT : T d ρ S with
      | none => rw [hT] at e; cases e
      | some q =>
        obtain ⟨ρ1, S1⟩ := q
        rw [hT] at e
        refine ⟨v, vs, rfl, ι, ρ, S, d, ρ1, S1, hE, hS, rv, hT, fun ι1 H1 σ1 G1 s1 e1 => ?_⟩
        exact ⟨ι1, ρ1, S1, ds, ρ', S', e1, s1, RepL.grow G1 _ _ rl, e, fun ι2 H2 σ2 G2 => h ι2 H2 σ2 (G1.trans G2)⟩
def tTup (n : Nat) (U : Tgs) : Tg := fun d ρ S => match d with
  | .tup ds => if ds.length = n then U ds ρ S else none
  | _ => none
theorem dg_tup {es : List Expr} {k : Nat} {U : Tgs} {n : Nat} (hc : X.calm = true) (h : DGs X es U) (hn : (assignEach es X.env).length = n := by rfl) (hst : (assignEach es X.env).findIdx? (·.1) = none := by rfl) : DG X (.Tuple es k pos) (tTup n U) :=
  PG.imp (pg_tup hc h hn hst) fun v σ H Q ⟨ι, ρ, S, d, ρ', S', hE, hS, r, e, h⟩ => by
    cases d with
    | tup ds =>
      have e : (if ds.length = n then U ds ρ S else none) = some (ρ', S') := e
      by_cases hl : ds.length = n
      · rw [if_pos hl] at e
        obtain ⟨p, vs, rfl, q, rl⟩ := tup_at r
        exact ⟨p, vs, rfl, q, by rw [← RepL.length _ _ rl]; exact hl, ι, ρ, S, ds, ρ', S', hE, hS, rl, e, h⟩
      · rw [if_neg hl] at e; cases e
    | _ => cases e
/-- o[i] = v -/
def dSet (o i v : D) (S : Sto) : Option Sto := match o, i with
  | .loc n, .int k => (getL S n).bind fun ds => (ixN ds.length k).map fun j => S.set n (.lst (ds.set j v))
  | _, _ => none
def tSub (f g : Ev → Sto → R D) : Tg := fun v ρ S => match f ρ S with
  | .ok o S1 => (match g ρ S1 with
    | .ok i S2 => (dSet o i v S2).map fun S3 => (ρ, S3)
    | _ => none)
  | _ => none
theorem dSet_some {o i v : D} {S S' : Sto} (h : dSet o i v S = some S') : ∃ n k ds j, o = .loc n ∧ i = .int k ∧ getL S n = some ds ∧ ixN ds.length k = some j ∧ S' = S.set n (.lst (ds.set j v)) := by
  unfold dSet at h
  split at h
  · rename_i n k
    cases hL : getL S n with
    | none => simp [hL] at h
    | some ds =>
      cases hj : ixN ds.length k with
      | none => simp [hL, hj] at h
      | some j =>
        simp [hL, hj] at h
        exact ⟨n, k, ds, j, rfl, rfl, hL, hj, h.symm⟩
  · cases h
theorem dg_sub {o i : Expr} {f g : Ev → Sto → R D} (ho : DE X W o f) (hi : DE X W i g) (ha : ∀ v, assign (.Subscript o i pos) X.env v = (do
      let ov ← holding [v] (eval o X.env)
      let iv ← holding [v, ov] (eval i X.env)
      standAt pos
      holding [v, ov, iv] (setItem ov iv v)
      release [v, ov, iv] []) := by intro _; rfl) : DG X (.Subscript o i pos) (tSub f g) :=
  PG.imp (pg_sub ho hi set_list ha) fun v σ H Q ⟨ι, ρ, S, d, ρ', S', hE, hS, r, e, h⟩ => by
    unfold tSub at e
    cases hf : f ρ S with
    | ok o S1 =>
      simp only [hf] at e
      refine ⟨ι, ρ, S, hE, hS, ?_⟩
      rw [hf]
      intro ι1 H1 G1 s1 x rx
      cases hg : g ρ S1 with
      | ok i S2 =>
        simp only [hg] at e
        refine ⟨ι1, ρ, S1, hE.grow G1, s1, ?_⟩
        rw [hg]
        intro ι2 H2 G2 s2 y ry
        have rx := RepV.grow G2 _ _ rx
        have rv := RepV.grow G2 _ _ (RepV.grow G1 _ _ r)
        have e : (dSet o i d S2).map (fun S3 => (ρ, S3)) = some (ρ', S') := e
        cases hd : dSet o i d S2 with
        | none => rw [hd] at e; cases e
        | some S3 =>
          rw [hd] at e
          cases e
          obtain ⟨n, k, ds, j, rfl, rfl, hL, hj, rfl⟩ := dSet_some hd
          rw [RepV] at rx
          obtain ⟨a, ea, rfl⟩ := rx
          obtain ⟨vs, h1, h3⟩ := s2.ob _ _ _ ea (getL_some hL)
          refine ⟨a, vs, k, j, rfl, int_at ry, h1, by rw [← RepL.length _ _ h3]; exact hj, ?_⟩
          have G3 : Grow ι2 H2 ι2 (upd H2 a (.lst (vs.set j v))) := Grow.put (List.mem_of_getElem? ea) h1 (fun _ _ z => by cases z)
          exact h ι2 _ σ ((G1.trans G2).trans G3) (s2.put ea h1 (fun _ _ z => by cases z) ⟨_, upd_same, RepL.set (RepV.grow G3 _ _ rv) _ _ _ (RepL.grow G3 _ _ h3)⟩) (((hE.grow G1).grow G2).grow G3)
      | er e1 S2 => simp only [hg] at e; cases e
      | stuck => simp only [hg] at e; cases e
    | er e1 S1 => simp only [hf] at e; cases e
    | stuck => simp only [hf] at e; cases e
def sAsg (f : Ev → Sto → R D) (T : Tg) : Ev → Sto → SR := fun ρ S => (f ρ S).toS ρ fun d S1 => match T d ρ S1 with
  | some (ρ', S') => .nx ρ' S'
  | none => .stuck
theorem asg_read {K : PySem.W.Frag} {f : Ev → Sto → R D} {T : Tg} : ∀ E σ H, rdS K W (sAsg f T) E σ H → tAsg (rdE K W f) (rdG K T) E σ H := fun E σ H ⟨ι, ρ, S, hE, hS, h⟩ => by
  refine ⟨ι, ρ, S, hE, hS, (PostS.bind h hE).mono fun d S1 ι1 H1 G1 s1 h1 v rv => ?_⟩
  cases hT : T d ρ S1 with
  | none => simp only [hT] at h1; exact h1.elim
  | some q =>
    obtain ⟨ρ1, S2⟩ := q
    simp only [hT] at h1
    exact ⟨ι1, ρ, S1, d, ρ1, S2, hE.grow G1, s1, rv, hT, fun ι2 H2 σ2 G2 s2 e2 => h1 ι2 H2 σ2 G2 s2 e2⟩
theorem ds_asg {tg : Expr} {f : Ev → Sto → R D} {T : Tg} (he : DE X W e f) (hg : DG X tg T) (hs : swapsWithSole [tg] e pos.line X.env = pure false := by rfl) (hw : swappedStores [tg] e X.env = pure none := by rfl)
    (h1 : (assignEach [tg] X.env).map (·.2) = [assign tg X.env] := by rfl) : DS X W (.Assign [tg] e pos) (sAsg f T) := PS.imp (ps_asg he hg hs hw h1) asg_read
/-- name = e -/
def sSet (i : Nat) (f : Ev → Sto → R D) : Ev → Sto → SR := fun ρ S => (f ρ S).toS ρ fun d S1 => .nx (ρ.set i (some d)) S1
theorem set_read {K : PySem.W.Frag} {f : Ev → Sto → R D} {i : Nat} : ∀ E σ H, rdS K W (sSet i f) E σ H → tAsg (rdE K W f) (gName i) E σ H := fun E σ H ⟨ι, ρ, S, hE, hS, h⟩ => by
  refine ⟨ι, ρ, S, hE, hS, (PostS.bind h hE).mono fun d S1 ι1 H1 G1 s1 h1 v rv => ?_⟩
  exact h1 ι1 H1 _ (Grow.refl _ _) s1 ((hE.grow G1).set rv i)
theorem ds_set (i : Nat) {x : Str} {pos' : Pos} {f : Ev → Sto → R D} (hN : X.N.Nodup) (he : DE X W e f) (hi : X.N[i]? = some x := by rfl) (hx : Loc X.env.scope x := by first | exact .inl rfl | exact .inr rfl)
    (hs : swapsWith e (some (.Name x pos')) pos.line X.env = pure false := by rfl) (hf : X.fn x = true ∨ X.env.scope.names.lookup x = some .local := by first | exact .inl rfl | exact .inr rfl | assumption) :
    DS X W (.Assign [.Name x pos'] e pos) (sSet i f) := PS.imp (ps_set hN hi hx he hs hf) set_read
/-- name op= e -/
def sAug (i : Nat) (o : D → D → Sto → R D) (f : Ev → Sto → R D) : Ev → Sto → SR := fun ρ S => match ρ[i]? with
  | some (some x) => ((f ρ S).bind fun d S1 => o x d S1).toS ρ fun z S2 => .nx (ρ.set i (some z)) S2
  | _ => .stuck
theorem ds_aug (i : Nat) {x : Str} {op : Operator} {r : TIp} {o : D → D → Sto → R D} {pos' : Pos} {f : Ev → Sto → R D} (hN : X.N.Nodup) (he : DE X W e f) (ho : PIp X op r) (k : OpK X.K r o) (hi : X.N[i]? = some x := by rfl) (hx : Loc X.env.scope x := by first | exact .inl rfl | exact .inr rfl)
    (hf : X.fn x = true ∨ X.env.scope.names.lookup x = some .local := by first | exact .inl rfl | exact .inr rfl | assumption) : DS X W (.AugAssign (.Name x pos') op e pos) (sAug i o f) := by
  refine PS.imp (ps_aug hN hi hx he ho hf) fun E σ H ⟨ι, ρ, S, hE, hS, h⟩ => ?_
  unfold sAug at h
  split at h
  · rename_i d hd
    obtain ⟨v, hv, rv⟩ := hE.get hd
    refine ⟨v, hv, ι, ρ, S, hE, hS, ((PostS.bind h hE).bind).mono fun b S1 ι1 H1 G1 s1 h1 y ry => ?_⟩
    refine k W σ ι1 H1 S1 v y d b _ s1 (RepV.grow G1 _ _ rv) ry (h1.mono fun z S2 ι2 H2 G2 s2 h2 u ru => ?_)
    exact h2 ι2 H2 _ (Grow.refl _ _) s2 (((hE.grow G1).grow G2).set ru i)
  · exact h.elim
theorem k_ipadd {K : PySem.W.Frag} : OpK K (ipI fun i j => i + j) dAddI := by
  intro W σ ι H S x y a b Q s rx ry h
  unfold dAddI dCmpI at h
  split at h
  · rename_i i j
    exact ⟨i, j, int_at rx, int_at ry, h.here s _ int_rep⟩
  · exact h.elim
/-- a, b = x, y and a, b, c = x, y, z with plain locals -/
def sPar2 (i j : Nat) (g : Ev → Sto → R (List D)) : Ev → Sto → SR := fun ρ S => (g ρ S).toS ρ fun ds S1 => match ds with
  | [a, b] => .nx ((ρ.set i (some a)).set j (some b)) S1
  | _ => .stuck
end
end DL
namespace DL
open PySem PySem.Spec L2
open PyProof.Rows hiding St
abbrev Src := List D × (Sto → Prop)
def ItOk (K : PySem.W.Frag) (J : It) (ι : List Addr) (H : Hp) (q : Src) : Prop := ∀ ι1 H1 S1, Grow ι H ι1 H1 → Sim K ι1 H1 S1 → q.2 S1 →
  (∀ i, q.1.length ≤ i → J.stop i H1) ∧ ∀ i d, q.1[i]? = some d → J.go i H1 ∧ ∀ x H2, J.yld i H1 x H2 → Grow ι1 H1 ι1 H2 ∧ Sim K ι1 H2 S1 ∧ RepV K ι1 H2 d x
def rdI (K : PySem.W.Frag) (W : WX) (f : Ev → Sto → R Src) : TI := fun σ H Rr => ∃ ι ρ S, RepE K ι H σ ρ ∧ Sim K ι H S ∧ Post K W σ ι H (f ρ S) fun q _ ι' H' => ∀ J, ItOk K J ι' H' q → Rr J H'
abbrev DI (X : Cx) (W : WX) (tg iter : Expr) (f : Ev → Sto → R Src) : Prop := PI X tg iter (rdI X.K W f)
theorem PI.imp {X : Cx} {tg e : Expr} {t u : TI} (h : PI X tg e t) (i : ∀ σ H Q, u σ H Q → t σ H Q) : PI X tg e u := ⟨fun pins s σ H Q I q => h.run pins s σ H Q I (i σ H Q q)⟩
theorem PI.or {X : Cx} {tg e : Expr} {t u : TI} (h : PI X tg e t) (h' : PI X tg e u) : PI X tg e (fun σ H Q => t σ H Q ∨ u σ H Q) := ⟨fun pins s σ H Q I q => by
  rcases q with q | q
  · exact h.run pins s σ H Q I q
  · exact h'.run pins s σ H Q I q⟩
def yes : Sto → Prop := fun _ => True
def srcOf (d : D) (S : Sto) : R Src := match d with
  | .tup ds => .ok (ds, yes) S
  | .fl ds => .ok (ds, yes) S
  | .kl ds => .ok (ds, yes) S
  | .loc n => (match getQ S n with
    | some ds => .ok (ds, fun S => getQ S n = some ds) S
    | none => .stuck)
  | _ => .stuck
def iSeq (f : Ev → Sto → R D) : Ev → Sto → R Src := fun ρ S => (f ρ S).bind srcOf
theorem itl_ok {K : PySem.W.Frag} {ι : List Addr} {H : Hp} {ds : List D} {a : Addr} {g : Sto → Prop} (h : ∀ ι1 H1 S1, Grow ι H ι1 H1 → Sim K ι1 H1 S1 → g S1 → ∃ vs, SqL K H1 a vs ∧ RepL K ι1 H1 ds vs) : ItOk K (Itl K a) ι H (ds, g) := fun ι1 H1 S1 G s gs => by
  obtain ⟨vs, q, r⟩ := h ι1 H1 S1 G s gs
  refine ⟨fun i hi => ⟨vs, q, by rw [← RepL.length _ _ r]; exact hi⟩, fun i d e => ?_⟩
  obtain ⟨v, hv, rv⟩ := RepL.get _ _ r i d e
  refine ⟨⟨vs, v, q, hv⟩, fun x H2 y => ?_⟩
  obtain ⟨rfl, y⟩ := y
  have := y vs q
  rw [hv] at this; cases this
  exact ⟨Grow.refl _ _, s, rv⟩
theorem itt_ok {K : PySem.W.Frag} {ι : List Addr} {H : Hp} {ds : List D} {a : Addr} {g : Sto → Prop} (h : ∀ ι1 H1 S1, Grow ι H ι1 H1 → Sim K ι1 H1 S1 → g S1 → ∃ vs, SqT K H1 a vs ∧ RepL K ι1 H1 ds vs) : ItOk K (Itt K a) ι H (ds, g) := fun ι1 H1 S1 G s gs => by
  obtain ⟨vs, q, r⟩ := h ι1 H1 S1 G s gs
  refine ⟨fun i hi => ⟨vs, q, by rw [← RepL.length _ _ r]; exact hi⟩, fun i d e => ?_⟩
  obtain ⟨v, hv, rv⟩ := RepL.get _ _ r i d e
  refine ⟨⟨vs, v, q, hv⟩, fun x H2 y => ?_⟩
  obtain ⟨rfl, y⟩ := y
  have := y vs q
  rw [hv] at this; cases this
  exact ⟨Grow.refl _ _, s, rv⟩
theorem loc_at {K : PySem.W.Frag} {ι : List Addr} {H : Hp} {S : Sto} {n : Nat} {a : Addr} {ds : List D} (s : Sim K ι H S) (ea : ι[n]? = some a) (e : getQ S n = some ds) : ∃ vs, SqL K H a vs ∧ RepL K ι H ds vs := by
  unfold getQ at e
  (try unfold ifp at e); split at e
  · rename_i q; cases e
    obtain ⟨vs, h1, h2⟩ := s.ob _ _ _ ea q
    exact ⟨vs, SqL.of h1, h2⟩
  · rename_i q; cases e
    obtain ⟨o, vs, h1, h2⟩ := s.ob _ _ _ ea q
    exact ⟨vs, .inl (.inr ⟨o, h1⟩), h2⟩
  · cases e
/-- what a list or tuple that is walked gives, whatever turns behind it -/
theorem src_stands {K : PySem.W.Frag} {ι : List Addr} {H : Hp} {S : Sto} {d : D} {q : Src} {S' : Sto} {v : V} (e : srcOf d S = .ok q S') (s : Sim K ι H S) (r : RepV K ι H d v) : S' = S ∧ ∃ a, v = .ref a ∧
    ((∀ ι1 H1 S1, Grow ι H ι1 H1 → Sim K ι1 H1 S1 → q.2 S1 → ∃ vs, SqT K H1 a vs ∧ RepL K ι1 H1 q.1 vs) ∨ (∀ ι1 H1 S1, Grow ι H ι1 H1 → Sim K ι1 H1 S1 → q.2 S1 → ∃ vs, SqL K H1 a vs ∧ RepL K ι1 H1 q.1 vs)) ∧ q.2 S := by
  cases d with
  | tup ds =>
    cases e
    rw [RepV] at r
    obtain ⟨a, vs, rfl, t, rl⟩ := r
    exact ⟨rfl, a, rfl, .inl fun ι1 H1 S1 G s1 _ => ⟨vs, (t.grow G).sq, RepL.grow G _ _ rl⟩, True.intro⟩
  | fl ds =>
    cases e
    rw [RepV] at r
    obtain ⟨a, vs, rfl, t, rl⟩ := r
    exact ⟨rfl, a, rfl, .inr fun ι1 H1 S1 G s1 _ => ⟨vs, (t.grow G).sq, RepL.grow G _ _ rl⟩, True.intro⟩
  | kl ds =>
    cases e
    rw [RepV] at r
    obtain ⟨a, vs, rfl, t, rl⟩ := r
    exact ⟨rfl, a, rfl, .inr fun ι1 H1 S1 G s1 _ => ⟨vs, (t.grow G).sq, RepL.grow G _ _ rl⟩, True.intro⟩
  | loc n =>
    have e : (match getQ S n with
      | some ds => R.ok (ds, fun S => getQ S n = some ds) S
      | none => .stuck) = .ok q S' := e
    cases hq : getQ S n with
    | none => rw [hq] at e; cases e
    | some ds =>
      rw [hq] at e
      cases e
      rw [RepV] at r
      obtain ⟨a, ea, rfl⟩ := r
      refine ⟨rfl, a, rfl, .inr fun ι1 H1 S1 G s1 g1 => ?_, hq⟩
      exact loc_at s1 (getElem?_pre G.pre ea) g1
  | _ => cases e
section
variable {X : Cx} {W : WX} {pos : Pos} {e tg : Expr}
theorem di_seq {f : Ev → Sto → R D} (h : DE X W e f) : DI X W tg e (iSeq f) := by
  refine PI.imp (PI.or (pi_tup h) (pi_list h)) fun σ H Rr ⟨ι, ρ, S, hE, hS, q⟩ => ?_
  unfold iSeq at q
  cases hf : f ρ S with
  | stuck => rw [hf] at q; exact q.elim
  | er x S1 =>
    rw [hf] at q
    refine .inl ⟨ι, ρ, S, hE, hS, ?_⟩
    rw [hf]; exact q
  | ok d S1 =>
    rw [hf] at q
    replace q : Post X.K W σ ι H (srcOf d S1) fun q _ ι' H' => ∀ J, ItOk X.K J ι' H' q → Rr J H' := q
    cases hs : srcOf d S1 with
    | stuck => rw [hs] at q; exact q.elim
    | er x S2 => exfalso; unfold srcOf at hs; split at hs <;> first | cases hs | (split at hs <;> cases hs)
    | ok c S2 =>
      rw [hs] at q
      have kind : (∃ ds, d = .tup ds) ∨ (∃ ds, d = .fl ds ∨ d = .kl ds) ∨ ∃ n, d = .loc n := by
        cases d with
        | tup ds => exact .inl ⟨ds, rfl⟩
        | fl ds => exact .inr (.inl ⟨ds, .inl rfl⟩)
        | kl ds => exact .inr (.inl ⟨ds, .inr rfl⟩)
        | loc n => exact .inr (.inr ⟨n, rfl⟩)
        | _ => cases hs
      rcases kind with ⟨ds, rfl⟩ | kind
      · refine .inl ⟨ι, ρ, S, hE, hS, ?_⟩
        rw [hf]
        intro ι1 H1 G1 s1 v rv
        obtain ⟨rfl, a, rfl, st, g0⟩ := src_stands hs s1 rv
        rw [RepV] at rv
        obtain ⟨b, vs, eb, t, rl⟩ := rv
        cases eb
        cases hs
        exact ⟨a, rfl, ⟨vs, t.sq⟩, q ι1 H1 G1 s1 _ (itt_ok fun ι2 H2 S2 G s2 _ => ⟨vs, (t.grow G).sq, RepL.grow G _ _ rl⟩)⟩
      · refine .inr ⟨ι, ρ, S, hE, hS, ?_⟩
        rw [hf]
        intro ι1 H1 G1 s1 v rv
        rcases kind with ⟨ds, rfl | rfl⟩ | ⟨n, rfl⟩
        · rw [RepV] at rv
          obtain ⟨b, vs, rfl, t, rl⟩ := rv
          cases hs
          exact ⟨b, rfl, ⟨vs, t.sq⟩, q ι1 H1 G1 s1 _ (itl_ok fun ι2 H2 S2 G s2 _ => ⟨vs, (t.grow G).sq, RepL.grow G _ _ rl⟩)⟩
        · rw [RepV] at rv
          obtain ⟨b, vs, rfl, t, rl⟩ := rv
          cases hs
          exact ⟨b, rfl, ⟨vs, t.sq⟩, q ι1 H1 G1 s1 _ (itl_ok fun ι2 H2 S2 G s2 _ => ⟨vs, (t.grow G).sq, RepL.grow G _ _ rl⟩)⟩
        · rw [RepV] at rv
          obtain ⟨b, eb, rfl⟩ := rv
          have hs' : (match getQ S1 n with
            | some ds => R.ok (ds, fun S => getQ S n = some ds) S1
            | none => .stuck) = .ok c S2 := hs
          cases hq : getQ S1 n with
          | none => rw [hq] at hs'; cases hs'
          | some ds =>
            rw [hq] at hs'
            cases hs'
            obtain ⟨vs, z, _⟩ := loc_at s1 eb hq
            exact ⟨b, rfl, ⟨vs, z⟩, q ι1 H1 G1 s1 _ (itl_ok fun ι2 H2 S2 G s2 g2 => loc_at s2 (getElem?_pre G.pre eb) g2)⟩
def rangeD (lo : Int) (n : Nat) : List D := (List.range n).map fun k => .int (lo + (k : Nat))
theorem rangeD_get {lo : Int} {n i : Nat} {d : D} (h : (rangeD lo n)[i]? = some d) : i < n ∧ d = .int (lo + (i : Nat)) := by
  unfold rangeD at h
  rw [List.getElem?_map] at h
  cases e : (List.range n)[i]? with
  | none => rw [e] at h; cases h
  | some k =>
    rw [e] at h; cases h
    have := List.getElem?_eq_some_iff.mp e
    obtain ⟨h1, h2⟩ := this
    simp at h1 h2
    subst h2
    exact ⟨h1, rfl⟩
theorem rangeD_len (lo : Int) (n : Nat) : (rangeD lo n).length = n := by simp [rangeD]
theorem itr_ok {K : PySem.W.Frag} {ι : List Addr} {H : Hp} {lo : Int} {n : Nat} {g : Sto → Prop} : ItOk K (Itr lo n) ι H (rangeD lo n, g) := fun ι1 H1 S1 G s gs => by
  refine ⟨fun i hi => by rw [rangeD_len] at hi; exact hi, fun i d e => ?_⟩
  obtain ⟨hi, rfl⟩ := rangeD_get e
  refine ⟨hi, fun x H2 y => ?_⟩
  obtain ⟨rfl, rfl⟩ := y
  exact ⟨Grow.refl _ _, s, int_rep⟩
noncomputable def iRange1 (g : Ev → Sto → R (List D)) : Ev → Sto → R Src := fun ρ S => (g ρ S).bind fun ds S1 => match ds with
  | [.int j] => ifp (-(2 ^ 62) ≤ j ∧ j < 2 ^ 62) (.ok (rangeD 0 j.toNat, yes) S1) .stuck
  | _ => .stuck
noncomputable def iRange2 (g : Ev → Sto → R (List D)) : Ev → Sto → R Src := fun ρ S => (g ρ S).bind fun ds S1 => match ds with
  | [.int i, .int j] => ifp (-(2 ^ 62) ≤ i ∧ i < 2 ^ 62 ∧ -(2 ^ 62) ≤ j ∧ j < 2 ^ 62) (.ok (rangeD i (j - i).toNat, yes) S1) .stuck
  | _ => .stuck
theorem RepL.one_inv {K : PySem.W.Frag} {ι : List Addr} {H : Hp} {d : D} {vs : List V} (h : RepL K ι H [d] vs) : ∃ v, vs = [v] ∧ RepV K ι H d v := by
  rw [RepL] at h
  obtain ⟨v, r, rfl, rv, rs⟩ := h
  rw [RepL] at rs
  subst rs
  exact ⟨v, rfl, rv⟩
theorem RepL.two_inv {K : PySem.W.Frag} {ι : List Addr} {H : Hp} {d e : D} {vs : List V} (h : RepL K ι H [d, e] vs) : ∃ v u, vs = [v, u] ∧ RepV K ι H d v ∧ RepV K ι H e u := by
  rw [RepL] at h
  obtain ⟨v, r, rfl, rv, rs⟩ := h
  obtain ⟨u, rfl, ru⟩ := RepL.one_inv rs
  exact ⟨v, u, rfl, rv, ru⟩
theorem di_range1 {a : Expr} {g : Ev → Sto → R (List D)} {p pos : Pos} (hg : Gl X "range") (hm : X.mg "range" = none) (ha : DA X W [a] g) (hs : starEach [a] X.env = [(false, eval a X.env)] := by rfl) : DI X W tg (.Call (.Name "range" p) [a] [] pos) (iRange1 g) := by
  refine PI.imp (pi_range1 hg hm ha hs) fun σ H Rr ⟨ι, ρ, S, hE, hS, q⟩ => ⟨ι, ρ, S, hE, hS, (Post.bind q).mono fun ds S1 ι1 H1 G1 s1 h1 vs rs => ?_⟩
  (try unfold ifp at h1); split at h1
  · obtain ⟨v, rfl, rv⟩ := RepL.one_inv rs
    (try unfold ifp at h1); split at h1
    · rename_i hj
      exact ⟨_, by rw [int_at rv], hj.1, hj.2, h1.here s1 _ itr_ok⟩
    · exact h1.elim
  · exact h1.elim
open Classical in
noncomputable def forD (g : Sto → Prop) (T : Tg) (B Z : Ev → Sto → SR) : List D → Ev → Sto → SR
  | [], ρ, S => if g S then Z ρ S else .stuck
  | d :: ds, ρ, S => if g S then (match T d ρ S with
    | none => .stuck
    | some (ρ1, S1) => match B ρ1 S1 with
      | .nx ρ2 S2 => forD g T B Z ds ρ2 S2
      | .ct ρ2 S2 => forD g T B Z ds ρ2 S2
      | .bk ρ2 S2 => .nx ρ2 S2
      | .rt d S2 => .rt d S2
      | .er e ρ2 S2 => .er e ρ2 S2
      | .stuck => .stuck) else .stuck
noncomputable def sFor (f : Ev → Sto → R Src) (T : Tg) (B Z : Ev → Sto → SR) : Ev → Sto → SR := fun ρ S => (f ρ S).toS ρ fun q S1 => forD q.2 T B Z q.1 ρ S1
theorem for_read {K : PySem.W.Frag} {f : Ev → Sto → R Src} {T : Tg} {B Z : Ev → Sto → SR} : ∀ E σ H, rdS K W (sFor f T B Z) E σ H → tForE (rdI K W f) (rdG K T) (rdS K W B) (rdS K W Z) E σ H := fun E σ H ⟨ι, ρ, S, hE, hS, h⟩ => by
  refine ⟨ι, ρ, S, hE, hS, (PostS.bind h hE).mono fun q S1 ι1 H1 G1 s1 h1 J hJ => ?_⟩
  obtain ⟨ds, g⟩ := q
  refine ⟨fun i m σ' H' => m = ds.length - i ∧ i ≤ ds.length ∧ ∃ ι' ρ' S', Grow ι1 H1 ι' H' ∧ RepE K ι' H' σ' ρ' ∧ Sim K ι' H' S' ∧ PostS K W E ι' H' (forD g T B Z (ds.drop i) ρ' S'), ⟨_, rfl, Nat.zero_le _, ι1, ρ, S1, Grow.refl _ _, hE.grow G1, s1, h1⟩, ?_⟩
  rintro i m σ' H' ⟨rfl, hi, ι', ρ', S', G', e', s', h'⟩
  by_cases hlt : i < ds.length
  · rw [List.drop_eq_getElem_cons hlt] at h'
    unfold forD at h'
    (try unfold ifp at h'); split at h'
    · rename_i hg
      obtain ⟨-, item⟩ := hJ ι' H' S' G' s' hg
      obtain ⟨go, yl⟩ := item i ds[i] (List.getElem?_eq_some_iff.mpr ⟨hlt, rfl⟩)
      refine .inr ⟨go, fun σ2 H2 => ∃ ι2 ρ2 S2, Grow ι1 H1 ι2 H2 ∧ RepE K ι2 H2 σ2 ρ2 ∧ Sim K ι2 H2 S2 ∧ PostS K W E ι2 H2 (forD g T B Z (ds.drop (i + 1)) ρ2 S2), fun σ2 H2 hh => ⟨ds.length - (i + 1), by omega, rfl, hlt, hh⟩, fun x H2 y => ?_⟩
      obtain ⟨G2, s2, rx⟩ := yl x H2 y
      cases hT : T ds[i] ρ' S' with
      | none => simp only [hT] at h'; exact h'.elim
      | some q =>
        obtain ⟨ρ1, S2⟩ := q
        simp only [hT] at h'
        refine ⟨ι', ρ', S', ds[i], ρ1, S2, e'.grow G2, s2, rx, hT, fun ι3 H3 σ3 G3 s3 e3 => ⟨ι3, ρ1, S2, e3, s3, ?_⟩⟩
        have G13 := (G'.trans G2).trans G3
        have h3 := PostS.grow h' (G2.trans G3)
        cases hB : B ρ1 S2 with
        | nx ρ2 S3 => simp only [hB] at h3; exact fun ι4 H4 σ4 G4 s4 e4 => ⟨ι4, ρ2, S3, G13.trans G4, e4, s4, PostS.grow h3 G4⟩
        | ct ρ2 S3 => simp only [hB] at h3; exact fun ι4 H4 σ4 G4 s4 e4 => ⟨ι4, ρ2, S3, G13.trans G4, e4, s4, PostS.grow h3 G4⟩
        | bk ρ2 S3 => simp only [hB] at h3; exact h3
        | rt d S3 => simp only [hB] at h3; exact h3
        | er x ρ2 S3 => simp only [hB] at h3; exact h3
        | stuck => simp only [hB] at h3; exact h3
    · exact h'.elim
  · have e : i = ds.length := by omega
    subst e
    rw [List.drop_length] at h'
    unfold forD at h'
    (try unfold ifp at h'); split at h'
    · rename_i hg
      obtain ⟨stop, -⟩ := hJ ι' H' S' G' s' hg
      exact .inl ⟨stop _ (Nat.le_refl _), ι', ρ', S', e', s', h'⟩
    · exact h'.elim
theorem ds_for {iter : Expr} {body orelse : List Stmt} {f : Ev → Sto → R Src} {T : Tg} {B Z : Ev → Sto → SR} (hp : PassesOwn (model X.prog X.w) X.A X.env X.xe) (hc : X.calm = true) (hi : DI X W tg iter f) (hg : DG X tg T) (hb : DSs X W body B) (ho : DSs X W orelse Z)
    (hs : ∀ x, foldedSetIterable iter X.env x = pure x := by intro _; rfl) : DS X W (.For tg iter body orelse pos) (sFor f T B Z) := PS.imp (ps_forE hp hc hi hg hb ho hs) for_read
def whileD (c : Ev → Sto → R Bool) (B : Ev → Sto → SR) : Nat → Ev → Sto → SR
  | 0, _, _ => .stuck
  | n + 1, ρ, S => (c ρ S).toS ρ fun b S1 => if b = true then (match B ρ S1 with
      | .nx ρ2 S2 => whileD c B n ρ2 S2
      | .ct ρ2 S2 => whileD c B n ρ2 S2
      | .bk ρ2 S2 => .nx ρ2 S2
      | .rt d S2 => .rt d S2
      | .er e ρ2 S2 => .er e ρ2 S2
      | .stuck => .stuck) else .nx ρ S1
theorem ds_while (n : Nat) {c : Expr} {body : List Stmt} {t : Ev → Sto → R Bool} {B : Ev → Sto → SR} (hp : PassesOwn (model X.prog X.w) X.A X.env X.xe) (hc : DT X W c t) (hb : DSs X W body B) : DS X W (.While c body [] pos) (whileD t B n) := by
  refine PS.imp (ps_while hp hc hb) fun E σ H ⟨ι, ρ, S, hE, hS, h⟩ => ?_
  refine ⟨fun m σ' H' => ∃ ι' ρ' S', RepE X.K ι' H' σ' ρ' ∧ Sim X.K ι' H' S' ∧ PostS X.K W E ι' H' (whileD t B m ρ' S'), ⟨n, ι, ρ, S, hE, hS, h⟩, ?_⟩
  rintro m σ' H' ⟨ι', ρ', S', e', s', h'⟩
  cases m with
  | zero => exact h'.elim
  | succ m =>
    refine ⟨ι', ρ', S', e', s', (PostS.bind h' e').mono fun b S1 ι1 H1 G1 s1 h1 => ?_⟩
    cases b with
    | false => rw [if_neg (by decide)] at h1 ⊢; exact h1 ι1 H1 σ' (Grow.refl _ _) s1 (e'.grow G1)
    | true =>
      rw [if_pos rfl] at h1 ⊢
      refine ⟨fun σ2 H2 => ∃ ι2 ρ2 S2, RepE X.K ι2 H2 σ2 ρ2 ∧ Sim X.K ι2 H2 S2 ∧ PostS X.K W E ι2 H2 (whileD t B m ρ2 S2), fun σ2 H2 hh => ⟨m, Nat.lt_succ_self _, hh⟩, ι1, ρ', S1, e'.grow G1, s1, ?_⟩
      cases hB : B ρ' S1 with
      | nx ρ2 S3 => simp only [hB] at h1; exact fun ι4 H4 σ4 G4 s4 e4 => ⟨ι4, ρ2, S3, e4, s4, PostS.grow h1 G4⟩
      | ct ρ2 S3 => simp only [hB] at h1; exact fun ι4 H4 σ4 G4 s4 e4 => ⟨ι4, ρ2, S3, e4, s4, PostS.grow h1 G4⟩
      | bk ρ2 S3 => simp only [hB] at h1; exact h1
      | rt d S3 => simp only [hB] at h1; exact h1
      | er x ρ2 S3 => simp only [hB] at h1; exact h1
      | stuck => simp only [hB] at h1; exact h1
end
end DL
namespace DL
open PySem PySem.Spec L2
open PyProof.Rows hiding St
mutual
def low (n : Nat) : D → Bool
  | .loc m => decide (m < n)
  | .tup ds => lowL n ds
  | .fl ds => lowL n ds
  | .kl ds => lowL n ds
  | .ktp ds => lowL n ds
  | .ztp ds => lowL n ds
  | .fd kvs => lowK n kvs
  | .exc _ fs => lowF n fs
  | .non => true
  | .bl _ => true
  | .int _ => true
  | .str _ => true
  | .ty _ => true
  | .fn _ => true
def lowL (n : Nat) : List D → Bool
  | [] => true
  | d :: ds => low n d && lowL n ds
def lowK (n : Nat) : List (Key × D) → Bool
  | [] => true
  | (_, d) :: ds => low n d && lowK n ds
def lowF (n : Nat) : List (Str × D) → Bool
  | [] => true
  | (_, d) :: ds => low n d && lowF n ds
end
def lowKT (n : Nat) : List (List Key × D) → Bool
  | [] => true
  | (_, d) :: ds => low n d && lowKT n ds
def lowO (n : Nat) : Ob → Bool
  | .lst ds => lowL n ds
  | .ins _ fs => lowF n fs
  | .dct kvs => lowK n kvs
  | .dtt kvs => lowK n kvs
  | .scr ds => lowL n ds
  | .tpl ds => lowL n ds
  | .dkt kvs => lowKT n kvs
  | .dkl kvs => lowKT n kvs
section
variable {K : PySem.W.Frag} {ι : List Addr} {H : Hp}
theorem take_out {a : Addr} {n : Nat} (h : a ∉ ι) : a ∉ ι.take n := fun z => h (List.mem_of_mem_take z)
mutual
theorem RepV.low (n : Nat) : ∀ (d : D) (v : V), RepV K ι H d v → DL.low n d = true → RepV K (ι.take n) H d v
  | .non, _, h, _ => by rw [RepV] at h ⊢; exact h
  | .bl _, _, h, _ => by rw [RepV] at h ⊢; exact h
  | .int _, _, h, _ => by rw [RepV] at h ⊢; exact h
  | .str _, _, h, _ => by rw [RepV] at h ⊢; exact h
  | .ty _, _, h, _ => by rw [RepV] at h ⊢; exact h
  | .fn _, _, h, _ => by rw [RepV] at h ⊢; exact h
  | .loc m, _, h, l => by
    rw [RepV] at h ⊢
    obtain ⟨a, e, r⟩ := h
    have l : m < n := by simpa [DL.low] using l
    exact ⟨a, by rw [List.getElem?_take_of_lt l]; exact e, r⟩
  | .tup ds, _, h, l => by
    rw [RepV] at h ⊢
    obtain ⟨a, vs, e, t, r⟩ := h
    refine ⟨a, vs, e, ?_, RepL.low n ds vs r (by simpa [DL.low] using l)⟩
    rcases t with ⟨t1, t2⟩ | t
    · exact .inl ⟨take_out t1, t2⟩
    · exact .inr t
  | .fl ds, _, h, l => by
    rw [RepV] at h ⊢
    obtain ⟨a, vs, e, t, r⟩ := h
    exact ⟨a, vs, e, ⟨take_out t.1, t.2⟩, RepL.low n ds vs r (by simpa [DL.low] using l)⟩
  | .kl ds, _, h, l => by
    rw [RepV] at h ⊢
    obtain ⟨a, vs, e, t, r⟩ := h
    refine ⟨a, vs, e, ?_, RepL.low n ds vs r (by simpa [DL.low] using l)⟩
    rcases t with ⟨t1, t2⟩ | t
    · exact .inl ⟨take_out t1, t2⟩
    · exact .inr t
  | .ktp ds, _, h, l => by
    rw [RepV] at h ⊢
    obtain ⟨a, vs, e, t, r⟩ := h
    exact ⟨a, vs, e, ⟨take_out t.1, t.2⟩, RepL.low n ds vs r (by simpa [DL.low] using l)⟩
  | .ztp ds, _, h, l => by
    rw [RepV] at h ⊢
    obtain ⟨a, vs, e, t, r⟩ := h
    exact ⟨a, vs, e, t, RepL.low n ds vs r (by simpa [DL.low] using l)⟩
  | .fd kvs, _, h, l => by
    rw [RepV] at h ⊢
    obtain ⟨a, vs, e, m, t, r⟩ := h
    exact ⟨a, vs, e, take_out m, t, RepK.low n kvs vs r (by simpa [DL.low] using l)⟩
  | .exc c fs, _, h, l => by
    rw [RepV] at h ⊢
    obtain ⟨a, cls, dd, e, m, t, rc, r⟩ := h
    refine ⟨a, cls, dd, e, take_out m, t, rc, ?_⟩
    rcases r with r | ⟨d, vs, e1, e2, e3, e4⟩
    · exact .inl r
    · exact .inr ⟨d, vs, e1, take_out e2, e3, RepF.low n fs vs e4 (by simpa [DL.low] using l)⟩
theorem RepL.low (n : Nat) : ∀ (ds : List D) (vs : List V), RepL K ι H ds vs → DL.lowL n ds = true → RepL K (ι.take n) H ds vs
  | [], _, h, _ => by rw [RepL] at h ⊢; exact h
  | d :: ds, _, h, l => by
    rw [RepL] at h ⊢
    obtain ⟨v, r, e, a, b⟩ := h
    simp only [DL.lowL, Bool.and_eq_true] at l
    exact ⟨v, r, e, RepV.low n d v a l.1, RepL.low n ds r b l.2⟩
theorem RepK.low (n : Nat) : ∀ (ds : List (Key × D)) (vs : List (Key × V)), RepK K ι H ds vs → DL.lowK n ds = true → RepK K (ι.take n) H ds vs
  | [], _, h, _ => by rw [RepK] at h ⊢; exact h
  | (k, d) :: ds, _, h, l => by
    rw [RepK] at h ⊢
    obtain ⟨v, r, e, a, b⟩ := h
    simp only [DL.lowK, Bool.and_eq_true] at l
    exact ⟨v, r, e, RepV.low n d v a l.1, RepK.low n ds r b l.2⟩
theorem RepF.low (n : Nat) : ∀ (ds : List (Str × D)) (vs : List (Str × V)), RepF K ι H ds vs → DL.lowF n ds = true → RepF K (ι.take n) H ds vs
  | [], _, h, _ => by rw [RepF] at h ⊢; exact h
  | (k, d) :: ds, _, h, l => by
    rw [RepF] at h ⊢
    obtain ⟨v, r, e, a, b⟩ := h
    simp only [DL.lowF, Bool.and_eq_true] at l
    exact ⟨v, r, e, RepV.low n d v a l.1, RepF.low n ds r b l.2⟩
end
theorem RepKT.low (n : Nat) : ∀ (ds : List (List Key × D)) (vs : List (List Key × V)), RepKT K ι H ds vs → DL.lowKT n ds = true → RepKT K (ι.take n) H ds vs
  | [], _, h, _ => by rw [RepKT] at h ⊢; exact h
  | (k, d) :: ds, _, h, l => by
    rw [RepKT] at h ⊢
    obtain ⟨v, r, e, a, b⟩ := h
    simp only [DL.lowKT, Bool.and_eq_true] at l
    exact ⟨v, r, e, RepV.low n d v a l.1, RepKT.low n ds r b l.2⟩
theorem RepO.low {a : Addr} {o : Ob} (n : Nat) (h : RepO K ι H a o) (l : DL.lowO n o = true) : RepO K (ι.take n) H a o := by
  cases o with
  | lst ds => obtain ⟨vs, q, r⟩ := h; exact ⟨vs, q, RepL.low n ds vs r l⟩
  | ins C fs => obtain ⟨C', dx, vs, nc, q, r⟩ := h; exact ⟨C', dx, vs, nc, q, RepF.low n fs vs r l⟩
  | dct ks => obtain ⟨vs, q, r⟩ := h; exact ⟨vs, q, RepK.low n ks vs r l⟩
  | dtt ks => obtain ⟨o, vs, q, r⟩ := h; exact ⟨o, vs, q, RepK.low n ks vs r l⟩
  | scr ds => obtain ⟨o, vs, q, r⟩ := h; exact ⟨o, vs, q, RepL.low n ds vs r l⟩
  | tpl ds => obtain ⟨o, vs, q, c1, c2, r⟩ := h; exact ⟨o, vs, q, c1, c2, RepL.low n ds vs r l⟩
  | dkt ks => obtain ⟨vs, q, r⟩ := h; exact ⟨vs, q, RepKT.low n ks vs r l⟩
  | dkl ks => obtain ⟨o, vs, q, r⟩ := h; exact ⟨o, vs, q, RepKT.low n ks vs r l⟩
mutual
theorem RepV.isLow : ∀ (d : D) (v : V), RepV K ι H d v → DL.low ι.length d = true
  | .non, _, _ => rfl
  | .bl _, _, _ => rfl
  | .int _, _, _ => rfl
  | .str _, _, _ => rfl
  | .ty _, _, _ => rfl
  | .fn _, _, _ => rfl
  | .loc m, _, h => by
    rw [RepV] at h
    obtain ⟨a, e, _⟩ := h
    simpa [DL.low] using (List.getElem?_eq_some_iff.mp e).1
  | .tup ds, _, h => by
    rw [RepV] at h
    obtain ⟨a, vs, e, t, r⟩ := h
    simpa [DL.low] using RepL.isLow ds vs r
  | .fl ds, _, h => by
    rw [RepV] at h
    obtain ⟨a, vs, e, t, r⟩ := h
    simpa [DL.low] using RepL.isLow ds vs r
  | .kl ds, _, h => by
    rw [RepV] at h
    obtain ⟨a, vs, e, t, r⟩ := h
    simpa [DL.low] using RepL.isLow ds vs r
  | .ktp ds, _, h => by
    rw [RepV] at h
    obtain ⟨a, vs, e, t, r⟩ := h
    simpa [DL.low] using RepL.isLow ds vs r
  | .ztp ds, _, h => by
    rw [RepV] at h
    obtain ⟨a, vs, e, t, r⟩ := h
    simpa [DL.low] using RepL.isLow ds vs r
  | .fd ds, _, h => by
    rw [RepV] at h
    obtain ⟨a, vs, e, m, t, r⟩ := h
    simpa [DL.low] using RepK.isLow ds vs r
  | .exc c ds, _, h => by
    rw [RepV] at h
    obtain ⟨a, cls, dd, e, m, t, rc, r⟩ := h
    rcases r with ⟨_, rfl⟩ | ⟨d, vs, e1, e2, e3, e4⟩
    · rfl
    · simpa [DL.low] using RepF.isLow ds vs e4
theorem RepL.isLow : ∀ (ds : List D) (vs : List V), RepL K ι H ds vs → DL.lowL ι.length ds = true
  | [], _, _ => rfl
  | d :: ds, _, h => by
    rw [RepL] at h
    obtain ⟨v, r, e, a, b⟩ := h
    simp only [DL.lowL, Bool.and_eq_true]
    exact ⟨RepV.isLow d v a, RepL.isLow ds r b⟩
theorem RepK.isLow : ∀ (ds : List (Key × D)) (vs : List (Key × V)), RepK K ι H ds vs → DL.lowK ι.length ds = true
  | [], _, _ => rfl
  | (k, d) :: ds, _, h => by
    rw [RepK] at h
    obtain ⟨v, r, e, a, b⟩ := h
    simp only [DL.lowK, Bool.and_eq_true]
    exact ⟨RepV.isLow d v a, RepK.isLow ds r b⟩
theorem RepF.isLow : ∀ (ds : List (Str × D)) (vs : List (Str × V)), RepF K ι H ds vs → DL.lowF ι.length ds = true
  | [], _, _ => rfl
  | (k, d) :: ds, _, h => by
    rw [RepF] at h
    obtain ⟨v, r, e, a, b⟩ := h
    simp only [DL.lowF, Bool.and_eq_true]
    exact ⟨RepV.isLow d v a, RepF.isLow ds r b⟩
end
theorem RepKT.isLow : ∀ (ds : List (List Key × D)) (vs : List (List Key × V)), RepKT K ι H ds vs → DL.lowKT ι.length ds = true
  | [], _, _ => rfl
  | (k, d) :: ds, _, h => by
    rw [RepKT] at h
    obtain ⟨v, r, e, a, b⟩ := h
    simp only [DL.lowKT, Bool.and_eq_true]
    exact ⟨RepV.isLow d v a, RepKT.isLow ds r b⟩
theorem RepO.isLow {a : Addr} {o : Ob} (h : RepO K ι H a o) : DL.lowO ι.length o = true := by
  cases o with
  | lst ds => obtain ⟨vs, q, r⟩ := h; exact RepL.isLow ds vs r
  | ins C fs => obtain ⟨C', dx, vs, nc, q, r⟩ := h; exact RepF.isLow fs vs r
  | dct ks => obtain ⟨vs, q, r⟩ := h; exact RepK.isLow ks vs r
  | dtt ks => obtain ⟨o, vs, q, r⟩ := h; exact RepK.isLow ks vs r
  | scr ds => obtain ⟨o, vs, q, r⟩ := h; exact RepL.isLow ds vs r
  | tpl ds => obtain ⟨o, vs, q, c1, c2, r⟩ := h; exact RepL.isLow ds vs r
  | dkt ks => obtain ⟨vs, q, r⟩ := h; exact RepKT.isLow ks vs r
  | dkl ks => obtain ⟨o, vs, q, r⟩ := h; exact RepKT.isLow ks vs r
end
/-- the elder places hold what they held, or nothing that points to a younger one -/
def Trunc (S S' : Sto) : Prop := S.length ≤ S'.length ∧ ∀ k o, k < S.length → S'[k]? = some o → S[k]? = some o ∨ lowO S.length o = true
theorem Trunc.same (S l : Sto) : Trunc S (S ++ l) := ⟨by simp, fun k o h e => .inl (by rw [List.getElem?_append_left h] at e; exact e)⟩
theorem Sim.trunc {K : PySem.W.Frag} {ι ι' : List Addr} {H H' : Hp} {S S' : Sto} (s : Sim K ι H S) (s' : Sim K ι' H' S') (G : Grow ι H ι' H') (t : Trunc S S') : Sim K ι H' (S'.take S.length) ∧ Grow ι H ι H' := by
  have hp : ι'.take ι.length = ι := by
    obtain ⟨r, e⟩ := G.pre
    rw [← e, List.take_left]
  refine ⟨⟨s.nd, by rw [s.len, List.length_take]; have := t.1; omega, fun n a o e1 e2 => ?_⟩, List.prefix_rfl, G.keep, fun _ z n => absurd z n, G.frz⟩
  have hn : n < S.length := by rw [← s.len]; exact (List.getElem?_eq_some_iff.mp e1).1
  rw [List.getElem?_take_of_lt hn] at e2
  have e1' := getElem?_pre G.pre e1
  have r' := s'.ob n a o e1' e2
  have l : lowO S.length o = true := by
    rcases t.2 n o hn e2 with h | h
    · have := (s.ob n a o e1 h).isLow
      rw [s.len] at this; exact this
    · exact h
  have := r'.low S.length l
  rw [← s.len, hp] at this
  exact this
theorem RepV.trunc {K : PySem.W.Frag} {ι ι' : List Addr} {H H' : Hp} {S : Sto} {d : D} {v : V} (s : Sim K ι H S) (G : Grow ι H ι' H') (r : RepV K ι' H' d v) (l : DL.low S.length d = true) : RepV K ι H' d v := by
  have hp : ι'.take S.length = ι := by
    obtain ⟨r, e⟩ := G.pre
    rw [← s.len, ← e, List.take_left]
  have := RepV.low S.length d v r l
  rw [hp] at this; exact this
theorem RepL.trunc {K : PySem.W.Frag} {ι ι' : List Addr} {H H' : Hp} {S : Sto} {ds : List D} {vs : List V} (s : Sim K ι H S) (G : Grow ι H ι' H') (r : RepL K ι' H' ds vs) (l : lowL S.length ds = true) : RepL K ι H' ds vs := by
  have hp : ι'.take S.length = ι := by
    obtain ⟨r, e⟩ := G.pre
    rw [← s.len, ← e, List.take_left]
  have := RepL.low S.length ds vs r l
  rw [hp] at this; exact this
theorem RepF.trunc {K : PySem.W.Frag} {ι ι' : List Addr} {H H' : Hp} {S : Sto} {ds : List (Str × D)} {vs : List (Str × V)} (s : Sim K ι H S) (G : Grow ι H ι' H') (r : RepF K ι' H' ds vs) (l : lowF S.length ds = true) : RepF K ι H' ds vs := by
  have hp : ι'.take S.length = ι := by
    obtain ⟨r, e⟩ := G.pre
    rw [← s.len, ← e, List.take_left]
  have := RepF.low S.length ds vs r l
  rw [hp] at this; exact this
abbrev W0 : WX := fun _ _ _ _ => False
open Classical in
noncomputable def compD (g : Sto → Prop) (T : Tg) (c : Ev → Sto → R Bool) (f : Ev → Sto → R D) (n : Nat) (ρ : Ev) : List D → Sto → Option Sto
  | [], S => if g S then some S else none
  | d :: ds, S => if g S then (match T d ρ S with
    | none => none
    | some (ρ1, S1) => match c ρ1 S1 with
      | .ok b S2 => if b = true then (match f ρ1 S2 with
          | .ok y S3 => (match getL S3 n with
            | some acc => ifp (acc.length < sizeLine) (compD g T c f n ρ ds (S3.set n (.lst (acc ++ [y])))) none
            | none => none)
          | _ => none) else compD g T c f n ρ ds S2
      | _ => none) else none
def cYes : Ev → Sto → R Bool := fun _ S => .ok true S
/-- how the list stays: in the store, or frozen -/
def finLoc (S : Sto) (S' : Sto) : R D := .ok (.loc S.length) S'
open Classical in
noncomputable def finFl (S : Sto) (S' : Sto) : R D := match getL S' S.length with
  | some acc => if Trunc S S' ∧ S'.length = S.length + 1 ∧ lowL S.length acc = true then .ok (.fl acc) (S'.take S.length) else .stuck
  | none => .stuck
def FinOk (fin : Sto → Sto → R D) : Prop := ∀ (K : PySem.W.Frag) (W : WX) (σ : St) (ι ι' : List Addr) (H H0 H' : Hp) (S S' : Sto) (Da : Addr) (Q : VK), Sim K ι H S → H Da = none → Grow ι H ι H0 → (∀ b, b ≠ Da → H0 b = H b) → Sim K ι' H' S' → Grow (ι ++ [Da]) H0 ι' H' →
  Post K W σ ι H (fin S S') (fun d _ ι' H' => ∀ v, RepV K ι' H' d v → Q v H') → Q (.ref Da) H'
theorem fin_grow {ι ι' : List Addr} {H H0 H' : Hp} {Da : Addr} (n : H Da = none) (hb : ∀ b, b ≠ Da → H0 b = H b) (G : Grow (ι ++ [Da]) H0 ι' H') : Grow ι H ι' H' where
  pre := (List.prefix_append _ _).trans G.pre
  keep := fun a o e na => by
    have hne : a ≠ Da := ne_of_none e n
    refine G.keep a o (by rw [hb a hne]; exact e) fun z => ?_
    rcases List.mem_append.mp z with z | z
    · exact na z
    · exact hne (List.mem_singleton.mp z)
  fresh := fun a z na => by
    by_cases hne : a = Da
    · rw [hne]; exact n
    · have := G.fresh a z fun y => by
        rcases List.mem_append.mp y with y | y
        · exact na y
        · exact hne (List.mem_singleton.mp y)
      rw [hb a hne] at this; exact this
  frz := fun a od u e => G.frz a od u (by rw [hb a (ne_of_none e n)]; exact e)
theorem fin_loc : FinOk finLoc := fun K W σ ι ι' H H0 H' S S' Da Q s n G0 hb s' G h => by
  refine h ι' H' (fin_grow n hb G) s' _ ?_
  rw [RepV]
  exact ⟨Da, getElem?_pre G.pre (by rw [← s.len]; simp), rfl⟩
theorem fin_fl : FinOk finFl := fun K W σ ι ι' H H0 H' S S' Da Q s n G0 hb s' G h => by
  unfold finFl at h
  (try unfold ifp at h); split at h
  · rename_i acc ha
    (try unfold ifp at h); split at h
    · rename_i hh
      obtain ⟨t, hl, hlow⟩ := hh
      have G1 := fin_grow n hb G
      obtain ⟨s2, G2⟩ := s.trunc s' G1 t
      have ea : ι'[S.length]? = some Da := getElem?_pre G.pre (by rw [← s.len]; simp)
      obtain ⟨vs, h1, h2⟩ := s'.ob _ _ _ ea (getL_some ha)
      refine h ι H' G2 s2 _ ?_
      rw [RepV]
      refine ⟨Da, vs, rfl, ⟨fun z => ?_, h1⟩, RepL.trunc s G1 h2 hlow⟩
      obtain ⟨u, e⟩ := s.there z
      rw [n] at e; cases e
    · exact h.elim
  · exact h.elim
/-- the target of a comprehension: its own slots, its store, by the very slots -/
structure CT (K : PySem.W.Frag) (vs : List Nat) (g : TG) (T : Tg) : Prop where
  wipeE : ∀ (ι : List Addr) (H : Hp) (σ : St) (ρ : Ev), RepE K ι H σ ρ → RepE K ι H (wipe σ vs) (ρ.mapIdx fun i d => if i ∈ vs then none else d)
  run : ∀ (ι : List Addr) (H : Hp) (S S' : Sto) (σ : St) (ρ ρ' : Ev) (d : D) (v : V) (Q : St → Hp → Prop), RepE K ι H (wipe σ vs) ρ → Sim K ι H S → RepV K ι H d v → T d ρ S = some (ρ', S') → S' = S ∧
    ((∀ σ', wipe σ' vs = wipe σ vs → RepE K ι H σ' ρ' → Q σ' H) → g v (wipe σ vs) H Q)
def wipeD (ρ : Ev) (vs : List Nat) : Ev := ρ.mapIdx fun i d => if i ∈ vs then none else d
noncomputable def eLc (fin : Sto → Sto → R D) (src : Ev → Sto → R Src) (T : Tg) (vs : List Nat) (c : Ev → Sto → R Bool) (f : Ev → Sto → R D) : Ev → Sto → R D := fun ρ S => (src ρ S).bind fun q S1 => match compD q.2 T c f S1.length (wipeD ρ vs) q.1 (S1 ++ [.lst []]) with
  | some S2 => fin S1 S2
  | none => .stuck
section
variable {X : Cx} {W : WX} {pos : Pos}
theorem lc_read {fin : Sto → Sto → R D} {K : PySem.W.Frag} {src : Ev → Sto → R Src} {g : TG} {T : Tg} {vs : List Nat} {c : Ev → Sto → R Bool} {f : Ev → Sto → R D} (hfin : FinOk fin) (ct : CT K vs g T) :
    ∀ σ H Q, rdE K W (eLc fin src T vs c f) σ H Q → tLc (rdI K W src) g (rdT K W0 c) (rdE K W0 f) vs σ H Q := fun σ H Q ⟨ι, ρ, S, hE, hS, h⟩ => by
  refine ⟨ι, ρ, S, hE, hS, (Post.bind h).mono fun q S1 ι1 H1 G1 s1 h1 J hJ Da hDa => ?_⟩
  obtain ⟨ds, gd⟩ := q
  cases hc : compD gd T c f S1.length (wipeD ρ vs) ds (S1 ++ [.lst []]) with
  | none => simp only [hc] at h1; exact h1.elim
  | some S2 =>
    simp only [hc] at h1
    have G0 : Grow ι1 H1 (ι1 ++ [Da]) (upd H1 Da (.lst [])) := Grow.push hDa
    have hE1 := ct.wipeE _ _ _ _ (hE.grow G1)
    refine ⟨fun i m H' => m = ds.length - i ∧ i ≤ ds.length ∧ ∃ ι' S', Grow (ι1 ++ [Da]) (upd H1 Da (.lst [])) ι' H' ∧ Sim K ι' H' S' ∧ compD gd T c f S1.length (wipeD ρ vs) (ds.drop i) S' = some S2,
      ⟨_, rfl, Nat.zero_le _, ι1 ++ [Da], (S1 ++ [Ob.lst []] : Sto), Grow.refl _ _, s1.push (b := Ob.lst []) hDa ⟨[], upd_same, RepL.nil⟩, hc⟩, ?_⟩
    rintro i m H' ⟨rfl, hi, ι', S', G', s', h'⟩
    have Gt : Grow ι1 H1 ι' H' := G0.trans G'
    have hE' : RepE K ι' H' (wipe σ vs) (wipeD ρ vs) := hE1.grow Gt
    have eD : ι'[S1.length]? = some Da := getElem?_pre G'.pre (by rw [← s1.len]; simp)
    by_cases hlt : i < ds.length
    · rw [List.drop_eq_getElem_cons hlt] at h'
      unfold compD at h'
      (try unfold ifp at h'); split at h'
      · rename_i hg
        obtain ⟨-, item⟩ := hJ ι' H' S' Gt s' hg
        obtain ⟨go, yl⟩ := item i ds[i] (List.getElem?_eq_some_iff.mpr ⟨hlt, rfl⟩)
        refine .inr ⟨go, fun H2 => ∃ ι2 S2', Grow (ι1 ++ [Da]) (upd H1 Da (.lst [])) ι2 H2 ∧ Sim K ι2 H2 S2' ∧ compD gd T c f S1.length (wipeD ρ vs) (ds.drop (i + 1)) S2' = some S2, fun H2 hh => ⟨ds.length - (i + 1), by omega, rfl, hlt, hh⟩, fun x H2 y => ?_⟩
        obtain ⟨G2, s2, rx⟩ := yl x H2 y
        cases hT : T ds[i] (wipeD ρ vs) S' with
        | none => simp only [hT] at h'; cases h'
        | some q =>
          obtain ⟨ρ1, S3⟩ := q
          simp only [hT] at h'
          obtain ⟨e3, run⟩ := ct.run ι' H2 S' S3 σ _ ρ1 ds[i] x (fun σ2 H2 => wipe σ2 vs = wipe σ vs ∧ rdT K W0 c σ2 H2 fun b H3 =>
            if b = true then rdE K W0 f σ2 H3 fun y H4 => ∃ acc, H4 Da = some (.lst acc) ∧ acc.length < sizeLine ∧ ∃ ι2 S2', Grow (ι1 ++ [Da]) (upd H1 Da (.lst [])) ι2 (upd H4 Da (.lst (acc ++ [y]))) ∧ Sim K ι2 (upd H4 Da (.lst (acc ++ [y]))) S2' ∧ compD gd T c f S1.length (wipeD ρ vs) (ds.drop (i + 1)) S2' = some S2
            else ∃ ι2 S2', Grow (ι1 ++ [Da]) (upd H1 Da (.lst [])) ι2 H3 ∧ Sim K ι2 H3 S2' ∧ compD gd T c f S1.length (wipeD ρ vs) (ds.drop (i + 1)) S2' = some S2) (hE'.grow G2) s2 rx hT
          subst e3
          refine run fun σ2 hw e2 => ⟨hw, ι', ρ1, S3, e2, s2, ?_⟩
          cases hcc : c ρ1 S3 with
          | stuck => simp only [hcc] at h'; cases h'
          | er x S4 => simp only [hcc] at h'; cases h'
          | ok b S4 =>
            simp only [hcc] at h'
            intro ι3 H3 G3 s3
            cases b with
            | false =>
              rw [if_neg (by decide)] at h' ⊢
              exact ⟨ι3, S4, (G'.trans G2).trans G3, s3, h'⟩
            | true =>
              rw [if_pos rfl] at h' ⊢
              refine ⟨ι3, ρ1, S4, e2.grow G3, s3, ?_⟩
              cases hf : f ρ1 S4 with
              | stuck => simp only [hf] at h'; cases h'
              | er x S5 => simp only [hf] at h'; cases h'
              | ok z S5 =>
                simp only [hf] at h'
                intro ι4 H4 G4 s4 v rv
                cases hL : getL S5 S1.length with
                | none => simp only [hL] at h'; cases h'
                | some acc =>
                  simp only [hL] at h'
                  (try unfold ifp at h'); split at h'
                  · rename_i hz
                    have e4 : ι4[S1.length]? = some Da := getElem?_pre G4.pre (getElem?_pre G3.pre eD)
                    obtain ⟨us, h5, h6⟩ := s4.ob _ _ _ e4 (getL_some hL)
                    have G5 : Grow ι4 H4 ι4 (upd H4 Da (.lst (us ++ [v]))) := Grow.put (List.mem_of_getElem? e4) h5 (fun _ _ z => by cases z)
                    refine ⟨us, h5, by rw [← RepL.length _ _ h6]; exact hz, ι4, _, (((G'.trans G2).trans G3).trans G4).trans G5, s4.put (b := .lst (acc ++ [z])) e4 h5 (fun _ _ z => by cases z) ⟨_, upd_same, ?_⟩, h'⟩
                    exact RepL.app _ _ (RepL.grow G5 _ _ h6) _ _ (RepL.one (RepV.grow G5 _ _ rv))
                  · cases h'
      · cases h'
    · have e : i = ds.length := by omega
      subst e
      rw [List.drop_length] at h'
      unfold compD at h'
      (try unfold ifp at h'); split at h'
      · rename_i hg
        cases h'
        obtain ⟨stop, -⟩ := hJ ι' H' S2 Gt s' hg
        exact .inl ⟨stop _ (Nat.le_refl _), hfin K W σ ι1 ι' H1 _ H' S1 S2 Da Q s1 hDa (Grow.upd hDa) (fun b hb => upd_ne hb) s' G' h1⟩
      · cases h'
theorem getElem?_wipe {ρ : Ev} {vs : List Nat} {i : Nat} {d : D} (h : (wipeD ρ vs)[i]? = some (some d)) : i ∉ vs ∧ ρ[i]? = some (some d) := by
  unfold wipeD at h
  rw [List.getElem?_mapIdx] at h
  cases e : ρ[i]? with
  | none => rw [e] at h; cases h
  | some x =>
    rw [e] at h
    simp only [Option.map_some, Option.some.injEq] at h
    by_cases hi : i ∈ vs
    · rw [if_pos hi] at h; cases h
    · rw [if_neg hi] at h; exact ⟨hi, by rw [h]⟩
theorem wipe_get (σ : St) : ∀ (vs : List Nat) (i : Nat), i ∉ vs → (wipe σ vs)[i]? = σ[i]?
  | [], _, _ => rfl
  | v :: vs, i, h => by
    unfold wipe
    rw [List.getElem?_set_ne (fun e => h (by rw [← e]; exact List.mem_cons_self))]
    exact wipe_get σ vs i fun z => h (List.mem_cons_of_mem _ z)
theorem wipe_rep {K : PySem.W.Frag} (vs : List Nat) : ∀ (ι : List Addr) (H : Hp) (σ : St) (ρ : Ev), RepE K ι H σ ρ → RepE K ι H (wipe σ vs) (wipeD ρ vs) := fun ι H σ ρ h => by
  refine ⟨by rw [wipe_length]; simp [wipeD, h.1], fun i d e => ?_⟩
  obtain ⟨hi, e⟩ := getElem?_wipe e
  obtain ⟨v, e', r⟩ := h.2 i d e
  exact ⟨v, by rw [wipe_get σ vs i hi]; exact e', r⟩
theorem ct_name {K : PySem.W.Frag} (i : Nat) : CT K [i] (gName i) (tN i) where
  wipeE := wipe_rep [i]
  run := fun ι H S S' σ ρ ρ' d v Q hE s r e => by
    cases e
    refine ⟨rfl, fun h => ?_⟩
    refine h ((wipe σ [i]).set i (some v)) ?_ (hE.set r i)
    simp [wipe]
theorem ct_pair {K : PySem.W.Frag} (i j : Nat) (hij : i ≠ j) : CT K [i, j] (gTup K 2 (gCons (gName i) (gCons (gName j) gNil))) (tTup 2 (tCons (tN i) (tCons (tN j) tNil))) where
  wipeE := wipe_rep [i, j]
  run := fun ι H S S' σ ρ ρ' d v Q hE s r e => by
    cases d with
    | tup ds =>
      match ds, r, e with
      | [a, b], r, e =>
        have e : some ((ρ.set i (some a)).set j (some b), S) = some (ρ', S') := e
        cases e
        refine ⟨rfl, fun h => ?_⟩
        obtain ⟨p, vs, rfl, q, rl⟩ := tup_at r
        obtain ⟨x, y, rfl, rx, ry⟩ := RepL.two_inv rl
        refine ⟨p, [x, y], rfl, q, rfl, x, [y], rfl, y, [], rfl, rfl, ?_⟩
        refine h _ ?_ ((hE.set rx i).set ry j)
        apply List.ext_getElem?
        intro k
        simp only [wipe, List.getElem?_set]
        by_cases h1 : i = k <;> by_cases h2 : j = k <;> simp [h1, h2]
      | [], r, e => cases e
      | [_], r, e => cases e
      | _ :: _ :: _ :: _, r, e => simp [tTup] at e
    | _ => cases e
theorem de_lc {fin : Sto → Sto → R D} {elt tg iter : Expr} {ifs : List Expr} {scope : Scope} {own : List (Str × Nat)} {src : Ev → Sto → R Src} {g : TG} {T : Tg} {c : Ev → Sto → R Bool} {f : Ev → Sto → R D} (hfin : FinOk fin) (ct : CT X.K (own.map (·.2)) g T) (hc : X.calm = true) (hN : X.N.Nodup) (hi : DI X W tg iter src) (ok : BlkOk X.N X.env.scope scope own)
    (hg : ∀ (s : Shared) (H : Hp) (C : Addr) (cl : List (Str × Addr)) (fp : List Addr), PG (X.blk s H scope (compEnvC scope cl C X.env) fp) tg g) (ht : ∀ (s : Shared) (H : Hp) (C : Addr) (cl : List (Str × Addr)) (fp : List Addr), PTs (X.blk s H scope (compEnvC scope cl C X.env) fp) ifs (rdT X.K W0 c))
    (he : ∀ (s : Shared) (H : Hp) (C : Addr) (cl : List (Str × Addr)) (fp : List Addr), DE (X.blk s H scope (compEnvC scope cl C X.env) fp) W0 elt f) (hs : ∀ x, foldedSetIterable iter X.env x = pure x := by intro _; rfl) :
    DE X W (.ListComp elt [⟨tg, iter, ifs, 0⟩] scope pos) (eLc fin src T (own.map (·.2)) c f) := PE.imp (pe_lc hc hN hi ok hg ht he hs) (lc_read hfin ct)
/-- name = [..] -/
theorem ds_setLc (i : Nat) {y : Str} {py spos : Pos} {fin : Sto → Sto → R D} {elt tg iter : Expr} {ifs : List Expr} {scope : Scope} {own : List (Str × Nat)} {src : Ev → Sto → R Src} {g : TG} {T : Tg} {c : Ev → Sto → R Bool} {f : Ev → Sto → R D} (hfin : FinOk fin) (ct : CT X.K (own.map (·.2)) g T) (hc : X.calm = true) (hN : X.N.Nodup) (hi : DI X W tg iter src) (ok : BlkOk X.N X.env.scope scope own)
    (hg : ∀ (s : Shared) (H : Hp) (C : Addr) (cl : List (Str × Addr)) (fp : List Addr), PG (X.blk s H scope (compEnvC scope cl C X.env) fp) tg g) (ht : ∀ (s : Shared) (H : Hp) (C : Addr) (cl : List (Str × Addr)) (fp : List Addr), PTs (X.blk s H scope (compEnvC scope cl C X.env) fp) ifs (rdT X.K W0 c))
    (he : ∀ (s : Shared) (H : Hp) (C : Addr) (cl : List (Str × Addr)) (fp : List Addr), DE (X.blk s H scope (compEnvC scope cl C X.env) fp) W0 elt f) (hy : X.N[i]? = some y := by rfl) (hyl : X.env.scope.names.lookup y = some .local := by rfl)
    (hsw : swapsWith (.ListComp elt [⟨tg, iter, ifs, 0⟩] scope pos) (some (.Name y py)) spos.line X.env = pure true := by exact sw_true rfl rfl rfl (by decide +kernel)) (hs : ∀ x, foldedSetIterable iter X.env x = pure x := by intro _; rfl) :
    DS X W (.Assign [.Name y py] (.ListComp elt [⟨tg, iter, ifs, 0⟩] scope pos) spos) (sSet i (eLc fin src T (own.map (·.2)) c f)) :=
  PS.imp (ps_setLc hc hN hy hyl hsw hi ok hg ht he hs) fun E σ H q => by
    obtain ⟨ι, ρ, S, hE, hS, h⟩ := q
    refine lc_read (W := W) hfin ct σ H _ ⟨ι, ρ, S, hE, hS, (PostS.bind h hE).mono fun d S1 ι1 H1 G1 s1 h1 v rv => ?_⟩
    exact h1 ι1 H1 _ (Grow.refl _ _) s1 ((hE.grow G1).set rv i)
theorem dts_nil : PTs X [] (rdT X.K W0 cYes) := ⟨fun pins s σ H Q I ⟨ι, ρ, S, hE, hS, h⟩ => pts_nil.run pins s σ H Q I (h.here hS)⟩
theorem dts_one {c : Expr} {t : Ev → Sto → R Bool} (h : DT X W0 c t) : PTs X [c] (rdT X.K W0 t) := pts_one h
end
end DL
namespace DL
open PySem PySem.Spec L2
open PyProof.Rows hiding St
abbrev Fn := List D → Sto → R D
def PostX (K : PySem.W.Frag) (E : XK) (ι : List Addr) (H : Hp) (r : R D) (Q : VK) : Prop := match r with
  | .ok d S' => ∀ ι' H' v, Grow ι H ι' H' → Sim K ι' H' S' → RepV K ι' H' d v → Q v H'
  | .er e S' => ∀ ι' H' cls dd, Grow ι H ι' H' → Sim K ι' H' S' → RepX K ι' H' e cls dd → E cls dd H'
  | .stuck => False
def spD (K : PySem.W.Frag) (F : Fn) : Sp := fun vs H Q E => ∃ ι S ds, RepL K ι H ds vs ∧ Sim K ι H S ∧ PostX K E ι H (F ds S) Q
/-- the def at f does what F says, called by position -/
def FnD (gd : Bool) (P : Program) (w : World) (K : PySem.W.Frag) (mg : Str → Option Value) (base : Heap) (k : Nat) (f : Addr) (F : Fn) : Prop :=
  ∀ (A : Around) (outer : List Env) (s : Shared) (H : Hp) (us : List Value) (vs : List V) (Q : VK) (E : XK), Room k A → (gd = true → A.guards = some []) → Env0 P w K mg base A outer s H → Vals vs us → spD K F vs H Q E →
    codeAny (model P w) A (.call (.ref f) ⟨us, []⟩) (CR (L2.CX P w) outer P w H s Q E) s
theorem FnD.mono {gd : Bool} {P : Program} {w : World} {K : PySem.W.Frag} {mg : Str → Option Value} {base : Heap} {j k : Nat} {f : Addr} {F : Fn} (h : FnD gd P w K mg base j f F) (hj : j ≤ k) : FnD gd P w K mg base k f F :=
  fun A outer s H us vs Q E hr => h A outer s H us vs Q E (hr.mono hj)
open Classical in
noncomputable def close (S : Sto) (d : D) (S' : Sto) : R D :=
  if S'.length = S.length then .ok d S' else if Trunc S S' ∧ low S.length d = true then .ok d (S'.take S.length) else match d with
    | .loc m => (match getL S' m with
      | some ds => if Trunc S S' ∧ lowL S.length ds = true then .ok (.fl ds) (S'.take S.length) else .stuck
      | none => .stuck)
    | _ => .stuck
open Classical in
noncomputable def closeE (S : Sto) (e : Ex) (S' : Sto) : R D := if S'.length = S.length then .er e S' else if Trunc S S' ∧ lowF S.length e.fs = true then .er e (S'.take S.length) else .stuck
/-- nothing is dropped -/
def closeK (_ : Sto) (d : D) (S' : Sto) : R D := .ok d S'
def ClOk (cl : Sto → D → Sto → R D) : Prop := ∀ (K : PySem.W.Frag) (E : XK) (ι ι' : List Addr) (H H' : Hp) (S S' : Sto) (d : D) (v : V) (Q : VK), Sim K ι H S → Sim K ι' H' S' → Grow ι H ι' H' → RepV K ι' H' d v → PostX K E ι H (cl S d S') Q → Q v H'
theorem cl_keep : ClOk closeK := fun K E ι ι' H H' S S' d v Q s s' G r h => h ι' H' v G s' r
theorem cl_drop : ClOk close := fun K E ι ι' H H' S S' d v Q s s' G r h => by
  unfold close at h
  split at h
  · exact h ι' H' v G s' r
  · rename_i hl
    split at h
    · rename_i hh
      obtain ⟨s2, G2⟩ := s.trunc s' G hh.1
      exact h ι H' v G2 s2 (RepV.trunc s G r hh.2)
    · rename_i hlow
      split at h
      · rename_i m
        split at h
        · rename_i ds hd
          split at h
          · rename_i hh
            obtain ⟨s2, G2⟩ := s.trunc s' G hh.1
            refine h ι H' v G2 s2 ?_
            rw [RepV] at r
            obtain ⟨a, ea, rfl⟩ := r
            obtain ⟨vs, h1, h2⟩ := s'.ob _ _ _ ea (getL_some hd)
            have hm : ¬ m < S.length := fun z => hlow ⟨hh.1, by simpa [low] using z⟩
            rw [RepV]
            refine ⟨a, vs, rfl, ⟨fun z => ?_, h1⟩, RepL.trunc s G h2 hh.2⟩
            obtain ⟨n, hn, en⟩ := List.mem_iff_getElem.mp z
            have e1 : ι'[n]? = some a := getElem?_pre G.pre (List.getElem?_eq_some_iff.mpr ⟨hn, en⟩)
            obtain ⟨q1, q2⟩ := List.getElem?_eq_some_iff.mp e1
            obtain ⟨q3, q4⟩ := List.getElem?_eq_some_iff.mp ea
            have : n = m := (List.getElem_inj s'.nd).mp (q2.trans q4.symm)
            rw [← s.len] at hm
            omega
          · exact h.elim
        · exact h.elim
      · exact h.elim
theorem cl_err {K : PySem.W.Frag} {E : XK} {ι ι' : List Addr} {H H' : Hp} {S S' : Sto} {e : Ex} {cls : Value} {dd : Option Addr} {Q : VK} (s : Sim K ι H S) (s' : Sim K ι' H' S') (G : Grow ι H ι' H') (r : RepX K ι' H' e cls dd) (h : PostX K E ι H (closeE S e S') Q) : E cls dd H' := by
  unfold closeE at h
  split at h
  · exact h ι' H' cls dd G s' r
  · split at h
    · rename_i hh
      obtain ⟨s2, G2⟩ := s.trunc s' G hh.1
      refine h ι H' cls dd G2 s2 ⟨r.1, ?_⟩
      rcases r.2 with r2 | ⟨a, vs, e1, e2, e3, e4⟩
      · exact .inl r2
      · refine .inr ⟨a, vs, e1, fun z => e2 ?_, e3, RepF.trunc s G e4 hh.2⟩
        obtain ⟨t, rfl⟩ := G.pre
        exact List.mem_append_left _ z
    · exact h.elim
def startD (n : Nat) (ds : List D) : Ev := ds.map some ++ List.replicate (n - ds.length) none
noncomputable def fnC (cl : Sto → D → Sto → R D) (n : Nat) (m : Nat) (B : Ev → Sto → SR) : Fn := fun ds S => if ds.length = m then (match B (startD n ds) S with
  | .nx _ S' => cl S .non S'
  | .rt d S' => cl S d S'
  | .er e _ S' => closeE S e S'
  | _ => .stuck) else .stuck
theorem start_rep {K : PySem.W.Frag} {ι : List Addr} {H : Hp} {ds : List D} {vs : List V} (N : List Str) (r : RepL K ι H ds vs) : RepE K ι H (start N vs) (startD N.length ds) := by
  have hl := RepL.length _ _ r
  refine ⟨by simp [L2.start, startD, hl], fun i d e => ?_⟩
  unfold startD at e
  by_cases hi : i < ds.length
  · rw [List.getElem?_append_left (by simpa using hi), List.getElem?_map] at e
    cases q : ds[i]? with
    | none => rw [q] at e; cases e
    | some x =>
      rw [q] at e; cases e
      obtain ⟨v, hv, rv⟩ := RepL.get _ _ r i d q
      refine ⟨v, ?_, rv⟩
      unfold L2.start
      rw [List.getElem?_append_left (by simp [← hl]; exact hi), List.getElem?_map, hv]
      rfl
  · rw [List.getElem?_append_right (by simpa using hi), List.getElem?_replicate] at e
    split at e <;> cases e
/-- how the body's reading gives the def's -/
theorem body_read {K : PySem.W.Frag} {cl : Sto → D → Sto → R D} (hcl : ClOk cl) {N : List Str} {m : Nat} {B : Ev → Sto → SR} {vs : List V} {H : Hp} {Q : VK} {E : XK} (h : spD K (fnC cl N.length m B) vs H Q E) :
    vs.length = m ∧ rdS K (fun cls d _ H' => E cls d H') B { nx := fun _ H' => Q .non H', rt := Q } (start N vs) H := by
  obtain ⟨ι, S, ds, rl, s, h⟩ := h
  unfold fnC at h
  split at h
  · rename_i hm
    refine ⟨by rw [← RepL.length _ _ rl]; exact hm, ι, startD N.length ds, S, start_rep N rl, s, ?_⟩
    cases hB : B (startD N.length ds) S with
    | nx ρ S' => simp only [hB] at h; exact fun ι' H' σ' G s' e => hcl K E ι ι' H H' S S' .non .non Q s s' G non_rep h
    | rt d S' => simp only [hB] at h; exact fun ι' H' v G s' r => hcl K E ι ι' H H' S S' d v Q s s' G r h
    | er e ρ S' => simp only [hB] at h; exact fun ι' H' σ' cls dd G s' _ r => cl_err s s' G r h
    | bk ρ S' => simp only [hB] at h; exact h.elim
    | ct ρ S' => simp only [hB] at h; exact h.elim
    | stuck => simp only [hB] at h; exact h.elim
  · exact h.elim
section
variable {gd : Bool} {P : Program} {w : World} {K : PySem.W.Frag} {mg : Str → Option Value} {base : Heap} {k : Nat} {f : Addr} {fd : FuncData} {N ps : List Str}
/-- a def by its body -/
theorem fnD_of {x qual : Str} {st : Stmt} {cl : Sto → D → Sto → R D} {B : Ev → Sto → SR} (F : Fun K x qual st f fd) (sc : FnScope N ps (defScope st)) (hb : Binds K fd ps []) (hcl : ClOk cl)
    (hbody : ∀ (cdv : Value) (A : Around) (outer : List Env) (s : Shared) (H : Hp) (E : XK), Room k (A.deeper (envOfC qual (defScope st) s.heap.objs.size f cdv)) → (gd = true → A.guards = some []) →
      Takes (cxOf (L2.CX P w) P w K mg base N qual (defScope st) f cdv A outer s H E) (fun cls d _ H' => E cls d H') →
      PassesOwn (model P w) (A.deeper (envOfC qual (defScope st) s.heap.objs.size f cdv)) (envOfC qual (defScope st) s.heap.objs.size f cdv) (cxOf (L2.CX P w) P w K mg base N qual (defScope st) f cdv A outer s H E).xe →
      DSs (cxOf (L2.CX P w) P w K mg base N qual (defScope st) f cdv A outer s H E) (fun cls d _ H' => E cls d H') (defBody st) B) : FnD gd P w K mg base (k + 1) f (fnC cl N.length ps.length B) := by
  intro A outer s H us vs Q E hr hgd e0 rv hsp
  obtain ⟨oc, od, kV, doc, pm, an, cdv, ct, osl, efd, lk, hcd⟩ := F.ex
  obtain ⟨hl, rd⟩ := body_read (N := N) hcl hsp
  have hlu : us.length = ps.length := by rw [← rv.length]; exact hl
  have kept : ∀ b o, base.get? b = some o → s.heap.get? b = some o := fun b o e => (e0.bs b o e).1
  have KX : K.In s.heap := e0.mod.kin.keeps kept
  have bd := hb s us KX (by rw [List.append_nil]; exact hlu)
  rw [List.append_nil, efd] at bd
  rw [efd] at lk
  have hkind : ∀ y ∈ ps.zip us, (defScope st).names.lookup y.1 = some .local ∨ ((defScope st).names.lookup y.1 = some .cell ∧
      ((cellsFrom (s.heap.objs.size + 1) (defScope st).names []).lookup y.1).isSome = true) := by
    rintro ⟨n, v⟩ hy
    exact (sc.par n (List.of_mem_zip hy).1).imp id fun q => ⟨q, PySem.W.cellsFrom_some _ _ _ (.inl q)⟩
  refine codeAny_call_function hr.depth (KX _ _ lk) rfl sc.co sc.gen rfl
    (PySem.W.codeRec_of KX hcd) (bd _ _ _ _ (wpAny_newFunctionEnv_cells sc.kind hkind fun env he s1 ic => ?_))
  subst he
  refine ⟨(e0.mod.nolimit.keeps kept).keeps ic.toInCall.keep, codeAny_func ?_⟩
  have I := inv_start (CX := L2.CX P w) (P := P) (w := w) (E := E) sc hr.hd e0 hl rv ic
  have body := hbody cdv A outer s H E (hr.deeper _) hgd (takes_of rfl rfl rfl rfl) (passes_of rfl)
  refine wpAny_mono (body.run [] s1 (start N vs) H _ I rd) (fun fl s' hs => ?_) fun e s' hs => hs
  cases fl with
  | ret u =>
    obtain ⟨v, σ', H', J, r', q⟩ := hs
    exact ⟨v, H', J.os, J.bare, J.base, J.hok, r', q⟩
  | next =>
    obtain ⟨σ', H', J, q⟩ := hs
    exact ⟨V.non, H', J.os, J.bare, J.base, J.hok, rfl, q⟩
  | brk => obtain ⟨_, _, _, q⟩ := hs; exact False.elim q
  | cont => obtain ⟨_, _, _, q⟩ := hs; exact False.elim q
end
def eCall (F : Fn) (g : Ev → Sto → R (List D)) : Ev → Sto → R D := fun ρ S => (g ρ S).bind fun ds S1 => F ds S1
theorem PostX.of {K : PySem.W.Frag} {W : WX} {σ : St} {ι : List Addr} {H : Hp} {r : R D} {Q : VK} (h : Post K W σ ι H r fun d _ ι' H' => ∀ v, RepV K ι' H' d v → Q v H') : PostX K (WE W σ) ι H r Q := by
  cases r with
  | ok d S => exact fun ι' H' v G s r => h ι' H' G s v r
  | er e S => exact h
  | stuck => exact h
section
variable {X : Cx} {W : WX} {gd : Bool} {k : Nat} {f : Addr} {F : Fn} {x : Str} {p pos : Pos} {e : Expr} {es : List Expr} {g : Ev → Sto → R (List D)}
theorem run_fnD {pins : List (Addr × Obj)} {σ : St} {H : Hp} {s : Shared} {Q : VK} {us : List Value} {vs : List V} (hF : FnD gd X.prog X.w X.K X.mg X.base k f F) (hr : Room k X.A) (hG : gd = true → X.A.guards = some []) (tk : Takes X W)
    (I : Inv X pins σ H s) (r : Vals vs us) (h : spD X.K F vs H Q (WE W σ)) : wpAny (model X.prog X.w) X.A (call (.ref f) us) (EP X pins σ Q) X.xe s := by
  refine wpAny_call (codeAny_mono (hF X.A X.stack s H us vs Q (WE W σ) hr hG I.env0 r h) fun res s' hq => ?_)
  cases res with
  | error er => exact passAt tk σ pins H s er s' I hq
  | ok fl =>
    cases fl with
    | ret u => exact I.after hq
    | next => exact False.elim hq
    | brk => exact False.elim hq
    | cont => exact False.elim hq
theorem de_callD (hF : FnD gd X.prog X.w X.K X.mg X.base k f F) (hr : Room k X.A) (hG : gd = true → X.A.guards = some []) (tk : Takes X W) (hm : X.mg x = some (.ref f)) (hk : PySem.W.keepIn X.K (.ref f) = true) (ha : DA X W (e :: es) g) (hg : Gl X x := by rfl) (hdb : (x == ("__debug__" : Str)) = false := by decide)
    (he : starEach (e :: es) X.env = (false, eval e X.env) :: starEach es X.env := by rfl) (hpl : (backTo pos (starEach es X.env)).any (·.1) = false := by rfl) : DE X W (.Call (.Name x p) (e :: es) [] pos) (eCall F g) := by
  refine ⟨fun pins s σ H Q I ⟨ι, ρ, S, hE, hS, h⟩ => ?_⟩
  refine wpAny_Call_Name_kw (ld_glob I hg hm ?_ hdb)
  have rd : rdA X.K W g σ H fun vs H1 => spD X.K F vs H1 Q (WE W σ) := ⟨ι, ρ, S, hE, hS, (Post.bind h).mono fun ds S1 ι1 H1 G1 s1 h1 vs rs => ⟨ι1, S1, ds, rs, s1, PostX.of h1⟩⟩
  exact PySem.W.callWith_K (h₀ := X.base) I.ok.mod.kin hk (thn (ha.run pos pins s σ H _ I rd) fun us s1 ⟨vs, H1, I1, r1, q1⟩ => ⟨I1.kIn, run_fnD hF hr hG tk I1 r1 q1⟩) he hpl
end
end DL
namespace DL
open PySem PySem.Spec L2
open PyProof.Rows hiding St
def CallK (K : PySem.W.Frag) (r : List V → Hp → VK → Prop) (b : Fn) : Prop := ∀ (W : WX) (σ : St) (ι : List Addr) (H : Hp) (S : Sto) (vs : List V) (ds : List D) (Q : VK), Sim K ι H S → RepL K ι H ds vs →
  Post K W σ ι H (b ds S) (fun d _ ι' H' => ∀ v, RepV K ι' H' d v → Q v H') → r vs H Q
theorem CallR.or {X : Cx} {f : Value} {r r' : List V → Hp → VK → Prop} (h : CallR X f r) (h' : CallR X f r') : CallR X f (fun vs H Q => r vs H Q ∨ r' vs H Q) := by
  intro pins s σ H vs us Q I rv q
  rcases q with q | q
  · exact h pins s σ H vs us Q I rv q
  · exact h' pins s σ H vs us Q I rv q
section
variable {X : Cx} {W : WX} {x : Str} {p pos : Pos} {e : Expr} {es : List Expr} {g : Ev → Sto → R (List D)} {id T : String} {r : List V → Hp → VK → Prop} {b : Fn}
theorem cb_read {K : PySem.W.Frag} (k : CallK K r b) : ∀ σ H Q, rdE K W (eCall b g) σ H Q → tCB r (rdA K W g) σ H Q := fun σ H Q ⟨ι, ρ, S, hE, hS, h⟩ =>
  ⟨ι, ρ, S, hE, hS, (Post.bind h).mono fun ds S1 ι1 H1 G1 s1 h1 vs rs => k W σ ι1 H1 S1 vs ds Q s1 rs h1⟩
theorem de_callB (hc : CallR X (.builtin id) r) (k : CallK X.K r b) (hm : X.mg x = none) (hv : bootBuiltins x = some (.builtin id)) (ha : DA X W (e :: es) g) (hg : Gl X x := by rfl) (hn : x ≠ "__name__" := by decide) (hdb : (x == ("__debug__" : Str)) = false := by decide)
    (he : starEach (e :: es) X.env = (false, eval e X.env) :: starEach es X.env := by rfl) (hpl : (backTo pos (starEach es X.env)).any (·.1) = false := by rfl) : DE X W (.Call (.Name x p) (e :: es) [] pos) (eCall b g) :=
  PE.imp (pe_callB hc hg hm hv ha hn hdb he hpl) (cb_read k)
theorem de_callTy (hc : CallR X (.type T) r) (k : CallK X.K r b) (hm : X.mg x = none) (hv : bootBuiltins x = some (.type T)) (ha : DA X W (e :: es) g) (hg : Gl X x := by rfl) (hn : x ≠ "__name__" := by decide) (hdb : (x == ("__debug__" : Str)) = false := by decide)
    (he : starEach (e :: es) X.env = (false, eval e X.env) :: starEach es X.env := by rfl) (hpl : (backTo pos (starEach es X.env)).any (·.1) = false := by rfl) : DE X W (.Call (.Name x p) (e :: es) [] pos) (eCall b g) :=
  PE.imp (pe_callTy hc hg hm hv ha hn hdb he hpl) (cb_read k)
end
section
variable {X : Cx} {K : PySem.W.Frag}
noncomputable def bLen : Fn := fun ds S => match ds with
  | [.str z] => ifp (z.length ≤ sizeLine) (.ok (.int z.length) S) .stuck
  | [d] => (match seqOf S d with
    | some xs => .ok (.int xs.length) S
    | none => .stuck)
  | _ => .stuck
theorem c_len : CallR X (.builtin "len") (fun xs H Q => (∃ z, xs = [.str z] ∧ z.length ≤ sizeLine ∧ Q (.int z.length) H) ∨ ∃ p ys, xs = [.ref p] ∧ (SqL X.K H p ys ∨ SqT X.K H p ys) ∧ Q (.int ys.length) H) := CallR.or call_len_str call_len_seq
theorem k_len : CallK K (fun xs H Q => (∃ z, xs = [.str z] ∧ z.length ≤ sizeLine ∧ Q (.int z.length) H) ∨ ∃ p ys, xs = [.ref p] ∧ (SqL K H p ys ∨ SqT K H p ys) ∧ Q (.int ys.length) H) bLen := by
  intro W σ ι H S vs ds Q s rl h
  unfold bLen at h
  (try unfold ifp at h); split at h
  · obtain ⟨v, rfl, rv⟩ := RepL.one_inv rl
    (try unfold ifp at h); split at h
    · rename_i hz
      exact .inl ⟨_, by rw [str_at rv], hz, h.here s _ int_rep⟩
    · exact h.elim
  · obtain ⟨v, rfl, rv⟩ := RepL.one_inv rl
    (try unfold ifp at h); split at h
    · rename_i xs hx
      obtain ⟨p, vs, rfl, q, rq⟩ := seq_at s rv hx
      refine .inr ⟨p, vs, rfl, q, ?_⟩
      rw [← RepL.length _ _ rq]
      exact h.here s _ int_rep
    · exact h.elim
  · exact h.elim
def bAbs : Fn := fun ds S => match ds with
  | [.int i] => .ok (.int (if i < 0 then -i else i)) S
  | _ => .stuck
theorem k_abs : CallK K (fun xs H Q => ∃ i, xs = [.int i] ∧ Q (.int (if i < 0 then -i else i)) H) bAbs := by
  intro W σ ι H S vs ds Q s rl h
  unfold bAbs at h
  (try unfold ifp at h); split at h
  · obtain ⟨v, rfl, rv⟩ := RepL.one_inv rl
    exact ⟨_, by rw [int_at rv], h.here s _ int_rep⟩
  · exact h.elim
def intsOf : List D → Option (List Int)
  | [] => some []
  | .int i :: ds => (intsOf ds).map fun is => i :: is
  | _ => none
theorem intsOf_rep {ι : List Addr} {H : Hp} : ∀ (ds : List D) (vs : List V) (is : List Int), RepL K ι H ds vs → intsOf ds = some is → vs = is.map V.int
  | [], vs, is, r, e => by rw [RepL] at r; cases e; subst r; rfl
  | d :: ds, vs, is, r, e => by
    rw [RepL] at r
    obtain ⟨v, us, rfl, a, b⟩ := r
    cases d with
    | int i =>
      have e : (intsOf ds).map (fun is => i :: is) = some is := e
      cases h : intsOf ds with
      | none => rw [h] at e; cases e
      | some js =>
        rw [h] at e; cases e
        rw [int_at a, intsOf_rep ds us js b h]; rfl
    | _ => cases e
theorem intsOf_map (is : List Int) : intsOf (is.map D.int) = some is := by
  induction is with
  | nil => rfl
  | cons i is ih => simp [intsOf, ih]
def boolsOf : List D → Option (List Bool)
  | [] => some []
  | .bl i :: ds => (boolsOf ds).map fun is => i :: is
  | _ => none
theorem boolsOf_rep {ι : List Addr} {H : Hp} : ∀ (ds : List D) (vs : List V) (is : List Bool), RepL K ι H ds vs → boolsOf ds = some is → vs = is.map V.bl
  | [], vs, is, r, e => by rw [RepL] at r; cases e; subst r; rfl
  | d :: ds, vs, is, r, e => by
    rw [RepL] at r
    obtain ⟨v, us, rfl, a, b⟩ := r
    cases d with
    | bl i =>
      have e : (boolsOf ds).map (fun is => i :: is) = some is := e
      cases h : boolsOf ds with
      | none => rw [h] at e; cases e
      | some js =>
        rw [h] at e; cases e
        rw [RepV] at a
        rw [a, boolsOf_rep ds us js b h]; rfl
    | _ => cases e
def maxL : List Int → Int
  | [] => 0
  | i :: is => is.foldl max i
def minL : List Int → Int
  | [] => 0
  | i :: is => is.foldl min i
def bMin : Fn := fun ds S => match ds with
  | [.int i, .int j] => .ok (.int (min i j)) S
  | [d] => (match (lstOf S d).bind intsOf with
    | some is => if is = [] then .stuck else .ok (.int (minL is)) S
    | none => .stuck)
  | _ => .stuck
theorem foldl_min_le (l : List Int) : ∀ i : Int, l.foldl min i ≤ i ∧ ∀ x ∈ l, l.foldl min i ≤ x := by
  induction l with
  | nil => intro i; simp
  | cons a l ih =>
    intro i
    obtain ⟨h1, h2⟩ := ih (min i a)
    refine ⟨by simp only [List.foldl_cons]; omega, fun x hx => ?_⟩
    simp only [List.foldl_cons]
    rcases List.mem_cons.mp hx with rfl | hx
    · omega
    · exact h2 x hx
theorem foldl_min_mem (l : List Int) : ∀ i : Int, l.foldl min i = i ∨ l.foldl min i ∈ l := by
  induction l with
  | nil => intro i; simp
  | cons a l ih =>
    intro i
    simp only [List.foldl_cons]
    rcases ih (min i a) with h | h
    · rw [h]
      by_cases hia : a ≤ i
      · exact .inr (by rw [Int.min_eq_right hia]; exact List.mem_cons_self)
      · exact .inl (by omega)
    · exact .inr (List.mem_cons_of_mem _ h)
theorem minL_spec {is : List Int} (h : is ≠ []) : minL is ∈ is ∧ ∀ x ∈ is, minL is ≤ x := by
  cases is with
  | nil => exact absurd rfl h
  | cons i l =>
    obtain ⟨h1, h2⟩ := foldl_min_le l i
    refine ⟨?_, fun x hx => ?_⟩
    · rcases foldl_min_mem l i with e | e
      · show l.foldl min i ∈ i :: l
        rw [e]; exact List.mem_cons_self
      · exact List.mem_cons_of_mem _ e
    · rcases List.mem_cons.mp hx with rfl | hx
      · exact h1
      · exact h2 x hx
theorem lst_ints {ι : List Addr} {H : Hp} {S : Sto} {d : D} {v : V} {is : List Int} (s : Sim K ι H S) (r : RepV K ι H d v) (e : (lstOf S d).bind intsOf = some is) : ∃ p, v = .ref p ∧ SqL K H p (is.map V.int) := by
  cases h : lstOf S d with
  | none => rw [h] at e; cases e
  | some ds =>
    rw [h] at e
    obtain ⟨p, vs, rfl, q, rl⟩ := lst_at s r h
    rw [intsOf_rep _ _ _ rl e] at q
    exact ⟨p, rfl, SqL.of q⟩
theorem c_min (hc : X.calm = true) : CallR X (.builtin "min") (fun xs H Q => (∃ i j, xs = [.int i, .int j] ∧ Q (.int (if j < i then j else i)) H) ∨ rMin X.K xs H Q) := CallR.or (call_min2 hc) (cr_min hc)
theorem k_min : CallK K (fun xs H Q => (∃ i j, xs = [.int i, .int j] ∧ Q (.int (if j < i then j else i)) H) ∨ rMin K xs H Q) bMin := by
  intro W σ ι H S vs ds Q s rl h
  unfold bMin at h
  (try unfold ifp at h); split at h
  · rename_i i j
    obtain ⟨v, u, rfl, rv, ru⟩ := RepL.two_inv rl
    refine .inl ⟨i, j, by rw [int_at rv, int_at ru], ?_⟩
    have : (if j < i then j else i) = min i j := by split <;> omega
    rw [this]
    exact h.here s _ int_rep
  · obtain ⟨v, rfl, rv⟩ := RepL.one_inv rl
    (try unfold ifp at h); split at h
    · rename_i is hi
      (try unfold ifp at h); split at h
      · exact h.elim
      · rename_i hne
        obtain ⟨p, rfl, q⟩ := lst_ints s rv hi
        obtain ⟨m1, m2⟩ := minL_spec hne
        refine .inr ⟨p, is, rfl, q, List.length_pos_iff.mpr hne, fun m hm hle => ?_⟩
        have : m = minL is := by have := hle _ m1; have := m2 _ hm; omega
        rw [this]
        exact h.here s _ int_rep
    · exact h.elim
  · exact h.elim
theorem lst_bools {ι : List Addr} {H : Hp} {S : Sto} {d : D} {v : V} {is : List Bool} (s : Sim K ι H S) (r : RepV K ι H d v) (e : (lstOf S d).bind boolsOf = some is) : ∃ p, v = .ref p ∧ SqL K H p (is.map V.bl) := by
  cases h : lstOf S d with
  | none => rw [h] at e; cases e
  | some ds =>
    rw [h] at e
    obtain ⟨p, vs, rfl, q, rl⟩ := lst_at s r h
    rw [boolsOf_rep _ _ _ rl e] at q
    exact ⟨p, rfl, SqL.of q⟩
def bAll : Fn := fun ds S => match ds with
  | [d] => (match (lstOf S d).bind boolsOf with
    | some is => .ok (.bl (is.all id)) S
    | none => .stuck)
  | _ => .stuck
theorem k_all : CallK K (rAll K) bAll := by
  intro W σ ι H S vs ds Q s rl h
  unfold bAll at h
  (try unfold ifp at h); split at h
  · obtain ⟨v, rfl, rv⟩ := RepL.one_inv rl
    (try unfold ifp at h); split at h
    · rename_i is hi
      obtain ⟨p, rfl, q⟩ := lst_bools s rv hi
      exact ⟨p, is, rfl, q, h.here s _ bl_rep⟩
    · exact h.elim
  · exact h.elim
def bList (mk : List D → Sto → R D) : Fn := fun ds S => match ds with
  | [d] => (match seqOf S d with
    | some xs => mk xs S
    | none => .stuck)
  | _ => .stuck
theorem k_list {mk : List D → Sto → R D} (m : MkOk mk) : CallK K (fun xs H Q => ∃ p ys, xs = [.ref p] ∧ (SqL K H p ys ∨ SqT K H p ys) ∧ ∀ l, H l = none → Q (.ref l) (upd H l (.lst ys))) (bList mk) := by
  intro W σ ι H S vs ds Q s rl h
  unfold bList at h
  (try unfold ifp at h); split at h
  · obtain ⟨v, rfl, rv⟩ := RepL.one_inv rl
    (try unfold ifp at h); split at h
    · rename_i xs hx
      obtain ⟨p, vs, rfl, q, rq⟩ := seq_at s rv hx
      exact ⟨p, vs, rfl, q, m _ _ _ _ _ _ _ _ _ h s rq⟩
    · exact h.elim
  · exact h.elim
def bTuple : Fn := fun ds S => match ds with
  | [d] => (match seqOf S d with
    | some xs => .ok (.tup xs) S
    | none => .stuck)
  | _ => .stuck
theorem k_tuple : CallK K (fun xs H Q => ∃ p ys, xs = [.ref p] ∧ ((SqL K H p ys ∧ ∀ l, H l = none → Q (.ref l) (upd H l (.tup ys))) ∨ (SqT K H p ys ∧ Q (.ref p) H))) bTuple := by
  intro W σ ι H S vs ds Q s rl h
  match ds, rl, h with
  | [], rl, h => exact (show False from h).elim
  | _ :: _ :: _, rl, h => exact (show False from h).elim
  | [d], rl, h =>
    obtain ⟨v, rfl, rv⟩ := RepL.one_inv rl
    replace h : Post K W σ ι H (match seqOf S d with
      | some xs => .ok (.tup xs) S
      | none => .stuck) (fun d _ ι' H' => ∀ v, RepV K ι' H' d v → Q v H') := h
    cases d with
    | tup ys =>
      have rv' := rv
      obtain ⟨p, vs, rfl, q, rq⟩ := tup_at rv
      exact ⟨p, vs, rfl, .inr ⟨q, Post.here (a := D.tup ys) h s _ rv'⟩⟩
    | fl ys =>
      rw [RepV] at rv
      obtain ⟨a, us, rfl, t, rl'⟩ := rv
      exact ⟨a, us, rfl, .inl ⟨t.sq, new_tup h s rl'⟩⟩
    | kl ys =>
      rw [RepV] at rv
      obtain ⟨a, us, rfl, t, rl'⟩ := rv
      exact ⟨a, us, rfl, .inl ⟨t.sq, new_tup h s rl'⟩⟩
    | loc n =>
      rw [RepV] at rv
      obtain ⟨a, ea, rfl⟩ := rv
      cases hq : getQ S n with
      | none =>
        have e : seqOf S (.loc n) = none := hq
        rw [e] at h; exact h.elim
      | some ys =>
        have e : seqOf S (.loc n) = some ys := hq
        rw [e] at h
        obtain ⟨us, z, rl'⟩ := loc_at s ea hq
        exact ⟨a, us, rfl, .inl ⟨z, new_tup h s rl'⟩⟩
    | _ => exact (show False from h).elim
def tyOf (S : Sto) : D → Option String
  | .non => some "NoneType"
  | .bl _ => some "bool"
  | .int _ => some "int"
  | .str _ => some "str"
  | .tup _ => some "tuple"
  | .fl _ => some "list"
  | .fd _ => some "dict"
  | .kl _ => none
  | .ktp _ => none
  | .ztp _ => none
  | .loc n => (match S[n]? with
    | some (.lst _) => some "list"
    | some (.dct _) => some "dict"
    | _ => none)
  | .ty _ => none
  | .fn _ => none
  | .exc _ _ => none
theorem ty_at {ι : List Addr} {H : Hp} {S : Sto} {d : D} {v : V} {t : String} (s : Sim K ι H S) (r : RepV K ι H d v) (e : tyOf S d = some t) : TyX K H v (.type t) := by
  cases d with
  | non => rw [RepV] at r; cases e; subst r; exact .base .non
  | bl b => rw [RepV] at r; cases e; subst r; exact .base (.bl b)
  | int b => rw [RepV] at r; cases e; subst r; exact .base (.int b)
  | str b => rw [RepV] at r; cases e; subst r; exact .base (.str b)
  | tup ds =>
    cases e
    rw [RepV] at r
    obtain ⟨a, vs, rfl, tt, rl⟩ := r
    rcases tt with tt | ⟨o, tt⟩ | tt | ⟨o, its, n, h1, h2, _⟩
    · exact .base (.tup tt.2)
    · exact .fTuple tt
    · exact (no_rd tt).elim
    · exact .kTuple h1 h2
  | fl ds =>
    cases e
    rw [RepV] at r
    obtain ⟨a, vs, rfl, tt, rl⟩ := r
    exact .base (.lst tt.2)
  | fd ds =>
    cases e
    rw [RepV] at r
    obtain ⟨a, vs, rfl, tt, h1, rl⟩ := r
    exact .base (.dK h1)
  | loc n =>
    rw [RepV] at r
    obtain ⟨a, ea, rfl⟩ := r
    have e : (match S[n]? with
      | some (.lst _) => some "list"
      | some (.dct _) => some "dict"
      | _ => none) = some t := e
    (try unfold ifp at e); split at e
    · rename_i q
      cases e
      obtain ⟨vs, h1, _⟩ := s.ob _ _ _ ea q
      exact .base (.lst h1)
    · rename_i q
      cases e
      obtain ⟨vs, h1, _⟩ := s.ob _ _ _ ea q
      exact .base (.dK h1)
    · cases e
  | ty b => cases e
  | kl b => cases e
  | ktp b => cases e
  | ztp b => cases e
  | fn b => cases e
  | exc c b => cases e
def bIsi : Fn := fun ds S => match ds with
  | [d, .ty c] => (match tyOf S d with
    | some t => (match kitB t c with
      | some b => .ok (.bl b) S
      | none => .stuck)
    | none => .stuck)
  | _ => .stuck
theorem k_isi : CallK K (rIsi K) bIsi := by
  intro W σ ι H S vs ds Q s rl h
  unfold bIsi at h
  (try unfold ifp at h); split at h
  · obtain ⟨v, u, rfl, rv, ru⟩ := RepL.two_inv rl
    rw [RepV] at ru
    (try unfold ifp at h); split at h
    · rename_i t ht
      (try unfold ifp at h); split at h
      · rename_i b hb
        refine ⟨v, u, .type t, .type _, b, rfl, ?_, ty_at s rv ht, kit_ty hb, h.here s _ bl_rep⟩
        subst ru
        exact .ty _
      · exact h.elim
    · exact h.elim
  · exact h.elim
end
section
variable {X : Cx} {W : WX} {pos : Pos} {a b c : Expr}
def eNeg (f : Ev → Sto → R D) : Ev → Sto → R D := fun ρ S => (f ρ S).bind fun d S1 => (iOf d S1).bind fun i S2 => .ok (.int (-i)) S2
theorem de_neg {f : Ev → Sto → R D} (ha : DE X W a f) : DE X W (.UnaryOp .USub a pos) (eNeg f) := by
  refine PE.imp (pe_un un_neg ha) fun σ H Q ⟨ι, ρ, S, hE, hS, h⟩ => ⟨ι, ρ, S, hE, hS, (Post.bind h).mono fun d S1 ι1 H1 G1 s1 h1 v rv => ?_⟩
  cases d with
  | int i => exact ⟨i, int_at rv, Post.here (a := D.int (-i)) h1 s1 _ int_rep⟩
  | _ => exact (show False from h1).elim
def eChain (o o' : D → D → Sto → R D) (f g h : Ev → Sto → R D) : Ev → Sto → R D := fun ρ S => (f ρ S).bind fun x S1 => (g ρ S1).bind fun y S2 => (o x y S2).bind fun z S3 => (bOf z S3).bind fun k S4 => if k = true then (h ρ S4).bind fun w S5 => o' y w S5 else .ok (.bl false) S4
theorem chain_read {r r' : R2} {o o' : D → D → Sto → R D} {f g h : Ev → Sto → R D} (k : OpK X.K r o) (k' : OpK X.K r' o') : ∀ σ H Q, rdE X.K W (eChain o o' f g h) σ H Q → tChain r r' (rdE X.K W f) (rdE X.K W g) (rdE X.K W h) σ H Q := fun σ H Q ⟨ι, ρ, S, hE, hS, q⟩ => by
  refine ⟨ι, ρ, S, hE, hS, (Post.bind q).mono fun x S1 ι1 H1 G1 s1 h1 vx rx => ?_⟩
  refine ⟨ι1, ρ, S1, hE.grow G1, s1, (Post.bind h1).mono fun y S2 ι2 H2 G2 s2 h2 vy ry => ?_⟩
  refine k W σ ι2 H2 S2 vx vy x y _ s2 (RepV.grow G2 _ _ rx) ry ((Post.bind h2).mono fun z S3 ι3 H3 G3 s3 h3 vz rz => ?_)
  obtain ⟨b, e, h4⟩ := bOf_bind h3 s3 rz
  refine ⟨b, e, ?_⟩
  have hE3 := ((hE.grow G1).grow G2).grow G3
  cases b with
  | false => rw [if_neg (by decide)] at h4 ⊢; exact h4.here s3 _ bl_rep
  | true =>
    rw [if_pos rfl] at h4 ⊢
    refine ⟨ι3, ρ, S3, hE3, s3, (Post.bind h4).mono fun w S4 ι4 H4 G4 s4 h5 vw rw' => ?_⟩
    exact k' W σ ι4 H4 S4 vy vw y w Q s4 (RepV.grow G4 _ _ (RepV.grow G3 _ _ ry)) rw' h5
theorem de_chain {op op' : CmpOp} {r r' : R2} {o o' : D → D → Sto → R D} {f g h : Ev → Sto → R D} (ho : OpR X (compareOp op) r) (k : OpK X.K r o) (ho' : OpR X (compareOp op') r') (k' : OpK X.K r' o') (ha : DE X W a f) (hb : DE X W b g) (hc : DE X W c h)
    (hm : lastMarks [op, op'] [b, c] = false := by with_unfolding_all rfl) : DE X W (.Compare a [op, op'] [b, c] pos) (eChain o o' f g h) := PE.imp (pe_chain ho ho' ha hb hc hm) (chain_read k k')
end
end DL
namespace DL
open PySem PySem.Spec L2
open PyProof.Rows hiding St
abbrev Mt := D → List D → Sto → R D
def MtK (K : PySem.W.Frag) (r : V → List V → Hp → VK → Prop) (m : Mt) : Prop := ∀ (W : WX) (σ : St) (ι : List Addr) (H : Hp) (S : Sto) (x : V) (vs : List V) (a : D) (ds : List D) (Q : VK), Sim K ι H S → RepV K ι H a x → RepL K ι H ds vs →
  Post K W σ ι H (m a ds S) (fun d _ ι' H' => ∀ v, RepV K ι' H' d v → Q v H') → r x vs H Q
def isLst (S : Sto) (d : D) : Bool := (lstOf S d).isSome
def eMt (c : Sto → D → Bool) (m : Mt) (f : Ev → Sto → R D) (g : Ev → Sto → R (List D)) : Ev → Sto → R D := fun ρ S => (f ρ S).bind fun a S1 => if c S1 a = true then (g ρ S1).bind fun ds S2 => m a ds S2 else .stuck
def isStr (_ : Sto) (d : D) : Bool := match d with
  | .str _ => true
  | _ => false
def ChkOk (T : String) (c : Sto → D → Bool) : Prop := ∀ (K : PySem.W.Frag) (ι : List Addr) (H : Hp) (S : Sto) (d : D) (x : V), Sim K ι H S → RepV K ι H d x → c S d = true → tyV K T x H
theorem chk_lst : ChkOk "list" isLst := fun K ι H S d x s r h => by
  unfold isLst at h
  cases e : lstOf S d with
  | none => rw [e] at h; cases h
  | some ds =>
    obtain ⟨p, vs, rfl, q, _⟩ := lst_at s r e
    exact .inl ⟨rfl, vs, SqL.of q⟩
theorem chk_str : ChkOk "str" isStr := fun K ι H S d x s r h => by
  cases d with
  | str z => rw [str_at r]; rfl
  | _ => cases h
section
variable {X : Cx} {W : WX} {o e : Expr} {es : List Expr} {apos cpos : Pos} {T id : String} {name : Str} {r : V → List V → Hp → VK → Prop} {c : Sto → D → Bool} {m : Mt} {f : Ev → Sto → R D} {g : Ev → Sto → R (List D)}
theorem de_bm (pa : PlainAttrs T) (slot : Slot T name id) (hty : typeOf (.builtin id) = pure (.type "method_descriptor")) (hm : MtR X id r) (k : MtK X.K r m) (hc : ChkOk T c) (ho : DE X W o f) (ha : DA X W (e :: es) g)
    (hbase : attributeBase o name X.env (eval o X.env) = eval o X.env := by rfl)
    (hfew : ((backTo cpos (starEach (e :: es) X.env)).all (fun x => !x.1) && (backToKw cpos (keywordEach [] X.env)).all (fun x => x.1.isSome)
      && decide ((e :: es).length + ([] : List Keyword).length + (if ([] : List Keyword).isEmpty then 0 else 1) < 30)) = true := by rfl)
    (hline : (apos.endLine == cpos.line) = true := by rfl) (hs : starEach (e :: es) X.env = (false, eval e X.env) :: starEach es X.env := by rfl)
    (hplain : (backTo cpos (starEach es X.env)).any (·.1) = false := by rfl) : DE X W (.Call (.Attribute o name apos) (e :: es) [] cpos) (eMt c m f g) := by
  refine PE.imp (pe_bm pa slot hty hm ho ha hbase hfew hline hs hplain) fun σ H Q ⟨ι, ρ, S, hE, hS, h⟩ => ⟨ι, ρ, S, hE, hS, (Post.bind h).mono fun a S1 ι1 H1 G1 s1 h1 x rx => ?_⟩
  (try unfold ifp at h1); split at h1
  · rename_i hh
    refine ⟨hc _ _ _ _ _ _ s1 rx hh, ι1, ρ, S1, hE.grow G1, s1, (Post.bind h1).mono fun ds S2 ι2 H2 G2 s2 h2 vs rs => ?_⟩
    exact k W σ ι2 H2 S2 x vs a ds Q s2 (RepV.grow G2 _ _ rx) rs h2
  · exact h1.elim
end
section
variable {X : Cx} {K : PySem.W.Frag}
noncomputable def mAppend : Mt := fun o ds S => match o, ds with
  | .loc n, [y] => (match getL S n with
    | some xs => ifp (xs.length < sizeLine) (.ok .non (S.set n (.lst (xs ++ [y])))) .stuck
    | none => .stuck)
  | _, _ => .stuck
/-- a list of the store is changed -/
theorem loc_put {W : WX} {σ : St} {ι : List Addr} {H : Hp} {S : Sto} {n : Nat} {a : Addr} {xs : List D} {ys : List D} {us : List V} {d : D} {Q : VK} {v : V} (h : Post K W σ ι H (.ok d (S.set n (.lst ys))) fun d _ ι' H' => ∀ v, RepV K ι' H' d v → Q v H') (s : Sim K ι H S) (ea : ι[n]? = some a)
    {u0 : List V} (hu : H a = some (.lst u0)) (rl : RepL K ι H ys us) (rv : RepV K ι H d v) : Q v (upd H a (.lst us)) :=
  have G := Grow.put (H := H) (o := .lst us) (List.mem_of_getElem? ea) hu (fun _ _ z => by cases z)
  h ι _ G (s.put (b := .lst ys) ea hu (fun _ _ z => by cases z) ⟨us, upd_same, RepL.grow G _ _ rl⟩) v (RepV.grow G _ _ rv)
theorem k_append : MtK K rAppend mAppend := by
  intro W σ ι H S x vs a ds Q s rx rl h
  unfold mAppend at h
  (try unfold ifp at h); split at h
  · (try unfold ifp at h); split at h
    · rename_i xs hL
      (try unfold ifp at h); split at h
      · rename_i hz
        obtain ⟨y, rfl, ry⟩ := RepL.one_inv rl
        rw [RepV] at rx
        obtain ⟨p, ea, rfl⟩ := rx
        obtain ⟨us, h1, h2⟩ := s.ob _ _ _ ea (getL_some hL)
        exact ⟨p, us, y, rfl, rfl, h1, by rw [← RepL.length _ _ h2]; exact hz, loc_put (xs := xs) h s ea h1 (RepL.app _ _ h2 _ _ (RepL.one ry)) non_rep⟩
      · exact h.elim
    · exact h.elim
  · exact h.elim
theorem RepL.dropLast {ι : List Addr} {H : Hp} {ds : List D} {vs : List V} (h : RepL K ι H ds vs) : RepL K ι H ds.dropLast vs.dropLast := by
  rw [List.dropLast_eq_take, List.dropLast_eq_take, ← RepL.length _ _ h]
  exact RepL.take _ _ _ h
noncomputable def mPopAt : Mt := fun o ds S => match o, ds with
  | .loc n, [.int i] => (match getL S n with
    | some xs => ifp (-(2 ^ 63) ≤ i ∧ i < 2 ^ 63) (match seqIndex? i xs.length with
        | some k => (match xs[k]? with
          | some y => .ok y (S.set n (.lst (xs.eraseIdx k)))
          | none => .stuck)
        | none => .stuck) .stuck
    | none => .stuck)
  | _, _ => .stuck
theorem RepL.erase {ι : List Addr} {H : Hp} : ∀ (ds : List D) (vs : List V) (k : Nat), RepL K ι H ds vs → RepL K ι H (ds.eraseIdx k) (vs.eraseIdx k)
  | [], _, k, h => by rw [RepL] at h; subst h; simp [RepL]
  | d :: ds, _, 0, h => by
    rw [RepL] at h
    obtain ⟨v, r, rfl, a, b⟩ := h
    exact b
  | d :: ds, _, k + 1, h => by
    rw [RepL] at h
    obtain ⟨v, r, rfl, a, b⟩ := h
    exact RepL.cons a (RepL.erase ds r k b)
theorem k_popAt : MtK K rPopAt mPopAt := by
  intro W σ ι H S x vs a ds Q s rx rl h
  unfold mPopAt at h
  (try unfold ifp at h); split at h
  · rename_i n i
    (try unfold ifp at h); split at h
    · rename_i xs hL
      (try unfold ifp at h); split at h
      · rename_i hi
        (try unfold ifp at h); split at h
        · rename_i k hk
          (try unfold ifp at h); split at h
          · rename_i y hy
            obtain ⟨u, rfl, ru⟩ := RepL.one_inv rl
            rw [RepV] at rx
            obtain ⟨p, ea, rfl⟩ := rx
            obtain ⟨us, h1, h2⟩ := s.ob _ _ _ ea (getL_some hL)
            obtain ⟨v, hv, rv⟩ := RepL.get _ _ h2 _ _ hy
            refine ⟨p, us, i, k, v, rfl, by rw [int_at ru], h1, hi.1, hi.2, by rw [← RepL.length _ _ h2]; exact hk, hv, loc_put (xs := xs) h s ea h1 (RepL.erase _ _ _ h2) rv⟩
          · exact h.elim
        · exact h.elim
      · exact h.elim
    · exact h.elim
  · exact h.elim
end
section
variable {X : Cx} {pins : List (Addr × Obj)} {σ : St} {ι : List Addr} {H : Hp} {s : Shared}
theorem no_sys (I : Inv X pins σ H s) (hb : ∃ o, X.base.get? sysModules = some o) {a : Addr} {u : HO} (e : H a = some u) : sysModules ≠ a := by
  rintro rfl
  obtain ⟨o, h⟩ := hb
  have := (I.bs _ _ h).2
  rw [this] at e; cases e
theorem pairs_reads {P : Program} {w : World} {h : Heap} : ∀ (kvs : List (Key × V)) (vs : List (Key × Value)) (es : List DictEntry), KV kvs vs → Pairs (mixKind P w) es vs → ∃ ks, ks = es.map (·.key) ∧ ReadsAll h ks (kvs.map fun q => keyPy q.1) [] ∧ Vals (kvs.map (·.2)) (es.map (·.val))
  | [], _, _, .nil, .nil => ⟨_, rfl, .nil, .nil⟩
  | (k, x) :: kvs, _, _, .cons r rs, .cons (e := e) h1 h2 h3 => by
    obtain ⟨ks, rfl, h4, h5⟩ := pairs_reads (h := h) kvs _ _ rs h3
    obtain ⟨r1, r2⟩ := r
    refine ⟨_, rfl, ?_, .cons (show L2.RelV x e.val by rw [h2]; exact r2) h5⟩
    rw [← r1] at h1
    rcases keyIs_shape h1 with ⟨i, t, e1, e2⟩ | ⟨z, t, e1, e2⟩
    · cases e1
      show ReadsAll h (e.key :: _) (PyData.int i :: _) ([] ++ [])
      rw [e2]
      exact .cons (Reads.int i t) h4
    · cases e1
      show ReadsAll h (e.key :: _) (PyData.str z :: _) ([] ++ [])
      rw [e2]
      exact .cons (Reads.str z t) h4
theorem repK_fst {K : PySem.W.Frag} : ∀ (kvs : List (Key × D)) (ks : List (Key × V)), RepK K ι H kvs ks → ks.map (fun q => keyPy q.1) = kvs.map (fun q => keyPy q.1) ∧ RepL K ι H (kvs.map (·.2)) (ks.map (·.2))
  | [], _, h => by rw [RepK] at h; subst h; exact ⟨rfl, RepL.nil⟩
  | (k, d) :: kvs, _, h => by
    rw [RepK] at h
    obtain ⟨v, r, rfl, a, b⟩ := h
    obtain ⟨h1, h2⟩ := repK_fst kvs r b
    exact ⟨by simp [h1], RepL.cons a h2⟩
theorem pyK_split : ∀ (kvs : List (Key × D)) (ps : List (PyData × PyData)), pyK kvs = some ps → ps.map (·.1) = kvs.map (fun q => keyPy q.1) ∧ pyL (kvs.map (·.2)) = some (ps.map (·.2))
  | [], ps, h => by rw [pyK] at h; cases h; exact ⟨rfl, rfl⟩
  | (k, d) :: kvs, ps, h => by
    rw [pyK] at h
    cases h1 : py d with
    | none => rw [h1] at h; cases h
    | some p =>
      rw [h1] at h
      cases h2 : pyK kvs with
      | none => rw [h2] at h; cases h
      | some qs =>
        rw [h2] at h; cases h
        obtain ⟨a, b⟩ := pyK_split kvs qs h2
        refine ⟨by simp [a], ?_⟩
        show pyL (d :: kvs.map (·.2)) = _
        rw [pyL, h1, b]; rfl
mutual
theorem py_reads (I : Inv X pins σ H s) (hb : ∃ o, X.base.get? sysModules = some o) : ∀ (d : D) (v : V) (u : Value) (p : PyData), RepV X.K ι H d v → RelV v u → py d = some p → ∃ as, Reads s.heap u p as ∧ sysModules ∉ as
  | .non, v, u, p, r, q, e => by rw [RepV] at r; rw [py] at e; cases e; subst r; cases q; exact ⟨_, .none, by simp⟩
  | .bl b, v, u, p, r, q, e => by rw [RepV] at r; rw [py] at e; cases e; subst r; cases q; exact ⟨_, .bool b, by simp⟩
  | .int i, v, u, p, r, q, e => by rw [RepV] at r; rw [py] at e; cases e; subst r; obtain ⟨t, rfl⟩ := q; exact ⟨_, .int i t, by simp⟩
  | .str x, v, u, p, r, q, e => by rw [RepV] at r; rw [py] at e; cases e; subst r; obtain ⟨t, rfl⟩ := q; exact ⟨_, .str x t, by simp⟩
  | .tup ds, v, u, p, r, q, e => by
    rw [RepV] at r
    obtain ⟨a, vs, rfl, t, rl⟩ := r
    cases q
    rw [py] at e
    cases h : pyL ds with
    | none => rw [h] at e; cases e
    | some ps =>
      rw [h] at e; cases e
      obtain ⟨its, rv, ⟨o, ho, hc, n, hd⟩, _⟩ := I.tuple t.sq
      obtain ⟨as, h1, h2⟩ := pyL_reads I hb ds vs its ps rl rv h
      exact ⟨as, .tuple ho hc hd h1, h2⟩
  | .fl ds, v, u, p, r, q, e => by
    rw [RepV] at r
    obtain ⟨a, vs, rfl, t, rl⟩ := r
    cases q
    rw [py] at e
    cases h : pyL ds with
    | none => rw [h] at e; cases e
    | some ps =>
      rw [h] at e; cases e
      obtain ⟨its, rv, ⟨o, n, ho, hc, _, hd⟩, _⟩ := I.list t.sq
      obtain ⟨as, h1, h2⟩ := pyL_reads I hb ds vs its ps rl rv h
      exact ⟨a :: as, .list ho hc hd h1, by simp [h2, no_sys I hb t.2]⟩
  | .fd kvs, v, u, p, r, q, e => by
    rw [RepV] at r
    obtain ⟨a, ks, rfl, na, ha, rk⟩ := r
    cases q
    rw [py] at e
    cases h : pyK kvs with
    | none => rw [h] at e; cases e
    | some ps =>
      rw [h] at e; cases e
      obtain ⟨_, _, vs, kv, o, es, ep, ho, hx, hd, _, hp, _⟩ := I.hok a _ ha
      obtain ⟨e1, rl⟩ := repK_fst kvs ks rk
      obtain ⟨e2, e3⟩ := pyK_split kvs ps h
      obtain ⟨_, rfl, h4, h5⟩ := pairs_reads (h := s.heap) ks vs es.toList kv hp
      obtain ⟨as, h6, h7⟩ := pyLK_reads I hb kvs _ _ (ps.map (·.2)) rl h5 e3
      refine ⟨a :: [] ++ as, .dict ho hx.1 hd (by rw [e2, ← e1]; exact h4) h6, ?_⟩
      simp [h7, no_sys I hb ha]
  | .ty _, v, u, p, r, q, e => by rw [py] at e; cases e
  | .kl _, v, u, p, r, q, e => by rw [py] at e; cases e
  | .ktp _, v, u, p, r, q, e => by rw [py] at e; cases e
  | .ztp _, v, u, p, r, q, e => by rw [py] at e; cases e
  | .fn _, v, u, p, r, q, e => by rw [py] at e; cases e
  | .exc _ _, v, u, p, r, q, e => by rw [py] at e; cases e
  | .loc _, v, u, p, r, q, e => by rw [py] at e; cases e
theorem pyL_reads (I : Inv X pins σ H s) (hb : ∃ o, X.base.get? sysModules = some o) : ∀ (ds : List D) (vs : List V) (us : List Value) (ps : List PyData), RepL X.K ι H ds vs → Vals vs us → pyL ds = some ps → ∃ as, ReadsAll s.heap us ps as ∧ sysModules ∉ as
  | [], vs, us, ps, r, q, e => by rw [RepL] at r; rw [pyL] at e; cases e; subst r; cases q; exact ⟨_, .nil, by simp⟩
  | d :: ds, vs, us, ps, r, q, e => by
    rw [RepL] at r
    obtain ⟨v, ws, rfl, a, b⟩ := r
    rw [pyL] at e
    cases h : py d with
    | none => rw [h] at e; cases e
    | some p =>
      rw [h] at e
      cases h2 : pyL ds with
      | none => rw [h2] at e; cases e
      | some qs =>
        rw [h2] at e; cases e
        cases q with
        | cons q1 q2 =>
          obtain ⟨as, r1, n1⟩ := py_reads I hb d v _ p a q1 h
          obtain ⟨bs, r2, n2⟩ := pyL_reads I hb ds ws _ qs b q2 h2
          exact ⟨as ++ bs, .cons r1 r2, by simp [n1, n2]⟩
theorem pyLK_reads (I : Inv X pins σ H s) (hb : ∃ o, X.base.get? sysModules = some o) : ∀ (ds : List (Key × D)) (vs : List V) (us : List Value) (ps : List PyData), RepL X.K ι H (ds.map (·.2)) vs → Vals vs us → pyL (ds.map (·.2)) = some ps → ∃ as, ReadsAll s.heap us ps as ∧ sysModules ∉ as
  | [], vs, us, ps, r, q, e => by
    have r : RepL X.K ι H [] vs := r
    have e : pyL [] = some ps := e
    rw [RepL] at r; rw [pyL] at e; cases e; subst r; cases q; exact ⟨_, .nil, by simp⟩
  | (k, d) :: ds, vs, us, ps, r, q, e => by
    have r : RepL X.K ι H (d :: ds.map (·.2)) vs := r
    have e : pyL (d :: ds.map (·.2)) = some ps := e
    rw [RepL] at r
    obtain ⟨v, ws, rfl, a, b⟩ := r
    rw [pyL] at e
    cases h : py d with
    | none => rw [h] at e; cases e
    | some p =>
      rw [h] at e
      cases h2 : pyL (ds.map (·.2)) with
      | none => rw [h2] at e; cases e
      | some qs =>
        rw [h2] at e; cases e
        cases q with
        | cons q1 q2 =>
          obtain ⟨as, r1, n1⟩ := py_reads I hb d v _ p a q1 h
          obtain ⟨bs, r2, n2⟩ := pyLK_reads I hb ds ws _ qs b q2 h2
          exact ⟨as ++ bs, .cons r1 r2, by simp [n1, n2]⟩
end
theorem pyS_reads {S : Sto} (I : Inv X pins σ H s) (hb : ∃ o, X.base.get? sysModules = some o) (sm : Sim X.K ι H S) {d : D} {v : V} {u : Value} {p : PyData} (r : RepV X.K ι H d v) (q : RelV v u) (e : pyS S d = some p) : ∃ as, Reads s.heap u p as ∧ sysModules ∉ as := by
  cases d with
  | loc m =>
    have e : (getQ S m).bind (fun ds => (pyL ds).map .list) = some p := e
    cases h : getQ S m with
    | none => rw [h] at e; cases e
    | some ds =>
      rw [h] at e
      have e : (pyL ds).map PyData.list = some p := e
      cases h2 : pyL ds with
      | none => rw [h2] at e; cases e
      | some ps =>
        rw [h2] at e; cases e
        rw [RepV] at r
        obtain ⟨a, ea, rfl⟩ := r
        cases q
        obtain ⟨vs, h3, h4⟩ := loc_at sm ea h
        obtain ⟨w, hw⟩ := sm.there (List.mem_of_getElem? ea)
        obtain ⟨its, rv, ⟨o, n, ho, hc, _, hd⟩, _⟩ := I.list h3
        obtain ⟨as, h5, h6⟩ := pyL_reads I hb ds vs its ps h4 rv h2
        exact ⟨a :: as, .list ho hc hd h5, by simp [h6, no_sys I hb hw]⟩
  | _ => exact py_reads I hb _ v u p r q e
end
def showOk (p : PyData) : Prop := p.showable = true ∧ p.shown.length ≤ sizeLine ∧ p.depth ≤ 60
open Classical in
noncomputable def bRepr : Fn := fun ds S => match ds with
  | [d] => (match pyS S d with
    | some p => if showOk p then .ok (.str p.shown) S else .stuck
    | none => .stuck)
  | _ => .stuck
def rRepr (K : PySem.W.Frag) : List V → Hp → VK → Prop := fun xs H Q => ∃ ι S d x p, xs = [x] ∧ Sim K ι H S ∧ RepV K ι H d x ∧ pyS S d = some p ∧ showOk p ∧ Q (.str p.shown) H
theorem c_repr {X : Cx} {k : Nat} (hr : Room k X.A) (hg : X.A.guards = some []) (hb : ∃ o, X.base.get? sysModules = some o) : CallR X (.builtin "repr") (rRepr X.K) := by
  intro pins s σ H xs us Q I rv h
  obtain ⟨ι, S, d, x, p, rfl, sm, r, e, ⟨h1, h2, h3⟩, q⟩ := h
  cases rv with
  | cons r1 r2 =>
    cases r2
    rename_i u
    obtain ⟨as, rd, na⟩ := pyS_reads I hb sm r r1 e
    show wpAny _ _ (call (.builtin "repr") [u]) _ _ _
    have hu := hr.units
    have fin : ∀ (h' : Heap) (t : Tok) (tk : Nat), (∀ b o, s.heap.get? b = some o → h'.get? b = some o) → EP X pins σ Q (.str p.shown t) { s with heap := h', toks := tk } := fun h' t tk hk => ⟨.str p.shown, H, I.kept hk, ⟨_, rfl⟩, q⟩
    cases rd with
    | none => exact P.repr_of_none (fin _ _ _ fun _ _ e => e)
    | bool b => exact P.repr_of_bool (fin _ _ _ fun _ _ e => e)
    | int i t => exact P.repr_of_int (by simpa [PyData.showable] using h1) (fin _ _ _ fun _ _ e => e)
    | str z t => exact P.repr_of_str (fin _ _ _ fun _ _ e => e) h2
    | list a1 a2 a3 a4 => exact repr_of_reads' (.list a1 a2 a3 a4) h1 (fun _ => na) hg (by omega) (fun _ _ e => e) (fun h' t tk hk => fin h' t tk hk) h2
    | tuple a1 a2 a3 a4 => exact repr_of_reads' (.tuple a1 a2 a3 a4) h1 (fun _ => na) hg (by omega) (fun _ _ e => e) (fun h' t tk hk => fin h' t tk hk) h2
    | dict a1 a2 a3 a4 a5 => exact repr_of_reads' (.dict a1 a2 a3 a4 a5) h1 (fun _ => na) hg (by omega) (fun _ _ e => e) (fun h' t tk hk => fin h' t tk hk) h2
theorem k_repr {K : PySem.W.Frag} : CallK K (rRepr K) bRepr := by
  intro W σ ι H S vs ds Q s rl h
  unfold bRepr at h
  (try unfold ifp at h); split at h
  · obtain ⟨v, rfl, rv⟩ := RepL.one_inv rl
    (try unfold ifp at h); split at h
    · rename_i p hp
      (try unfold ifp at h); split at h
      · rename_i hs
        exact ⟨ι, S, _, v, p, rfl, s, rv, hp, hs, h.here s _ str_rep⟩
      · exact h.elim
    · exact h.elim
  · exact h.elim
/-- the name of a built-in class as a value -/
theorem de_bty {X : Cx} {W : WX} {x : Str} {T : String} {pos : Pos} (hm : X.mg x = none) (hv : bootBuiltins x = some (.type T)) (hg : Gl X x := by rfl) (hn : x ≠ "__name__" := by decide) (hd : (x == ("__debug__" : Str)) = false := by decide) : DE X W (.Name x pos) (eC (.ty T)) :=
  de_c (pe_bltn (v := .ty T) hg hm hv rfl hn hd) fun _ _ => by rw [RepV]
end DL
namespace DL
open PySem PySem.Spec L2
open PyProof.Rows hiding St
/-- what a law's function must give -/
def LawOk (F : Fn) : Prop := ∀ ns : List Int, ns.length ≤ 63 → (∀ z ∈ ns, Builtin.Int.intBits z ≤ 1048576) → ∃ S', F [.kl (ns.map D.int)] [] = .ok (.bl true) S'
theorem repL_ints {K : PySem.W.Frag} {ι : List Addr} {H : Hp} (ns : List Int) : RepL K ι H (ns.map D.int) (ns.map V.int) := by
  induction ns with
  | nil => exact RepL.nil
  | cons n ns ih => exact RepL.cons int_rep ih
theorem law_run {P : Program} {w : World} {K : PySem.W.Frag} {mg mb : Str → Option Value} {k : Nat} {fa a : Addr} {F : Fn} {s₁ : Shared} {vs : List Value} {ns : List Int}
    (KX : K.In s₁.heap) (hns : s₁.heap.Ns mainGlobals mg) (hb : s₁.heap.Ns builtinsNs mb) (hbb : ∀ x : Str, x ≠ "__name__" → mb x = bootBuiltins x) (hlim : s₁.heap.NoLimit) (hsy : s₁.heap.NoSeer) (hg : s₁.gens = #[])
    (ha : s₁.heap.get? a = some { cls := .type "list", data := .seq vs.toArray }) (hi : IntsAre vs ns) (hl : ns.length ≤ 63) (hbit : ∀ z ∈ ns, Builtin.Int.intBits z ≤ 1048576) (hr : Room k callerA)
    (hF : ∀ base : Heap, K.In base → base.Ns mainGlobals mg → (∃ o, base.get? sysModules = some o) → FnD true P w K mg base k fa F) (hlaw : LawOk F) :
    codeAny (model P w) callerA (.call (.ref fa) ⟨[.ref a], []⟩) (fun r s' => r = .ok (.ret (.bool true)) ∧ OldK s₁.heap s'.heap ∧ s'.os = s₁.os ∧ AllBare s'.gens) s₁ := by
  have rvs := vals_ints hi
  have hz : ns.length ≤ sizeLine := Nat.le_trans hl (by decide)
  have hlv := hi.length
  have go : ∀ H : Hp, (∀ b u, H b = some u → b = a ∧ K.lookup a = none ∧ ∃ o, u = .frz o (.lst (ns.map V.int))) → KlAt K [] H a (ns.map V.int) → HOk P w H s₁.heap →
      codeAny (model P w) callerA (.call (.ref fa) ⟨[.ref a], []⟩) (fun r s' => r = .ok (.ret (.bool true)) ∧ OldK s₁.heap s'.heap ∧ s'.os = s₁.os ∧ AllBare s'.gens) s₁ := by
    intro H only kl hok
    have free : ∀ {b : Addr} {o : Obj}, s₁.heap.get? b = some o → (b = a → K.lookup a ≠ none ∨ ∃ es ep, o.data = .dict es ep) → H b = none := by
      intro b o e1 e2
      cases q : H b with
      | none => rfl
      | some u =>
        obtain ⟨rfl, n1, _⟩ := only b u q
        rcases e2 rfl with z | ⟨es, ep, z⟩
        · exact absurd n1 z
        · rw [ha] at e1; cases e1; cases z
    have nsb : ∀ {b : Addr} {m : Str → Option Value}, s₁.heap.Ns b m → (hidT s₁.heap H).Ns b m := by
      rintro b m ⟨o, es, ep, e1, e2, r⟩
      exact ⟨o, es, ep, hidT_get e1 (free e1 fun _ => .inr ⟨es, ep, e2⟩), e2, r⟩
    have kin : K.In (hidT s₁.heap H) := fun b o e => hidT_get (KX b o e) (free (KX b o e) fun z => .inl (by rw [← z, e]; simp))
    have hsys : ∃ o, (hidT s₁.heap H).get? sysModules = some o := by
      obtain ⟨mm, ⟨o, es, ep, e1, e2, r⟩, _⟩ := hsy.mods
      exact ⟨o, hidT_get e1 (free e1 fun _ => .inr ⟨es, ep, e2⟩)⟩
    have md : Mod K mg (hidT s₁.heap H) := ⟨kin, nsb hns, ⟨mb, nsb hb, hbb⟩, let ⟨mc, h1, h2⟩ := hlim; ⟨mc, nsb h1, h2⟩⟩
    have e0 : Env0 P w K mg (hidT s₁.heap H) callerA [] s₁ H :=
      { frames := rfl, mod := md, bs := fun b o e => of_hidT e, bsz := Nat.le_of_eq (hidT_size _ _), funs := trivial
        frf := fun b z => absurd (show b ∈ ([] : List Addr) from z) (by simp), hok := hok, bare := .of_eq hg }
    obtain ⟨S', hS⟩ := hlaw ns hl hbit
    have sp : spD K F [V.ref a] H (fun v _ => v = .bl true) fun _ _ _ => False := by
      refine ⟨[], [], [.kl (ns.map D.int)], RepL.one (by rw [RepV]; exact ⟨a, _, rfl, kl, repL_ints ns⟩), ⟨List.nodup_nil, rfl, fun n a o e => by simp at e⟩, ?_⟩
      rw [hS]
      intro ι' H' v _ _ r
      rw [RepV] at r; exact r
    refine codeAny_mono (hF _ kin (nsb hns) hsys callerA [] s₁ H [.ref a] [.ref a] _ _ hr (fun _ => rfl) e0 (.cons rfl .nil) sp) fun r s' h => ?_
    cases r with
    | error e =>
      obtain ⟨_, _, _, _, _, _, _, _, _, _, _, _, z⟩ := h
      exact z.elim
    | ok fl =>
      cases fl with
      | next => exact False.elim h
      | brk => exact False.elim h
      | cont => exact False.elim h
      | ret u =>
        obtain ⟨v, H', os, bare, un, hok', r', q⟩ := h
        have q : v = .bl true := q
        subst q
        cases (show u = Value.bool true from r')
        refine ⟨rfl, OldK.of_keep fun b o e => ?_, os, bare⟩
        cases hb' : H b with
        | none => exact un.keep b o e hb' (fun z => absurd (show b ∈ ([] : List Addr) from z) (by simp)) (by simp)
        | some u =>
          obtain ⟨rfl, _, ob, rfl⟩ := only b u hb'
          have z1 := (hok b _ hb').1
          have z2 := (hok' b _ (un.frzs b ob _ hb')).1
          rw [e] at z1; cases z1
          exact z2
  cases hk : K.lookup a with
  | some o =>
    have e := KX a o hk
    rw [ha] at e; cases e
    refine go (fun _ => none) (fun b u z => by cases z) (.inr (.inr ⟨_, vs.toArray, _, hk, rfl, rfl, rfl, by rw [List.size_toArray, hlv]; exact hz, by simpa using rvs⟩)) fun b u z => by cases z
  | none =>
    refine go (upd (fun _ => none) a (.frz { cls := .type "list", data := .seq vs.toArray } (.lst (ns.map V.int)))) (fun b u z => ?_) (.inl ⟨by simp, _, upd_same⟩) fun b u z => ?_
    · by_cases hb' : b = a
      · subst hb'
        rw [upd_same] at z; cases z
        exact ⟨rfl, hk, _, rfl⟩
      · rw [upd_ne hb'] at z; cases z
    · by_cases hb' : b = a
      · subst hb'
        rw [upd_same] at z; cases z
        exact ⟨ha, by rw [List.length_map]; exact hz, vs, _, rvs, ha⟩
      · rw [upd_ne hb'] at z; cases z
theorem law_walk {l : PySem.W.OpenLaw} {k : Nat} {q : Program} {loose : List Str} {XP : (Str → Option Value) → Heap → Prop} {YP : World → Heap → Prop} {d : DefRec} {K : Params → PySem.W.Frag}
    (hn : l.most = some 63) (hdf : d.params.defaults = []) (hr : Room k callerA) (hi : importsNone q = true)
    (hY : ∀ (w : World) (h : Heap), YP w h → (K w.params).In h)
    (hF : ∀ (w : World) (mg : Str → Option Value) (fa : Addr) (h : Heap), (K w.params).In h → h.Ns mainGlobals mg → mg d.name = some (.ref fa) →
      ∃ F : Fn, LawOk F ∧ ∀ base : Heap, (K w.params).In base → base.Ns mainGlobals mg → (∃ o, base.get? sysModules = some o) → FnD true l.prog w (K w.params) mg base k fa F) :
    PySem.W.WalkO q loose XP YP l.row.toRowW d [] (fun f vs => PySem.call f vs) := by
  refine Att.attach_callB hn hdf fun w s₀ s₁ mg mb fa o pm cd doc a vs ns G Y ho hd hcd hmg hobj hints hlen hbits hg => ?_
  obtain ⟨F, hl, hF'⟩ := hF w mg fa _ (hY w _ Y) G.T.g hmg
  exact law_run (hY w _ Y) G.T.g G.T.b G.T.builtins G.T.nolimit (G.T.seer hi) hg hobj hints hlen hbits hr hF' hl
end DL
namespace DL
open PySem PySem.Spec L2
open PyProof.Rows hiding St
section
variable {K : PySem.W.Frag}
theorem k_le : OpK K (rI0 fun i j => .bl (decide (i ≤ j))) dLe := k_cmp
theorem k_gt : OpK K (rI0 fun i j => .bl (decide (j < i))) dGt := k_cmp
theorem k_ge : OpK K (rI0 fun i j => .bl (decide (j ≤ i))) dGe := k_cmp
end
def sPar3 (i j l : Nat) (g : Ev → Sto → R (List D)) : Ev → Sto → SR := fun ρ S => (g ρ S).toS ρ fun ds S1 => match ds with
  | [a, b, c] => .nx (((ρ.set i (some a)).set j (some b)).set l (some c)) S1
  | _ => .stuck
section
variable {X : Cx} {W : WX}
theorem RepL.three_inv {K : PySem.W.Frag} {ι : List Addr} {H : Hp} {d e f : D} {vs : List V} (h : RepL K ι H [d, e, f] vs) : ∃ v u w, vs = [v, u, w] ∧ RepV K ι H d v ∧ RepV K ι H e u ∧ RepV K ι H f w := by
  rw [RepL] at h
  obtain ⟨v, r, rfl, rv, rs⟩ := h
  obtain ⟨u, w, rfl, ru, rw'⟩ := RepL.two_inv rs
  exact ⟨v, u, w, rfl, rv, ru, rw'⟩
theorem ds_par3 (i j l : Nat) {x y z : Str} {a b c : Expr} {g : Ev → Sto → R (List D)} {px py pz pt pos : Pos} {kt k2 pt2} (hc : X.calm = true) (hN : X.N.Nodup) (ha : DA X W [a, b, c] g) (hij : i ≠ j := by decide) (hil : i ≠ l := by decide) (hjl : j ≠ l := by decide)
    (hi : X.N[i]? = some x := by rfl) (hj : X.N[j]? = some y := by rfl) (hl : X.N[l]? = some z := by rfl)
    (hx : X.env.scope.names.lookup x = some .local := by rfl) (hy : X.env.scope.names.lookup y = some .local := by rfl) (hz : X.env.scope.names.lookup z = some .local := by rfl)
    (hw : swappedStores [.Tuple [.Name x px, .Name y py, .Name z pz] kt pt] (.Tuple [a, b, c] k2 pt2) X.env = pure (some [x, y, z]) := by rfl)
    (hs : swapsWithSole [.Tuple [.Name x px, .Name y py, .Name z pz] kt pt] (.Tuple [a, b, c] k2 pt2) pos.line X.env = pure false := by rfl) :
    DS X W (.Assign [.Tuple [.Name x px, .Name y py, .Name z pz] kt pt] (.Tuple [a, b, c] k2 pt2) pos) (sPar3 i j l g) := by
  refine PS.imp (ps_par3 hc hN hi hj hl hij hil hjl hx hy hz ha hw hs) fun E σ H ⟨ι, ρ, S, hE, hS, h⟩ => ⟨ι, ρ, S, hE, hS, (PostS.bind h hE).mono fun ds S1 ι1 H1 G1 s1 h1 vs rs => ?_⟩
  split at h1
  · obtain ⟨u, v, w, rfl, ru, rv, rw'⟩ := RepL.three_inv rs
    exact ⟨u, v, w, rfl, h1 ι1 H1 _ (Grow.refl _ _) s1 ((((hE.grow G1).set ru i).set rv j).set rw' l)⟩
  · exact h1.elim
end
end DL
namespace DL
open PySem PySem.Spec L2
open PyProof.Rows hiding St
theorem dAdd_int (i j : Int) (S : Sto) : dAdd (.int i) (.int j) S = .ok (.int (i + j)) S := rfl
theorem dLt_int (i j : Int) (S : Sto) : dLt (.int i) (.int j) S = .ok (.bl (decide (i < j))) S := rfl
theorem dLe_int (i j : Int) (S : Sto) : dLe (.int i) (.int j) S = .ok (.bl (decide (i ≤ j))) S := rfl
theorem dGt_int (i j : Int) (S : Sto) : dGt (.int i) (.int j) S = .ok (.bl (decide (j < i))) S := rfl
theorem dGe_int (i j : Int) (S : Sto) : dGe (.int i) (.int j) S = .ok (.bl (decide (j ≤ i))) S := rfl
theorem dAddI_int (i j : Int) (S : Sto) : dAddI (.int i) (.int j) S = .ok (.int (i + j)) S := rfl
theorem dSubI_int (i j : Int) (S : Sto) : dSubI (.int i) (.int j) S = .ok (.int (i - j)) S := rfl
theorem dSub_int (i j : Int) (S : Sto) : dSub (.int i) (.int j) S = .ok (.int (i - j)) S := rfl
theorem dMod_int (i j : Int) (S : Sto) : dMod (.int i) (.int j) S = if 0 < j then .ok (.int (i % j)) S else .stuck := rfl
theorem dFdiv_int (i j : Int) (S : Sto) : dFdiv (.int i) (.int j) S = ifp (0 < j ∧ j.natAbs.log2 < 9000) (.ok (.int (i / j)) S) .stuck := rfl
theorem dPow_ok {i j : Int} (h : 0 ≤ j ∧ j ≤ 1000000 ∧ i.natAbs < 2 ^ 64) (S : Sto) : dPow (.int i) (.int j) S = .ok (.int (i ^ j.toNat)) S := ifp_pos h
theorem dIsN_non (n : Bool) (a : D) (S : Sto) : dIsN n a .non S = .ok (.bl (if n then !isN a else isN a)) S := rfl
theorem ll0 : (0 ≤ sizeLine) = True := eq_true (by decide)
theorem ll1 : (1 ≤ sizeLine) = True := eq_true (by decide)
theorem ll2 : (2 ≤ sizeLine) = True := eq_true (by decide)
theorem ll3 : (3 ≤ sizeLine) = True := eq_true (by decide)
theorem ll4 : (4 ≤ sizeLine) = True := eq_true (by decide)
theorem ll5 : (5 ≤ sizeLine) = True := eq_true (by decide)
theorem ll6 : (6 ≤ sizeLine) = True := eq_true (by decide)
theorem ll7 : (7 ≤ sizeLine) = True := eq_true (by decide)
theorem ll8 : (8 ≤ sizeLine) = True := eq_true (by decide)
theorem ll9 : (9 ≤ sizeLine) = True := eq_true (by decide)
theorem ll10 : (10 ≤ sizeLine) = True := eq_true (by decide)
theorem ll11 : (11 ≤ sizeLine) = True := eq_true (by decide)
theorem ll12 : (12 ≤ sizeLine) = True := eq_true (by decide)
theorem ll13 : (13 ≤ sizeLine) = True := eq_true (by decide)
theorem ll14 : (14 ≤ sizeLine) = True := eq_true (by decide)
theorem ll15 : (15 ≤ sizeLine) = True := eq_true (by decide)
theorem ll16 : (16 ≤ sizeLine) = True := eq_true (by decide)
theorem ll17 : (17 ≤ sizeLine) = True := eq_true (by decide)
theorem ll18 : (18 ≤ sizeLine) = True := eq_true (by decide)
theorem ll19 : (19 ≤ sizeLine) = True := eq_true (by decide)
theorem ll20 : (20 ≤ sizeLine) = True := eq_true (by decide)
theorem ll21 : (21 ≤ sizeLine) = True := eq_true (by decide)
theorem ll22 : (22 ≤ sizeLine) = True := eq_true (by decide)
theorem ll23 : (23 ≤ sizeLine) = True := eq_true (by decide)
theorem ll24 : (24 ≤ sizeLine) = True := eq_true (by decide)
theorem ll25 : (25 ≤ sizeLine) = True := eq_true (by decide)
theorem ll26 : (26 ≤ sizeLine) = True := eq_true (by decide)
theorem ll27 : (27 ≤ sizeLine) = True := eq_true (by decide)
theorem ll28 : (28 ≤ sizeLine) = True := eq_true (by decide)
theorem ll29 : (29 ≤ sizeLine) = True := eq_true (by decide)
theorem ll30 : (30 ≤ sizeLine) = True := eq_true (by decide)
theorem ll31 : (31 ≤ sizeLine) = True := eq_true (by decide)
theorem ll32 : (32 ≤ sizeLine) = True := eq_true (by decide)
theorem ll33 : (33 ≤ sizeLine) = True := eq_true (by decide)
theorem ll34 : (34 ≤ sizeLine) = True := eq_true (by decide)
theorem ll35 : (35 ≤ sizeLine) = True := eq_true (by decide)
theorem ll36 : (36 ≤ sizeLine) = True := eq_true (by decide)
theorem ll37 : (37 ≤ sizeLine) = True := eq_true (by decide)
theorem ll38 : (38 ≤ sizeLine) = True := eq_true (by decide)
theorem ll39 : (39 ≤ sizeLine) = True := eq_true (by decide)
theorem ll40 : (40 ≤ sizeLine) = True := eq_true (by decide)
theorem pyL_ints (l : List Int) : pyL (l.map D.int) = some (l.map PyData.int) := by
  induction l with
  | nil => rfl
  | cons i l ih => simp [pyL, py, ih]
theorem canLayAll_ints (l : List Int) : PyData.canLayAll0 (l.map PyData.int) = true := by
  induction l with
  | nil => rfl
  | cons i l ih => simp [PyData.canLayAll0, PyData.canLay0, ih]
theorem depthAll_ints (l : List Int) : PyData.depthAll (l.map PyData.int) = 0 := by
  induction l with
  | nil => rfl
  | cons i l ih => simp [PyData.depthAll, PyData.depth, ih]
theorem shaped_ints (l : List Int) : SeqAt.shaped (.list (l.map PyData.int)) = true := by
  simp [SeqAt.shaped, PyData.canLay0, canLayAll_ints, PyData.depth, depthAll_ints]
theorem shaped_int (i : Int) : SeqAt.shaped (.int i) = true := by
  simp [SeqAt.shaped, PyData.canLay0, PyData.depth]
theorem shaped_nilL : SeqAt.shaped (.list []) = true := by decide
theorem dEq_int (n : Bool) (i j : Int) (S : Sto) : dEq n (.int i) (.int j) S = .ok (.bl (if n then !(i == j) else i == j)) S := by
  simp [dEq, dEqP, pyS, py, shaped_int, PyData.eqv]
theorem dEqP_py {n : Bool} {a b : D} {S : Sto} {p q : PyData} (h1 : pyS S a = some p) (h2 : pyS S b = some q) (s1 : SeqAt.shaped p = true) (s2 : SeqAt.shaped q = true) : dEqP n a b S = .ok (.bl (if n then !PyData.eqv p q else PyData.eqv p q)) S := by
  unfold dEqP
  rw [h1, h2]
  show (if SeqAt.shaped p = true ∧ SeqAt.shaped q = true then _ else _) = _
  rw [if_pos ⟨s1, s2⟩]
theorem dEq_str (n : Bool) (x y : Str) (S : Sto) : dEq n (.str x) (.str y) S = .ok (.bl (if n then !decide (x = y) else decide (x = y))) S := rfl
theorem pyS_loc {S : Sto} {n : Nat} {l : List Int} (h : getQ S n = some (l.map D.int)) : pyS S (.loc n) = some (.list (l.map PyData.int)) := by
  show (getQ S n).bind (fun ds => (pyL ds).map PyData.list) = _
  rw [h]
  show (pyL (l.map D.int)).map PyData.list = _
  rw [pyL_ints]; rfl
/-- a list of ints of the store against [] -/
theorem dNe_loc_nil {S : Sto} {n : Nat} {l : List Int} (h : getQ S n = some (l.map D.int)) : dEq true (.loc n) (.fl []) S = .ok (.bl (!l.isEmpty)) S := by
  show dEqP true (.loc n) (.fl []) S = _
  rw [dEqP_py (pyS_loc h) (q := .list []) rfl (shaped_ints l) shaped_nilL]
  cases l <;> simp [PyData.eqv, PyData.eqvAll]
theorem rangeD_nat (n : Nat) : rangeD 0 n = (List.range n).map fun k => D.int (k : Nat) := by
  unfold rangeD
  congr 1
  funext k
  simp
theorem forD_nil {g : Sto → Prop} {T : Tg} {B Z : Ev → Sto → SR} {ρ : Ev} {S : Sto} (h : g S) : forD g T B Z [] ρ S = Z ρ S := by
  unfold forD; rw [if_pos h]
theorem forD_cons {g : Sto → Prop} {T : Tg} {B Z : Ev → Sto → SR} {d : D} {ds : List D} {ρ ρ1 ρ2 : Ev} {S S1 S2 : Sto} (h : g S) (hT : T d ρ S = some (ρ1, S1)) (hB : B ρ1 S1 = .nx ρ2 S2) : forD g T B Z (d :: ds) ρ S = forD g T B Z ds ρ2 S2 := by
  rw [forD, if_pos h, hT]; simp only [hB]
/-- a loop that goes through: P before each turn -/
theorem forD_all {T : Tg} {B Z : Ev → Sto → SR} (P : Nat → Ev → Sto → Prop) : ∀ (ds : List D) (i : Nat) (ρ : Ev) (S : Sto), P i ρ S →
    (∀ (j : Nat) (d : D) (ρ : Ev) (S : Sto), ds[j]? = some d → P (i + j) ρ S → ∃ ρ1 S1 ρ2 S2, T d ρ S = some (ρ1, S1) ∧ (B ρ1 S1 = .nx ρ2 S2 ∨ B ρ1 S1 = .ct ρ2 S2) ∧ P (i + j + 1) ρ2 S2) →
    ∃ ρ' S', P (i + ds.length) ρ' S' ∧ forD yes T B Z ds ρ S = Z ρ' S'
  | [], i, ρ, S, h, _ => ⟨ρ, S, h, forD_nil trivial⟩
  | d :: ds, i, ρ, S, h, step => by
    obtain ⟨ρ1, S1, ρ2, S2, hT, hB, h2⟩ := step 0 d ρ S rfl h
    obtain ⟨ρ', S', h3, e⟩ := forD_all P ds (i + 1) ρ2 S2 h2 fun j d' ρ S hj hp => by
      have e1 : i + (j + 1) = i + 1 + j := by omega
      have := step (j + 1) d' ρ S (by simpa using hj) (by rw [e1]; exact hp)
      rw [e1] at this
      exact this
    refine ⟨ρ', S', ?_, ?_⟩
    · have : i + (d :: ds).length = i + 1 + ds.length := by simp; omega
      rw [this]; exact h3
    · rw [forD, if_pos (show yes S from trivial), hT]
      rcases hB with hB | hB <;> (simp only [hB]; exact e)
mutual
def rok : D → Bool
  | .non => true
  | .bl _ => true
  | .int i => decide (i.natAbs.log2 < 1920)
  | .str x => x.cps.toList.all fun c => decide (c < 16 ^ 8)
  | .tup ds => rokL ds
  | .fl ds => rokL ds
  | .fd kvs => rokK kvs
  | .kl _ => false
  | .ktp _ => false
  | .ztp _ => false
  | .ty _ => false
  | .fn _ => false
  | .exc _ _ => false
  | .loc _ => false
def rokL : List D → Bool
  | [] => true
  | d :: ds => rok d && rokL ds
def rokK : List (Key × D) → Bool
  | [] => true
  | (k, d) :: ds => (match k with
    | .inl i => decide (i.natAbs.log2 < 1920)
    | .inr x => x.cps.toList.all fun c => decide (c < 16 ^ 8)) && rok d && rokK ds
end
mutual
def bulkD : D → Nat
  | .str x => x.cps.size
  | .tup ds => bulkL ds
  | .fl ds => bulkL ds
  | .fd kvs => bulkK kvs
  | .non => 0
  | .bl _ => 0
  | .int _ => 0
  | .kl _ => 0
  | .ktp _ => 0
  | .ztp _ => 0
  | .ty _ => 0
  | .fn _ => 0
  | .exc _ _ => 0
  | .loc _ => 0
def bulkL : List D → Nat
  | [] => 0
  | d :: ds => bulkD d + 1 + bulkL ds
def bulkK : List (Key × D) → Nat
  | [] => 0
  | (k, d) :: ds => (match k with
    | .inl _ => 0
    | .inr x => x.cps.size) + bulkD d + 2 + bulkK ds
end
mutual
def depD : D → Nat
  | .tup ds => depL ds + 1
  | .fl ds => depL ds + 1
  | .fd kvs => depK kvs + 1
  | .str _ => 0
  | .non => 0
  | .bl _ => 0
  | .int _ => 0
  | .kl _ => 0
  | .ktp _ => 0
  | .ztp _ => 0
  | .ty _ => 0
  | .fn _ => 0
  | .exc _ _ => 0
  | .loc _ => 0
def depL : List D → Nat
  | [] => 0
  | d :: ds => max (depD d) (depL ds)
def depK : List (Key × D) → Nat
  | [] => 0
  | (_, d) :: ds => max (depD d) (depK ds)
end
end DL
namespace DL
open PySem PySem.Spec L2
open PyProof.Rows hiding St
noncomputable def E1__law_stream (ρ : Ev) (S : Sto) : R D :=
  (eCall bAbs (aCons (eVar 2) aNil)) ρ S
noncomputable def E2__law_stream (ρ : Ev) (S : Sto) : R D :=
  (eVar 2) ρ S
noncomputable def Q1__law_stream (ρ : Ev) (S : Sto) : R Bool :=
  (eT (eOp dGe (eVar 2) (eOp dPow (eC (.int 10)) (eC (.int 18))))) ρ S
noncomputable def B__law_stream : Ev → Sto → SR :=
  (sSeq (sSet 1 (eLc finFl (iSeq (eVar 0)) (tN 2) [2] cYes E1__law_stream))
    (sRet (eLoc (aCons (eLc finLoc (iSeq (eVar 1)) (tN 2) [2] Q1__law_stream E2__law_stream) (aCons (eOp dAdd (eVar 1) (eFl (aCons (eOp dAdd (eCall bLen (aCons (eVar 1) aNil)) (eC (.int 17))) aNil))) (aCons (eC (.int 0)) aNil))))))
noncomputable def F__law_stream : Fn := fnC closeK 3 1 B__law_stream
noncomputable def C1__law_draw (ρ : Ev) (S : Sto) : R Bool :=
  (eT (eOp (dEq true) (eOp dIx (eVar 0) (eC (.int 0))) (eFl aNil))) ρ S
noncomputable def L1__law_draw (ρ : Ev) (S : Sto) : SR :=
  (sSeq (sSet 2 (eOp dIx (eOp dIx (eVar 0) (eC (.int 0))) (eC (.int 0))))
    (sSeq (sIf (eT (eOp dGt (eVar 2) (eC (.int 0)))) (sSeq (sAsg (eOp dFdiv (eVar 2) (eVar 1)) (tSub (eOp dIx (eVar 0) (eC (.int 0))) (eC (.int 0))))
    (sRet (eOp dMod (eVar 2) (eVar 1)))) sNil)
    (sExp (eMt isLst mPopAt (eOp dIx (eVar 0) (eC (.int 0))) (aCons (eC (.int 0)) aNil))))) ρ S
noncomputable def B__law_draw : Ev → Sto → SR :=
  (sSeq (whileD C1__law_draw L1__law_draw 4000)
    (sSeq (sSet 3 (eOp dAdd (eOp dIx (eVar 0) (eC (.int 2))) (eC (.int 1))))
    (sSeq (sAsg (eVar 3) (tSub (eVar 0) (eC (.int 2))))
    (sSeq (sSet 4 (eOp dMod (eOp dIx (eOp dIx (eVar 0) (eC (.int 1))) (eOp dMod (eVar 3) (eCall bLen (aCons (eOp dIx (eVar 0) (eC (.int 1))) aNil)))) (eC (.int 2147483587))))
    (sSeq (sSet 5 (eOp dMod (eOp dAdd (eOp dAdd (eOp dMul (eVar 4) (eOp dAdd (eC (.int 16807)) (eOp dMul (eC (.int 48271)) (eVar 3)))) (eOp dMul (eOp dMul (eC (.int 69621)) (eVar 3)) (eVar 3))) (eC (.int 5))) (eC (.int 2147483647))))
    (sRet (eOp dMod (eOp dFdiv (eOp dMod (eOp dMul (eVar 5) (eVar 5)) (eC (.int 2147483629))) (eC (.int 16))) (eVar 1))))))))
noncomputable def F__law_draw : Fn := fnC close 6 2 B__law_draw
def strO (big cells : List Int) (t : Int) (rest : Sto) : Sto := .lst (big.map .int) :: .lst [.loc 0, .fl (cells.map .int), .int t] :: rest
structure StrOk (big cells : List Int) (t : Int) (n : Nat) : Prop where
  bigs : ∀ c ∈ big, 0 ≤ c
  cls : ∀ c ∈ cells, 0 ≤ c
  ne : cells ≠ []
  few : big.length ≤ 63
  t0 : 0 ≤ t
  tn : t ≤ n
/-- the stream stands in S, at most n mixed draws were made -/
def Strm (S : Sto) (n : Nat) (rest : Sto) : Prop := ∃ big cells t, S = strO big cells t rest ∧ StrOk big cells t n
theorem Strm.mono {S : Sto} {n m : Nat} {rest : Sto} (h : Strm S n rest) (hm : n ≤ m) : Strm S m rest := by
  obtain ⟨b, c, t, e, o⟩ := h
  exact ⟨b, c, t, e, o.bigs, o.cls, o.ne, o.few, o.t0, by have := o.tn; omega⟩
theorem getQ_lst0 (ds : List D) (S : Sto) : getQ (.lst ds :: S) 0 = some ds := rfl
theorem getQ_lst1 (o : Ob) (ds : List D) (S : Sto) : getQ (o :: .lst ds :: S) 1 = some ds := rfl
theorem getL_lst0 (ds : List D) (S : Sto) : getL (.lst ds :: S) 0 = some ds := rfl
theorem getL_lst1 (o : Ob) (ds : List D) (S : Sto) : getL (o :: .lst ds :: S) 1 = some ds := rfl
theorem dIx_loc {S : Sto} {n : Nat} {xs : List D} {i : Int} {d : D} (h : getQ S n = some xs) (e : atI xs i = some d) : dIx (.loc n) (.int i) S = .ok d S := by
  show (match seqOf S (.loc n) with
    | some xs => (match atI xs i with
      | some d => R.ok d S
      | none => .stuck)
    | none => .stuck) = _
  rw [show seqOf S (.loc n) = some xs from h]
  show (match atI xs i with
      | some d => R.ok d S
      | none => .stuck) = _
  rw [e]
theorem dIx_fl {S : Sto} {xs : List D} {i : Int} {d : D} (e : atI xs i = some d) : dIx (.fl xs) (.int i) S = .ok d S := by
  show (match atI xs i with
      | some d => R.ok d S
      | none => .stuck) = _
  rw [e]
theorem dIx_tup {S : Sto} {xs : List D} {i : Int} {d : D} (e : atI xs i = some d) : dIx (.tup xs) (.int i) S = .ok d S := by
  show (match atI xs i with
      | some d => R.ok d S
      | none => .stuck) = _
  rw [e]
theorem atI_nn {α : Type} {xs : List α} {i : Int} (h0 : 0 ≤ i) (h1 : i < xs.length) : atI xs i = xs[i.toNat]? := by
  unfold atI ixN
  rw [if_pos h0, if_pos h1]; rfl
theorem atI_map {xs : List Int} {i : Int} (h0 : 0 ≤ i) (h1 : i < xs.length) : ∃ z, z ∈ xs ∧ atI (xs.map D.int) i = some (.int z) := by
  have hi : i.toNat < xs.length := by omega
  refine ⟨xs[i.toNat], List.getElem_mem hi, ?_⟩
  rw [atI_nn h0 (by simpa using h1), List.getElem?_map, List.getElem?_eq_getElem hi]; rfl
theorem str_ix0 (big cells : List Int) (t : Int) (rest : Sto) : dIx (.loc 1) (.int 0) (strO big cells t rest) = .ok (.loc 0) (strO big cells t rest) := dIx_loc (getQ_lst1 _ _ _) rfl
theorem str_ix1 (big cells : List Int) (t : Int) (rest : Sto) : dIx (.loc 1) (.int 1) (strO big cells t rest) = .ok (.fl (cells.map .int)) (strO big cells t rest) := dIx_loc (getQ_lst1 _ _ _) rfl
theorem str_ix2 (big cells : List Int) (t : Int) (rest : Sto) : dIx (.loc 1) (.int 2) (strO big cells t rest) = .ok (.int t) (strO big cells t rest) := dIx_loc (getQ_lst1 _ _ _) rfl
theorem str_ne (big cells : List Int) (t : Int) (rest : Sto) : dEq true (.loc 0) (.fl []) (strO big cells t rest) = .ok (.bl (!big.isEmpty)) (strO big cells t rest) := dNe_loc_nil (getQ_lst0 _ _)
theorem str_get (b : Int) (big cells : List Int) (t : Int) (rest : Sto) : dIx (.loc 0) (.int 0) (strO (b :: big) cells t rest) = .ok (.int b) (strO (b :: big) cells t rest) := dIx_loc (getQ_lst0 _ _) (by simp [atI, ixN])
theorem str_set (b c : Int) (big cells : List Int) (t : Int) (rest : Sto) : dSet (.loc 0) (.int 0) (.int c) (strO (b :: big) cells t rest) = some (strO (c :: big) cells t rest) := by
  simp [dSet, strO, getL_lst0, ixN]
theorem str_pop (b : Int) (big cells : List Int) (t : Int) (rest : Sto) : mPopAt (.loc 0) [.int 0] (strO (b :: big) cells t rest) = .ok (.int b) (strO big cells t rest) := by
  have : seqIndex? 0 (big.length + 1) = some 0 := by simp [seqIndex?]
  have h2 : (-(2 ^ 63) : Int) ≤ 0 ∧ (0 : Int) < 2 ^ 63 := by decide
  simp [mPopAt, strO, getL_lst0, this, ifp_t]
theorem str_lst (big cells : List Int) (t : Int) (rest : Sto) : isLst (strO big cells t rest) (.loc 0) = true := rfl
theorem str_turn (big cells : List Int) (t u : Int) (rest : Sto) : dSet (.loc 1) (.int 2) (.int u) (strO big cells t rest) = some (strO big cells u rest) := by
  simp [dSet, strO, getL_lst1, ixN]
theorem close_same {S S' : Sto} {d : D} (h : S'.length = S.length) : close S d S' = .ok d S' := by
  unfold close; rw [if_pos h]
theorem draw_loop {m : Int} (hm : 0 < m) (hm2 : m.natAbs.log2 < 9000) (cells : List Int) (t : Int) (rest : Sto) (x3 x4 x5 : Option D) : ∀ (big : List Int) (k : Nat) (x2 : Option D), (∀ c ∈ big, 0 ≤ c) → big.length < k →
    (∃ r big', whileD C1__law_draw L1__law_draw k [some (.loc 1), some (.int m), x2, x3, x4, x5] (strO big cells t rest) = .rt (.int r) (strO big' cells t rest) ∧ 0 ≤ r ∧ r < m ∧ (∀ c ∈ big', 0 ≤ c) ∧ big'.length ≤ big.length) ∨
    (∃ x2', whileD C1__law_draw L1__law_draw k [some (.loc 1), some (.int m), x2, x3, x4, x5] (strO big cells t rest) = .nx [some (.loc 1), some (.int m), x2', x3, x4, x5] (strO [] cells t rest)) := by
  intro big
  induction big with
  | nil =>
    intro k x2 _ hk
    obtain ⟨k, rfl⟩ : ∃ j, k = j + 1 := ⟨k - 1, by omega⟩
    refine .inr ⟨x2, ?_⟩
    rw [whileD]
    simp only [eVar, eC, eOp, eT, eAnd, eOr, eNot, eIf, eAndV, eOrV, eNotV, eCall, aNil, aCons, aStar, sOf, eTup, eFl, eLoc, eSl, oNone, oSome, iOf, eNeg, eChain, eMt, bOf, List.lookup, R.bind_ok, R.bind_er, R.bind_stuck, R.toS_ok, R.toS_er, R.toS_stuck, SR.next_nx, SR.next_rt, SR.next_er, SR.next_bk, SR.next_ct, SR.next_stuck, sNil, sSeq, sBrk, sCnt, sExp, sRet, sRetN, sIf, sSet, sAsg, sAug, sPar2, sPar3, tN, DL.tTup, DL.tNil, DL.tCons, DL.tSub, iSeq, srcOf, iRange1, iRange2, sFor, startD, List.map_cons, List.map_nil, List.length_cons, List.length_nil, List.replicate, List.cons_append, List.nil_append, List.getElem?_cons_zero, List.getElem?_cons_succ, List.set_cons_zero, List.set_cons_succ, dSub_int, dFdiv_int, dMod_int, dLt_int, dLe_int, dGt_int, dGe_int, dAddI_int, dSubI_int, dIsN_non, isN, dAdd_int, ll0, ll1, ll2, ll3, ll4, ll5, ll6, ll7, ll8, ll9, ll10, ll11, ll12, ll13, ll14, ll15, ll16, ll17, ll18, ll19, ll20, ll21, ll22, ll23, ll24, ll25, ll26, ll27, ll28, ll29, ll30, ll31, ll32, ll33, ll34, ll35, ll36, ll37, ll38, ll39, ll40, Nat.reduceSub, Nat.reduceAdd, Nat.reduceEqDiff, if_true, if_false, ifp_t, ifp_f, reduceIte, Bool.true_eq_false, Bool.false_eq_true, Option.map_some, Option.map_none, Option.bind_some, Option.bind_none, C1__law_draw, L1__law_draw, str_ix0, str_ne, List.isEmpty_nil, Bool.not_true, Nat.zero_le]
  | cons b big ih =>
    intro k x2 hb hk
    obtain ⟨k, rfl⟩ : ∃ j, k = j + 1 := ⟨k - 1, by omega⟩
    have hb0 : 0 ≤ b := hb b List.mem_cons_self
    have hk' : big.length < k := by simp at hk; omega
    by_cases hpos : 0 < b
    · refine .inl ⟨b % m, (b / m) :: big, ?_, Int.emod_nonneg _ (by omega), Int.emod_lt_of_pos _ hm, fun c hc => ?_, by simp⟩
      · rw [whileD]
        simp only [eVar, eC, eOp, eT, eAnd, eOr, eNot, eIf, eAndV, eOrV, eNotV, eCall, aNil, aCons, aStar, sOf, eTup, eFl, eLoc, eSl, oNone, oSome, iOf, eNeg, eChain, eMt, bOf, List.lookup, R.bind_ok, R.bind_er, R.bind_stuck, R.toS_ok, R.toS_er, R.toS_stuck, SR.next_nx, SR.next_rt, SR.next_er, SR.next_bk, SR.next_ct, SR.next_stuck, sNil, sSeq, sBrk, sCnt, sExp, sRet, sRetN, sIf, sSet, sAsg, sAug, sPar2, sPar3, tN, DL.tTup, DL.tNil, DL.tCons, DL.tSub, iSeq, srcOf, iRange1, iRange2, sFor, startD, List.map_cons, List.map_nil, List.length_cons, List.length_nil, List.replicate, List.cons_append, List.nil_append, List.getElem?_cons_zero, List.getElem?_cons_succ, List.set_cons_zero, List.set_cons_succ, dSub_int, dFdiv_int, dMod_int, dLt_int, dLe_int, dGt_int, dGe_int, dAddI_int, dSubI_int, dIsN_non, isN, dAdd_int, ll0, ll1, ll2, ll3, ll4, ll5, ll6, ll7, ll8, ll9, ll10, ll11, ll12, ll13, ll14, ll15, ll16, ll17, ll18, ll19, ll20, ll21, ll22, ll23, ll24, ll25, ll26, ll27, ll28, ll29, ll30, ll31, ll32, ll33, ll34, ll35, ll36, ll37, ll38, ll39, ll40, Nat.reduceSub, Nat.reduceAdd, Nat.reduceEqDiff, if_true, if_false, ifp_t, ifp_f, reduceIte, Bool.true_eq_false, Bool.false_eq_true, Option.map_some, Option.map_none, Option.bind_some, Option.bind_none, C1__law_draw, L1__law_draw, str_ix0, str_ne, str_get, str_set, List.isEmpty_cons, Bool.not_false, hpos, decide_true, hm, hm2, and_self, Nat.zero_le]
      · rcases List.mem_cons.mp hc with rfl | hc
        · exact Int.ediv_nonneg hb0 (by omega)
        · exact hb c (List.mem_cons_of_mem _ hc)
    · have e : b = 0 := by omega
      subst e
      rw [whileD]
      simp only [eVar, eC, eOp, eT, eAnd, eOr, eNot, eIf, eAndV, eOrV, eNotV, eCall, aNil, aCons, aStar, sOf, eTup, eFl, eLoc, eSl, oNone, oSome, iOf, eNeg, eChain, eMt, bOf, List.lookup, R.bind_ok, R.bind_er, R.bind_stuck, R.toS_ok, R.toS_er, R.toS_stuck, SR.next_nx, SR.next_rt, SR.next_er, SR.next_bk, SR.next_ct, SR.next_stuck, sNil, sSeq, sBrk, sCnt, sExp, sRet, sRetN, sIf, sSet, sAsg, sAug, sPar2, sPar3, tN, DL.tTup, DL.tNil, DL.tCons, DL.tSub, iSeq, srcOf, iRange1, iRange2, sFor, startD, List.map_cons, List.map_nil, List.length_cons, List.length_nil, List.replicate, List.cons_append, List.nil_append, List.getElem?_cons_zero, List.getElem?_cons_succ, List.set_cons_zero, List.set_cons_succ, dSub_int, dFdiv_int, dMod_int, dLt_int, dLe_int, dGt_int, dGe_int, dAddI_int, dSubI_int, dIsN_non, isN, dAdd_int, ll0, ll1, ll2, ll3, ll4, ll5, ll6, ll7, ll8, ll9, ll10, ll11, ll12, ll13, ll14, ll15, ll16, ll17, ll18, ll19, ll20, ll21, ll22, ll23, ll24, ll25, ll26, ll27, ll28, ll29, ll30, ll31, ll32, ll33, ll34, ll35, ll36, ll37, ll38, ll39, ll40, Nat.reduceSub, Nat.reduceAdd, Nat.reduceEqDiff, if_true, if_false, ifp_t, ifp_f, reduceIte, Bool.true_eq_false, Bool.false_eq_true, Option.map_some, Option.map_none, Option.bind_some, Option.bind_none, C1__law_draw, L1__law_draw, str_ix0, str_ne, str_get, str_pop, str_lst, List.isEmpty_cons, Bool.not_false, Int.lt_irrefl, decide_false, Nat.zero_le]
      have := ih k (some (.int 0)) (fun c hc => hb c (List.mem_cons_of_mem _ hc)) hk'
      rcases this with ⟨r, big', h1, h2, h3, h4, h5⟩ | h
      · exact .inl ⟨r, big', h1, h2, h3, h4, Nat.le_succ_of_le h5⟩
      · exact .inr h
theorem mul_small {i j : Int} (h : -(2 ^ 64) < i ∧ i < 2 ^ 64) (S : Sto) : dMul (.int i) (.int j) S = .ok (.int (i * j)) S := by
  exact ifp_pos (.inl (.inl h))
theorem mul_smallR {i j : Int} (h : -(2 ^ 64) < j ∧ j < 2 ^ 64) (S : Sto) : dMul (.int i) (.int j) S = .ok (.int (i * j)) S := by
  exact ifp_pos (.inl (.inr h))
theorem log2_small {x : Nat} (b : Nat) (h : x < 2 ^ b) (h0 : 0 < b) (h9 : b ≤ 9000) : x.log2 < 9000 := Nat.lt_of_lt_of_le (PySem.Flt.log2_lt_of h0 h) h9
theorem bLen_fl (xs : List D) (S : Sto) : bLen [.fl xs] S = .ok (.int xs.length) S := rfl
theorem fnC_rt {n m : Nat} {B : Ev → Sto → SR} {ds : List D} {S S' : Sto} {d : D} (hm : ds.length = m) (h : B (startD n ds) S = .rt d S') (hc : S'.length = S.length) : fnC close n m B ds S = .ok d S' := by
  unfold fnC
  rw [if_pos hm, h]
  exact close_same hc
/-- a draw: some number below m, and the stream goes on -/
theorem draw_ok {S : Sto} {n : Nat} {rest : Sto} (h : Strm S n rest) {m : Int} (hm : 0 < m) (hm2 : m.natAbs.log2 < 9000) (hn : n < 2 ^ 60) :
    ∃ r S', F__law_draw [.loc 1, .int m] S = .ok (.int r) S' ∧ 0 ≤ r ∧ r < m ∧ Strm S' (n + 1) rest := by
  obtain ⟨big, cells, t, rfl, o⟩ := h
  have hst : startD 6 [D.loc 1, D.int m] = [some (.loc 1), some (.int m), none, none, none, none] := rfl
  rcases draw_loop hm hm2 cells t rest none none none big 4000 none o.bigs (by have := o.few; omega) with ⟨r, big', h1, h2, h3, h4, h5⟩ | ⟨x2, h1⟩
  · refine ⟨r, strO big' cells t rest, ?_, h2, h3, big', cells, t, rfl, h4, o.cls, o.ne, Nat.le_trans h5 o.few, o.t0, by have := o.tn; omega⟩
    refine fnC_rt rfl ?_ rfl
    rw [hst]
    unfold B__law_draw
    rw [sSeq, h1]; rfl
  · have t0 := o.t0
    have tn := o.tn
    have hcl : 0 < (cells.length : Int) := by
      have := List.length_pos_iff.mpr o.ne
      omega
    have hix0 : 0 ≤ (t + 1) % (cells.length : Int) := Int.emod_nonneg _ (by omega)
    have hix1 : (t + 1) % (cells.length : Int) < cells.length := Int.emod_lt_of_pos _ hcl
    obtain ⟨z, hz, hat⟩ := atI_map hix0 hix1
    have hz0 := o.cls z hz
    have c0 : 0 ≤ z % 2147483587 := Int.emod_nonneg _ (by decide)
    have c1 : z % 2147483587 < 2147483587 := Int.emod_lt_of_pos _ (by decide)
    have hx : ∀ S, dIx (.fl (cells.map D.int)) (.int ((t + 1) % (cells.length : Int))) S = .ok (.int z) S := fun S => dIx_fl hat
    have m1 : ∀ S, dMul (.int 48271) (.int (t + 1)) S = .ok (.int (48271 * (t + 1))) S := fun S => mul_small (by decide) S
    have m2 : ∀ S, dMul (.int (z % 2147483587)) (.int (16807 + 48271 * (t + 1))) S = .ok (.int (z % 2147483587 * (16807 + 48271 * (t + 1)))) S := fun S => mul_small (by omega) S
    have m3 : ∀ S, dMul (.int 69621) (.int (t + 1)) S = .ok (.int (69621 * (t + 1))) S := fun S => mul_small (by decide) S
    have m4 : ∀ S, dMul (.int (69621 * (t + 1))) (.int (t + 1)) S = .ok (.int (69621 * (t + 1) * (t + 1))) S := fun S => mul_smallR (by omega) S
    have l16 : (16 : Int).natAbs.log2 < 9000 := by decide
    have m5 : ∀ (x : Int) S, dMul (.int (x % 2147483647)) (.int (x % 2147483647)) S = .ok (.int (x % 2147483647 * (x % 2147483647))) S := fun x S => by
      have a0 : 0 ≤ x % 2147483647 := Int.emod_nonneg _ (by decide)
      have a1 : x % 2147483647 < 2147483647 := Int.emod_lt_of_pos _ (by decide)
      exact mul_small (by omega) S
    have key : ∃ y : Int, B__law_draw [some (.loc 1), some (.int m), none, none, none, none] (strO big cells t rest) = .rt (.int (y % m)) (strO [] cells (t + 1) rest) := by
      unfold B__law_draw
      rw [sSeq, h1]
      simp only [eVar, eC, eOp, eT, eAnd, eOr, eNot, eIf, eAndV, eOrV, eNotV, eCall, aNil, aCons, aStar, sOf, eTup, eFl, eLoc, eSl, oNone, oSome, iOf, eNeg, eChain, eMt, bOf, List.lookup, R.bind_ok, R.bind_er, R.bind_stuck, R.toS_ok, R.toS_er, R.toS_stuck, SR.next_nx, SR.next_rt, SR.next_er, SR.next_bk, SR.next_ct, SR.next_stuck, sNil, sSeq, sBrk, sCnt, sExp, sRet, sRetN, sIf, sSet, sAsg, sAug, sPar2, sPar3, tN, DL.tTup, DL.tNil, DL.tCons, DL.tSub, iSeq, srcOf, iRange1, iRange2, sFor, startD, List.map_cons, List.map_nil, List.length_cons, List.length_nil, List.replicate, List.cons_append, List.nil_append, List.getElem?_cons_zero, List.getElem?_cons_succ, List.set_cons_zero, List.set_cons_succ, dSub_int, dFdiv_int, dMod_int, dLt_int, dLe_int, dGt_int, dGe_int, dAddI_int, dSubI_int, dIsN_non, isN, dAdd_int, ll0, ll1, ll2, ll3, ll4, ll5, ll6, ll7, ll8, ll9, ll10, ll11, ll12, ll13, ll14, ll15, ll16, ll17, ll18, ll19, ll20, ll21, ll22, ll23, ll24, ll25, ll26, ll27, ll28, ll29, ll30, ll31, ll32, ll33, ll34, ll35, ll36, ll37, ll38, ll39, ll40, Nat.reduceSub, Nat.reduceAdd, Nat.reduceEqDiff, if_true, if_false, ifp_t, ifp_f, reduceIte, Bool.true_eq_false, Bool.false_eq_true, Option.map_some, Option.map_none, Option.bind_some, Option.bind_none, str_ix0, str_ix1, str_ix2, str_turn, dAdd_int, bLen_fl, List.length_map, hcl, hx, m1, m2, m3, m4, m5, l16, hm, Int.reduceLT, and_self]
      exact ⟨_, rfl⟩
    obtain ⟨y, hy⟩ := key
    exact ⟨y % m, _, fnC_rt rfl hy rfl, Int.emod_nonneg _ (by omega), Int.emod_lt_of_pos _ hm, [], cells, t + 1, rfl, by simp, o.cls, o.ne, by simp, by omega, by omega⟩
end DL
namespace DL
open PySem PySem.Spec L2
open PyProof.Rows hiding St
theorem Strm.len {S : Sto} {n : Nat} {rest : Sto} (h : Strm S n rest) : S.length = rest.length + 2 := by
  obtain ⟨b, c, t, rfl, o⟩ := h; rfl
theorem lowL_ints (n : Nat) (l : List Int) : lowL n (l.map D.int) = true := by
  induction l with
  | nil => rfl
  | cons i l ih => simp [lowL, low, ih]
theorem lowL_of {n : Nat} : ∀ {l : List D}, (∀ d ∈ l, low n d = true) → lowL n l = true
  | [], _ => rfl
  | d :: l, h => by
    rw [lowL, h d List.mem_cons_self, lowL_of fun x hx => h x (List.mem_cons_of_mem _ hx)]; rfl
theorem getL_end (S : Sto) (ds : List D) : getL (S ++ [.lst ds]) S.length = some ds := getL_of (by simp)
theorem getQ_end (S : Sto) (ds : List D) : getQ (S ++ [.lst ds]) S.length = some ds := getQ_of (by simp)
theorem set_end (S : Sto) (a b : Ob) : (S ++ [a]).set S.length b = S ++ [b] := by
  rw [List.set_append_right _ _ (Nat.le_refl _)]; simp
theorem finFl_eq {S S' : Sto} {l : List D} (h : getL S' S.length = some l) (hc : Trunc S S' ∧ S'.length = S.length + 1 ∧ lowL S.length l = true) : finFl S S' = .ok (.fl l) (S'.take S.length) := by
  unfold finFl
  simp only [h]
  rw [if_pos hc]
theorem finFl_end {S : Sto} {l : List D} (h : lowL S.length l = true) : finFl S (S ++ [.lst l]) = .ok (.fl l) S := by
  rw [finFl_eq (getL_end S l) ⟨Trunc.same _ _, by simp, h⟩]
  simp
/-- a comprehension whose parts change nothing -/
theorem compD_pure {T : Tg} {c : Ev → Sto → R Bool} {f : Ev → Sto → R D} {ρ : Ev} (ρd : D → Ev) (p : D → Bool) (e : D → D) (S : Sto) : ∀ (ds acc : List D),
    (∀ d ∈ ds, ∀ S', T d ρ S' = some (ρd d, S') ∧ c (ρd d) S' = .ok (p d) S' ∧ (p d = true → f (ρd d) S' = .ok (e d) S')) → acc.length + ds.length ≤ sizeLine →
    compD yes T c f S.length ρ ds (S ++ [.lst acc]) = some (S ++ [.lst (acc ++ (ds.filter p).map e)])
  | [], acc, _, _ => by rw [compD, if_pos (show yes _ from trivial)]; simp
  | d :: ds, acc, h, hl => by
    obtain ⟨h1, h2, h3⟩ := h d List.mem_cons_self (S ++ [.lst acc])
    have hl' : acc.length + (ds.length + 1) ≤ sizeLine := hl
    rw [compD, if_pos (show yes _ from trivial), h1]
    simp only [h2]
    cases hp : p d with
    | false =>
      rw [if_neg (by decide)]
      rw [compD_pure ρd p e S ds acc (fun x hx => h x (List.mem_cons_of_mem _ hx)) (by omega)]
      simp [List.filter, hp]
    | true =>
      rw [if_pos rfl]
      simp only [h3 hp, getL_end, set_end]
      rw [ifp_pos (by omega)]
      rw [compD_pure ρd p e S ds (acc ++ [e d]) (fun x hx => h x (List.mem_cons_of_mem _ hx)) (by simp; omega)]
      simp [List.filter, hp]
theorem eLc_pure {src : Ev → Sto → R Src} {T : Tg} {vs : List Nat} {c : Ev → Sto → R Bool} {f : Ev → Sto → R D} {ρ : Ev} {S : Sto} (ds : List D) (ρd : D → Ev) (p : D → Bool) (e : D → D) (hs : src ρ S = .ok (ds, yes) S)
    (h : ∀ d ∈ ds, ∀ S', T d (wipeD ρ vs) S' = some (ρd d, S') ∧ c (ρd d) S' = .ok (p d) S' ∧ (p d = true → f (ρd d) S' = .ok (e d) S')) (hl : ds.length ≤ sizeLine) (hlow : ∀ d ∈ ds, p d = true → low S.length (e d) = true) :
    eLc finFl src T vs c f ρ S = .ok (.fl ((ds.filter p).map e)) S := by
  unfold eLc
  rw [hs]
  show (match compD yes T c f S.length (wipeD ρ vs) ds (S ++ [Ob.lst []]) with
    | some S2 => finFl S S2
    | none => .stuck) = _
  rw [compD_pure ρd p e S ds [] h (by simpa using hl)]
  simp only [List.nil_append]
  refine finFl_end (lowL_of fun d hd => ?_)
  obtain ⟨x, hx, rfl⟩ := List.mem_map.mp hd
  obtain ⟨h1, h2⟩ := List.mem_filter.mp hx
  exact hlow x h1 h2
theorem eLc_pureLoc {src : Ev → Sto → R Src} {T : Tg} {vs : List Nat} {c : Ev → Sto → R Bool} {f : Ev → Sto → R D} {ρ : Ev} {S : Sto} (ds : List D) (ρd : D → Ev) (p : D → Bool) (e : D → D) (hs : src ρ S = .ok (ds, yes) S)
    (h : ∀ d ∈ ds, ∀ S', T d (wipeD ρ vs) S' = some (ρd d, S') ∧ c (ρd d) S' = .ok (p d) S' ∧ (p d = true → f (ρd d) S' = .ok (e d) S')) (hl : ds.length ≤ sizeLine) :
    eLc finLoc src T vs c f ρ S = .ok (.loc S.length) (S ++ [.lst ((ds.filter p).map e)]) := by
  unfold eLc
  rw [hs]
  show (match compD yes T c f S.length (wipeD ρ vs) ds (S ++ [Ob.lst []]) with
    | some S2 => finLoc S S2
    | none => .stuck) = _
  rw [compD_pure ρd p e S ds [] h (by simpa using hl)]
  simp only [List.nil_append]; rfl
theorem Strm.app {S : Sto} {n : Nat} {rest : Sto} (h : Strm S n rest) (l : Sto) : Strm (S ++ l) n (rest ++ l) := by
  obtain ⟨b, c, t, rfl, o⟩ := h
  exact ⟨b, c, t, rfl, o⟩
theorem Strm.getL_end {S : Sto} {n : Nat} {rest : Sto} {ds : List D} (h : Strm S n (rest ++ [.lst ds])) : getL S (rest.length + 2) = some ds := by
  obtain ⟨b, c, t, rfl, o⟩ := h
  refine getL_of ?_
  show (rest ++ [Ob.lst ds])[rest.length]? = _
  simp
theorem Strm.getQ_end {S : Sto} {n : Nat} {rest : Sto} {ds : List D} (h : Strm S n (rest ++ [.lst ds])) : getQ S (rest.length + 2) = some ds := by
  obtain ⟨b, c, t, rfl, o⟩ := h
  refine getQ_of ?_
  show (rest ++ [Ob.lst ds])[rest.length]? = _
  simp
theorem Strm.set_end {S : Sto} {n : Nat} {rest : Sto} {a : Ob} (h : Strm S n (rest ++ [a])) (b : Ob) : Strm (S.set (rest.length + 2) b) n (rest ++ [b]) := by
  obtain ⟨bg, c, t, rfl, o⟩ := h
  refine ⟨bg, c, t, ?_, o⟩
  show Ob.lst _ :: Ob.lst _ :: (rest ++ [a]).set rest.length b = _
  rw [DL.set_end]; rfl
/-- young places go: the stream stays -/
theorem Strm.trunc {S S' : Sto} {n m : Nat} {rest l : Sto} (h : Strm S n rest) (h' : Strm S' m (rest ++ l)) : Trunc S S' ∧ Strm (S'.take S.length) m rest := by
  obtain ⟨b, c, t, rfl, o⟩ := h
  obtain ⟨b', c', t', rfl, o'⟩ := h'
  refine ⟨⟨by simp [strO], fun k ob hk e => ?_⟩, b', c', t', ?_, o'⟩
  · match k, hk, e with
    | 0, hk, e =>
      cases e
      exact .inr (by simp [lowO, lowL_ints])
    | 1, hk, e =>
      cases e
      refine .inr ?_
      simp [lowO, lowL, low, lowL_ints, strO]
    | k + 2, hk, e =>
      left
      have hk' : k < rest.length := by simp [strO] at hk; exact hk
      show rest[k]? = some ob
      have e : (rest ++ l)[k]? = some ob := e
      rw [List.getElem?_append_left hk'] at e; exact e
  · show (Ob.lst _ :: Ob.lst _ :: (rest ++ l)).take (rest.length + 2) = _
    simp [strO]
theorem stream_ok {ns : List Int} (h : ns.length ≤ 63) : ∃ S, F__law_stream [.kl (ns.map D.int)] [] = .ok (.loc 1) S ∧ Strm S 0 [] := by
  have e1 : ∀ S, eLc finFl (iSeq (eVar 0)) (tN 2) [2] cYes E1__law_stream [some (.kl (ns.map D.int)), none, none] S = .ok (.fl ((ns.map D.int).map fun d => match d with | .int i => .int (if i < 0 then -i else i) | d => d)) S := fun S => by
    have := eLc_pure (src := iSeq (eVar 0)) (T := tN 2) (vs := [2]) (c := cYes) (f := E1__law_stream) (ρ := [some (.kl (ns.map D.int)), none, none]) (S := S) (ns.map D.int) (fun d => [some (.kl (ns.map D.int)), none, some d]) (fun _ => true)
      (fun d => match d with | .int i => .int (if i < 0 then -i else i) | d => d) rfl (fun d hd S' => ?_) (by simp; exact Nat.le_trans h (by decide)) (fun d hd _ => ?_)
    · rw [this, List.filter_eq_self.mpr (by simp)]
    · obtain ⟨i, _, rfl⟩ := List.mem_map.mp hd
      exact ⟨rfl, rfl, fun _ => rfl⟩
    · obtain ⟨i, _, rfl⟩ := List.mem_map.mp hd
      rfl
  have e2 : ((ns.map D.int).map fun d => match d with | .int i => D.int (if i < 0 then -i else i) | d => d) = (ns.map fun i => if i < 0 then -i else i).map D.int := by simp
  generalize hcs : (ns.map fun i => if i < 0 then -i else i) = cs at e2
  have hc0 : ∀ c ∈ cs, 0 ≤ c := fun c hc => by
    rw [← hcs] at hc
    obtain ⟨i, _, rfl⟩ := List.mem_map.mp hc
    split <;> omega
  have hlen : cs.length ≤ 63 := by rw [← hcs]; simpa using h
  have hpow : ∀ S, dPow (.int 10) (.int 18) S = .ok (.int (10 ^ 18)) S := fun S => dPow_ok (by decide) S
  have e3 : ∀ S, eLc finLoc (iSeq (eVar 1)) (tN 2) [2] Q1__law_stream E2__law_stream [some (.kl (ns.map D.int)), some (.fl (cs.map D.int)), none] S = .ok (.loc S.length) (S ++ [.lst ((cs.filter fun i => decide ((10 : Int) ^ 18 ≤ i)).map D.int)]) := fun S => by
    have := eLc_pureLoc (src := iSeq (eVar 1)) (T := tN 2) (vs := [2]) (c := Q1__law_stream) (f := E2__law_stream) (ρ := [some (.kl (ns.map D.int)), some (.fl (cs.map D.int)), none]) (S := S) (cs.map D.int)
      (fun d => [some (.kl (ns.map D.int)), some (.fl (cs.map D.int)), some d]) (fun d => match d with | .int i => decide ((10 : Int) ^ 18 ≤ i) | _ => false) (fun d => d) rfl (fun d hd S' => ?_) (by simp; exact Nat.le_trans hlen (by decide))
    · rw [this, List.filter_map]
      simp [Function.comp_def]
    · obtain ⟨i, _, rfl⟩ := List.mem_map.mp hd
      refine ⟨rfl, ?_, fun _ => rfl⟩
      have hw : wipeD [some (D.kl (ns.map D.int)), some (D.fl (cs.map D.int)), none] [2] = [some (D.kl (ns.map D.int)), some (D.fl (cs.map D.int)), none] := rfl
      simp only [eVar, eC, eOp, eT, eAnd, eOr, eNot, eIf, eAndV, eOrV, eNotV, eCall, aNil, aCons, aStar, sOf, eTup, eFl, eLoc, eSl, oNone, oSome, iOf, eNeg, eChain, eMt, bOf, List.lookup, R.bind_ok, R.bind_er, R.bind_stuck, R.toS_ok, R.toS_er, R.toS_stuck, SR.next_nx, SR.next_rt, SR.next_er, SR.next_bk, SR.next_ct, SR.next_stuck, sNil, sSeq, sBrk, sCnt, sExp, sRet, sRetN, sIf, sSet, sAsg, sAug, sPar2, sPar3, tN, DL.tTup, DL.tNil, DL.tCons, DL.tSub, iSeq, srcOf, iRange1, iRange2, sFor, startD, List.map_cons, List.map_nil, List.length_cons, List.length_nil, List.replicate, List.cons_append, List.nil_append, List.getElem?_cons_zero, List.getElem?_cons_succ, List.set_cons_zero, List.set_cons_succ, dSub_int, dFdiv_int, dMod_int, dLt_int, dLe_int, dGt_int, dGe_int, dAddI_int, dSubI_int, dIsN_non, isN, dAdd_int, ll0, ll1, ll2, ll3, ll4, ll5, ll6, ll7, ll8, ll9, ll10, ll11, ll12, ll13, ll14, ll15, ll16, ll17, ll18, ll19, ll20, ll21, ll22, ll23, ll24, ll25, ll26, ll27, ll28, ll29, ll30, ll31, ll32, ll33, ll34, ll35, ll36, ll37, ll38, ll39, ll40, Nat.reduceSub, Nat.reduceAdd, Nat.reduceEqDiff, if_true, if_false, ifp_t, ifp_f, reduceIte, Bool.true_eq_false, Bool.false_eq_true, Option.map_some, Option.map_none, Option.bind_some, Option.bind_none, Q1__law_stream, hpow]
  refine ⟨strO (cs.filter fun i => decide ((10 : Int) ^ 18 ≤ i)) (cs ++ [(cs.length : Int) + 17]) 0 [], ?_, ⟨_, _, _, rfl, ?_, ?_, by simp, ?_, by omega, by omega⟩⟩
  · unfold F__law_stream fnC
    rw [if_pos (show [D.kl (ns.map D.int)].length = 1 from rfl)]
    have hst : startD 3 [D.kl (ns.map D.int)] = [some (.kl (ns.map D.int)), none, none] := rfl
    rw [hst]
    unfold B__law_stream
    have hadd : ∀ S, dAdd (.fl (cs.map D.int)) (.fl [.int ((cs.length : Int) + 17)]) S = .ok (.fl ((cs ++ [(cs.length : Int) + 17]).map D.int)) S := fun S => by
      show ifp ((cs.map D.int).length + 1 ≤ sizeLine) (R.ok (D.fl (cs.map D.int ++ [D.int ((cs.length : Int) + 17)])) S) .stuck = _
      rw [ifp_pos (by rw [List.length_map]; exact Nat.le_trans (Nat.succ_le_succ hlen) (by decide))]
      simp
    simp only [eVar, eC, eOp, eT, eAnd, eOr, eNot, eIf, eAndV, eOrV, eNotV, eCall, aNil, aCons, aStar, sOf, eTup, eFl, eLoc, eSl, oNone, oSome, iOf, eNeg, eChain, eMt, bOf, List.lookup, R.bind_ok, R.bind_er, R.bind_stuck, R.toS_ok, R.toS_er, R.toS_stuck, SR.next_nx, SR.next_rt, SR.next_er, SR.next_bk, SR.next_ct, SR.next_stuck, sNil, sSeq, sBrk, sCnt, sExp, sRet, sRetN, sIf, sSet, sAsg, sAug, sPar2, sPar3, tN, DL.tTup, DL.tNil, DL.tCons, DL.tSub, iSeq, srcOf, iRange1, iRange2, sFor, startD, List.map_cons, List.map_nil, List.length_cons, List.length_nil, List.replicate, List.cons_append, List.nil_append, List.getElem?_cons_zero, List.getElem?_cons_succ, List.set_cons_zero, List.set_cons_succ, dSub_int, dFdiv_int, dMod_int, dLt_int, dLe_int, dGt_int, dGe_int, dAddI_int, dSubI_int, dIsN_non, isN, dAdd_int, ll0, ll1, ll2, ll3, ll4, ll5, ll6, ll7, ll8, ll9, ll10, ll11, ll12, ll13, ll14, ll15, ll16, ll17, ll18, ll19, ll20, ll21, ll22, ll23, ll24, ll25, ll26, ll27, ll28, ll29, ll30, ll31, ll32, ll33, ll34, ll35, ll36, ll37, ll38, ll39, ll40, Nat.reduceSub, Nat.reduceAdd, Nat.reduceEqDiff, if_true, if_false, ifp_t, ifp_f, reduceIte, Bool.true_eq_false, Bool.false_eq_true, Option.map_some, Option.map_none, Option.bind_some, Option.bind_none, e1, e2, e3, dAdd_int, bLen_fl, List.length_map, hadd]
    rfl
  · intro c hc
    exact hc0 c (List.mem_filter.mp hc).1
  · intro c hc
    rcases List.mem_append.mp hc with hc | hc
    · exact hc0 c hc
    · simp at hc; omega
  · exact Nat.le_trans (List.length_filter_le _ _) hlen
theorem close_law {d : D} (h : low 0 d = true) (S' : Sto) : ∃ S'', close [] d S' = .ok d S'' := by
  unfold close
  split
  · exact ⟨_, rfl⟩
  · rw [if_pos ⟨⟨Nat.zero_le _, fun k o hk _ => absurd hk (Nat.not_lt_zero _)⟩, h⟩]
    exact ⟨_, rfl⟩
/-- a law's function by its body -/
theorem law_by {n : Nat} {B : Ev → Sto → SR} (h : ∀ ns : List Int, ns.length ≤ 63 → (∀ z ∈ ns, Builtin.Int.intBits z ≤ 1048576) → ∃ S', B (startD n [.kl (ns.map D.int)]) [] = .rt (.bl true) S') : LawOk (fnC close n 1 B) := by
  intro ns hl hb
  obtain ⟨S', e⟩ := h ns hl hb
  unfold fnC
  rw [if_pos (show [D.kl (ns.map D.int)].length = 1 from rfl), e]
  exact close_law rfl S'
end DL
namespace DL
open PySem PySem.Spec L2
open PyProof.Rows hiding St
end DL
namespace DL
open PySem PySem.Spec L2
open PyProof.Rows hiding St
noncomputable def B__law_from : Ev → Sto → SR :=
  (sRet (eOp dAdd (eSl mkFl (eVar 0) (oSome (eVar 1)) oNone) (eSl mkFl (eVar 0) oNone (oSome (eVar 1)))))
noncomputable def F__law_from : Fn := fnC close 2 2 B__law_from
noncomputable def L1_heights_of (ρ : Ev) (S : Sto) : SR :=
  (sSeq (sAug 2 dAddI (eOp dSub (eC (.int 1)) (eVar 3)))
    (sExp (eMt isLst mAppend (eVar 1) (aCons (eVar 2) aNil)))) ρ S
noncomputable def B_heights_of : Ev → Sto → SR :=
  (sSeq (sSet 1 (eLoc aNil))
    (sSeq (sSet 2 (eC (.int 0)))
    (sSeq (sFor (iSeq (eVar 0)) (tN 3) L1_heights_of sNil)
    (sRet (eCall bTuple (aCons (eVar 1) aNil))))))
noncomputable def F_heights_of : Fn := fnC close 4 1 B_heights_of
noncomputable def B_need_of : Ev → Sto → SR :=
  (sRet (eOp dSub (eC (.int 1)) (eCall bMin (aCons (eOp dAdd (eFl (aCons (eC (.int 1)) aNil)) (eCall (bList mkFl) (aCons (eCall F_heights_of (aCons (eVar 0) aNil)) aNil))) aNil))))
noncomputable def F_need_of : Fn := fnC close 1 1 B_need_of
noncomputable def B_is_integer : Ev → Sto → SR :=
  (sRet (eAndV (eCall bIsi (aCons (eVar 0) (aCons (eC (.ty "int")) aNil))) (eAndV (eNotV (eCall bIsi (aCons (eVar 0) (aCons (eC (.ty "bool")) aNil)))) (eChain dLe dLe (eVar 1) (eVar 0) (eVar 2)))))
noncomputable def F_is_integer : Fn := fnC close 3 3 B_is_integer
theorem bTuple_loc {S : Sto} {n : Nat} {l : List D} (h : getQ S n = some l) : bTuple [.loc n] S = .ok (.tup l) S := by
  unfold bTuple
  simp only [show seqOf S (.loc n) = some l from h]
theorem bTuple_fl (l : List D) (S : Sto) : bTuple [.fl l] S = .ok (.tup l) S := rfl
def Arity (t : Int) : Prop := 0 ≤ t ∧ t ≤ 5
end DL
namespace DL
/-- one token read: the height, and what was missing so far -/
def stp (s : Int × Int) (t : Int) : Int × Int := (s.1 + (1 - t), max s.2 (1 - (s.1 + (1 - t))))
def hts : Int → List Int → List Int
  | _, [] => []
  | h, t :: l => (h + (1 - t)) :: hts (h + (1 - t)) l
/-- the need of a row -/
def ne (l : List Int) : Int := (l.foldl stp (0, 0)).2
/-- the height behind a row -/
def ht (l : List Int) : Int := (l.foldl stp (0, 0)).1
theorem stp_fst : ∀ (l : List Int) (s : Int × Int), (l.foldl stp s).1 = s.1 + l.length - l.sum
  | [], s => by simp
  | t :: l, s => by
    rw [List.foldl_cons, stp_fst l]
    simp [stp]; omega
theorem ht_eq (l : List Int) : ht l = l.length - l.sum := by unfold ht; rw [stp_fst]; simp
theorem hts_length : ∀ (l : List Int) (h : Int), (hts h l).length = l.length
  | [], _ => rfl
  | t :: l, h => by simp [hts, hts_length l]
theorem hts_min : ∀ (l : List Int) (h m : Int), (hts h l).foldl min (1 - m) = 1 - (l.foldl stp (h, m)).2
  | [], h, m => rfl
  | t :: l, h, m => by
    have e : min (1 - m) (h + (1 - t)) = 1 - max m (1 - (h + (1 - t))) := by omega
    rw [hts, List.foldl_cons, List.foldl_cons, e, hts_min l]
    rfl
theorem stp_mono : ∀ (l : List Int) (s : Int × Int), s.2 ≤ (l.foldl stp s).2
  | [], s => Int.le_refl _
  | t :: l, s => by
    have := stp_mono l (stp s t)
    rw [List.foldl_cons]
    simp only [stp] at this ⊢
    omega
theorem ne_nn (l : List Int) : 0 ≤ ne l := stp_mono l (0, 0)
def rot {α : Type} (l : List α) (p : Nat) : List α := l.drop p ++ l.take p
theorem rot_length {α : Type} (l : List α) (p : Nat) (h : p ≤ l.length) : (rot l p).length = l.length := by
  unfold rot; simp; omega
theorem rot_mem {α : Type} {l : List α} {p : Nat} {x : α} (h : x ∈ rot l p) : x ∈ l := by
  unfold rot at h
  rcases List.mem_append.mp h with h | h
  · exact List.mem_of_mem_drop h
  · exact List.mem_of_mem_take h
theorem rot_get {α : Type} (l : List α) (p k : Nat) (hp : p ≤ l.length) (hk : k < l.length) : (rot l p)[k]? = l[(p + k) % l.length]? := by
  unfold rot
  by_cases h : p + k < l.length
  · rw [List.getElem?_append_left (by simp; omega), List.getElem?_drop, Nat.mod_eq_of_lt h]
  · have e : (p + k) % l.length = p + k - l.length := by
      rw [Nat.mod_eq_sub_mod (by omega), Nat.mod_eq_of_lt (by omega)]
    rw [List.getElem?_append_right (by simp; omega), e, List.getElem?_take, if_pos (by simp; omega)]
    congr 1
    simp; omega
/-- the tokens round and round -/
def tk (l : List Int) (j : Nat) : Int := (l[j % l.length]?).getD 0
/-- the height behind i tokens, round and round -/
def hh (l : List Int) : Nat → Int
  | 0 => 0
  | i + 1 => hh l i + (1 - tk l i)
theorem hh_round (l : List Int) (c : Int) (hc : hh l l.length = c) : ∀ j, hh l (j + l.length) = hh l j + c
  | 0 => by simp [hc, hh]
  | j + 1 => by
    have e : j + 1 + l.length = (j + l.length) + 1 := by omega
    have e2 : tk l (j + l.length) = tk l j := by unfold tk; rw [Nat.add_mod_right]
    rw [e, hh, hh_round l c hc j, e2, hh]; omega
theorem take_succ' {l : List Int} {k : Nat} {t : Int} (h : l[k]? = some t) : l.take (k + 1) = l.take k ++ [t] := by
  obtain ⟨hk, rfl⟩ := List.getElem?_eq_some_iff.mp h
  rw [List.take_succ_eq_append_getElem hk]
/-- a prefix of a turned row -/
theorem rot_pre (l : List Int) (p : Nat) (hp : p ≤ l.length) (s : Int × Int) : ∀ k, k ≤ l.length → ((rot l p).take k |>.foldl stp s).1 = s.1 + hh l (p + k) - hh l p
  | 0, _ => by simp
  | k + 1, hk => by
    have hk' : k < l.length := by omega
    have hg := rot_get l p k hp hk'
    have hm : (p + k) % l.length < l.length := Nat.mod_lt _ (by omega)
    rw [List.getElem?_eq_getElem hm] at hg
    rw [take_succ' hg, List.foldl_append]
    show ((rot l p).take k |>.foldl stp s).1 + (1 - _) = _
    rw [rot_pre l p hp s k (by omega)]
    have e : tk l (p + k) = l[(p + k) % l.length] := by unfold tk; rw [List.getElem?_eq_getElem hm]; rfl
    show _ = s.1 + (hh l (p + k) + (1 - tk l (p + k))) - hh l p
    rw [e]; omega
theorem ne_zero_iff (l : List Int) : ∀ (s : Int × Int), s.2 = 0 → ((l.foldl stp s).2 = 0 ↔ ∀ k, k < l.length → 1 ≤ ((l.take (k + 1)).foldl stp s).1) := by
  induction l with
  | nil => intro s hs; simp [hs]
  | cons t l ih =>
    intro s hs
    rw [List.foldl_cons]
    by_cases h : 1 ≤ s.1 + (1 - t)
    · have e : (stp s t).2 = 0 := by simp only [stp]; omega
      rw [ih (stp s t) e]
      constructor
      · intro H k hk
        cases k with
        | zero => simpa [stp] using h
        | succ k => exact H k (by simpa using hk)
      · intro H k hk
        exact H (k + 1) (by simpa using hk)
    · constructor
      · intro H
        have := stp_mono l (stp s t)
        simp only [stp] at this
        have H' : (l.foldl stp (s.1 + (1 - t), max s.2 (1 - (s.1 + (1 - t))))).2 = 0 := H
        omega
      · intro H
        have := H 0 (by simp)
        simp [stp] at this
        omega
/-- nothing is missing from p on exactly if all later heights are greater -/
theorem need0_iff (l : List Int) (p : Nat) (hp : p ≤ l.length) : ne (rot l p) = 0 ↔ ∀ k, k < l.length → hh l p < hh l (p + (k + 1)) := by
  unfold ne
  rw [ne_zero_iff (rot l p) (0, 0) rfl, rot_length l p hp]
  constructor
  · intro H k hk
    have := H k hk
    rw [rot_pre l p hp (0, 0) (k + 1) (by omega)] at this
    simp at this; omega
  · intro H k hk
    have := H k hk
    rw [rot_pre l p hp (0, 0) (k + 1) (by omega)]
    simp; omega
/-- the least of f p .. f (p + k) -/
def mn (f : Nat → Int) : Nat → Nat → Int
  | p, 0 => f p
  | p, k + 1 => min (f p) (mn f (p + 1) k)
theorem mn_le (f : Nat → Int) : ∀ (k p j : Nat), j ≤ k → mn f p k ≤ f (p + j)
  | 0, p, j, h => by
    have : j = 0 := by omega
    subst this; exact Int.le_refl _
  | k + 1, p, 0, _ => by rw [mn]; simp; omega
  | k + 1, p, j + 1, h => by
    have := mn_le f k (p + 1) j (by omega)
    have e : p + (j + 1) = p + 1 + j := by omega
    rw [mn, e]; omega
theorem mn_snoc (f : Nat → Int) : ∀ (k p : Nat), mn f p (k + 1) = min (mn f p k) (f (p + (k + 1)))
  | 0, p => rfl
  | k + 1, p => by
    have e : p + (k + 1 + 1) = p + 1 + (k + 1) := by omega
    rw [mn, mn_snoc f k (p + 1), mn, e]; omega
theorem lt_mn (f : Nat → Int) (x : Int) : ∀ (k p : Nat), x < mn f p k ↔ ∀ j, j ≤ k → x < f (p + j)
  | 0, p => by
    constructor
    · intro h j hj
      have : j = 0 := by omega
      subst this; exact h
    · intro h; exact h 0 (Nat.le_refl _)
  | k + 1, p => by
    rw [mn]
    have ih := lt_mn f x k (p + 1)
    constructor
    · intro h j hj
      cases j with
      | zero => have : x < f p := by omega
                exact this
      | succ j =>
        have := ih.mp (by omega) j (by omega)
        have e : p + (j + 1) = p + 1 + j := by omega
        rw [e]; exact this
    · intro h
      have h0 := h 0 (by omega)
      have h1 := ih.mpr fun j hj => by
        have := h (j + 1) (by omega)
        have e : p + (j + 1) = p + 1 + j := by omega
        rw [e] at this; exact this
      simp only [Nat.add_zero] at h0
      omega
theorem mn_shift (f : Nat → Int) (n : Nat) (c : Int) (h : ∀ j, f (j + n) = f j + c) : ∀ (k p : Nat), mn f (p + n) k = mn f p k + c
  | 0, p => h p
  | k + 1, p => by
    have e : p + n + 1 = p + 1 + n := by omega
    rw [mn, h p, e, mn_shift f n c h k (p + 1), mn]; omega
theorem hh_len (l : List Int) : hh l l.length = l.length - l.sum := by
  have h := rot_pre l 0 (Nat.zero_le _) (0, 0) l.length (Nat.le_refl _)
  have e : rot l 0 = l := by simp [rot]
  rw [e, List.take_length, stp_fst] at h
  simp [hh] at h; omega
/-- the places from which nothing is missing -/
def begs (l : List Int) : List Nat := (List.range l.length).filter fun p => decide (ne (rot l p) = 0)
theorem begs_count {l : List Int} (hl : ∀ t ∈ l, 0 ≤ t) : ((begs l).length : Int) = max 0 (l.length - l.sum) := by
  by_cases hn : l = []
  · subst hn; simp [begs]
  have hpos : 0 < l.length := List.length_pos_iff.mpr hn
  have hc := hh_len l
  by_cases hp : (l.length : Int) - l.sum ≤ 0
  · have : begs l = [] := by
      unfold begs
      rw [List.filter_eq_nil_iff]
      intro p hm
      simp only [List.mem_range] at hm
      simp only [decide_eq_true_eq]
      intro h
      have := (need0_iff l p (by omega)).mp h (l.length - 1) (by omega)
      have e : p + (l.length - 1 + 1) = p + l.length := by omega
      rw [e, hh_round l _ hc p] at this
      omega
    rw [this]; simp; omega
  · obtain ⟨n, hn'⟩ : ∃ n, l.length = n + 1 := ⟨l.length - 1, by omega⟩
    have up : ∀ p, hh l (p + 1) ≤ hh l p + 1 := fun p => by
      have : 0 ≤ tk l p := by
        unfold tk
        rw [List.getElem?_eq_getElem (Nat.mod_lt _ hpos)]
        exact hl _ (List.getElem_mem _)
      rw [hh]; omega
    have key : ∀ p, mn (hh l) (p + 1) l.length = mn (hh l) (p + 1) n := fun p => by
      have a := mn_snoc (hh l) n (p + 1)
      have b := mn_le (hh l) n (p + 1) 0 (Nat.zero_le _)
      have r := hh_round l _ hc (p + 1)
      have e : p + 1 + (n + 1) = p + 1 + l.length := by omega
      rw [e, r] at a
      rw [hn', a]
      simp only [Nat.add_zero] at b
      rw [hn'] at hp hc
      omega
    have step : ∀ p, mn (hh l) p l.length = min (hh l p) (mn (hh l) (p + 1) l.length) := fun p => by
      rw [key p, hn']; rfl
    have good : ∀ p, p ≤ l.length → (ne (rot l p) = 0 ↔ hh l p < mn (hh l) (p + 1) l.length) := fun p hp => by
      rw [need0_iff l p hp, key p, lt_mn]
      constructor
      · intro H j hj
        have := H j (by omega)
        have e : p + (j + 1) = p + 1 + j := by omega
        rw [e] at this; exact this
      · intro H k hk
        have := H k (by omega)
        have e : p + (k + 1) = p + 1 + k := by omega
        rw [e]; exact this
    have cnt : ∀ q, q ≤ l.length → ((((List.range q).filter fun p => decide (ne (rot l p) = 0)).length : Nat) : Int) = mn (hh l) q l.length - mn (hh l) 0 l.length := by
      intro q
      induction q with
      | zero => intro _; simp
      | succ q ih =>
        intro hq
        rw [List.range_succ, List.filter_append, List.length_append]
        have i1 := ih (by omega)
        have g := good q (by omega)
        have s := step q
        have u := up q
        have m0 := mn_le (hh l) l.length (q + 1) 0 (Nat.zero_le _)
        simp only [Nat.add_zero] at m0
        by_cases h : ne (rot l q) = 0
        · have := g.mp h
          simp only [List.filter_cons, h, decide_true, List.filter_nil, if_true, List.length_cons, List.length_nil]
          omega
        · have := mt g.mpr h
          simp only [List.filter_cons, h, decide_false, List.filter_nil, List.length_nil]
          have e : (if false = true then [q] else []).length = 0 := rfl
          omega
    have := cnt l.length (Nat.le_refl _)
    have sh := mn_shift (hh l) l.length _ (fun j => hh_round l _ hc j) l.length 0
    rw [Nat.zero_add] at sh
    unfold begs
    rw [this, sh]
    omega
end DL
namespace DL
open PySem PySem.Spec L2
open PyProof.Rows hiding St
def ti (l : List Int) : D := .tup (l.map D.int)
theorem fnC_cut {n m : Nat} {B : Ev → Sto → SR} {ds : List D} {S S' : Sto} {d : D} {l : Sto} (hm : ds.length = m) (h : B (startD n ds) S = .rt d S') (hS : S' = S ++ l) (hl : low S.length d = true) : fnC close n m B ds S = .ok d S := by
  unfold fnC
  rw [if_pos hm, h]
  show close S d S' = _
  subst hS
  unfold close
  split
  · rename_i h; have : l = [] := by simpa using h
    subst this; simp
  · rw [if_pos ⟨Trunc.same _ _, hl⟩]; simp
theorem append_end (S : Sto) (acc : List D) (d : D) (h : acc.length < sizeLine) : mAppend (.loc S.length) [d] (S ++ [.lst acc]) = .ok .non (S ++ [.lst (acc ++ [d])]) := by
  unfold mAppend
  simp only [getL_end]
  rw [ifp_pos h, set_end]
theorem isLst_end (S : Sto) (acc : List D) : isLst (S ++ [.lst acc]) (.loc S.length) = true := by
  unfold isLst
  rw [show lstOf (S ++ [.lst acc]) (.loc S.length) = some acc from getL_end S acc]; rfl
theorem heights_loop (x0 : Option D) (S : Sto) : ∀ (l : List Int) (acc : List Int) (h : Int) (x3 : Option D), acc.length + l.length ≤ sizeLine →
    ∃ y2 y3, forD yes (tN 3) L1_heights_of sNil (l.map D.int) [x0, some (.loc S.length), some (.int h), x3] (S ++ [.lst (acc.map D.int)]) = .nx [x0, some (.loc S.length), y2, y3] (S ++ [.lst ((acc ++ hts h l).map D.int)])
  | [], acc, h, x3, _ => ⟨some (.int h), x3, by rw [List.map_nil, forD_nil trivial, hts, List.append_nil]; rfl⟩
  | t :: l, acc, h, x3, hl => by
    have hl' : acc.length + (l.length + 1) ≤ sizeLine := hl
    obtain ⟨y2, y3, e⟩ := heights_loop x0 S l (acc ++ [h + (1 - t)]) (h + (1 - t)) (some (.int t)) (by simp; omega)
    refine ⟨y2, y3, ?_⟩
    rw [List.map_cons, forD_cons (ρ1 := [x0, some (.loc S.length), some (.int h), some (.int t)]) (S1 := S ++ [.lst (acc.map D.int)]) (ρ2 := [x0, some (.loc S.length), some (.int (h + (1 - t))), some (.int t)]) (S2 := S ++ [.lst ((acc ++ [h + (1 - t)]).map D.int)]) trivial rfl ?_]
    · rw [e, hts]; simp
    · have ap := append_end S (acc.map D.int) (.int (h + (1 - t))) (by rw [List.length_map]; omega)
      simp only [eVar, eC, eOp, eT, eAnd, eOr, eNot, eIf, eAndV, eOrV, eNotV, eCall, aNil, aCons, aStar, sOf, eTup, eFl, eLoc, eSl, oNone, oSome, iOf, eNeg, eChain, eMt, bOf, List.lookup, R.bind_ok, R.bind_er, R.bind_stuck, R.toS_ok, R.toS_er, R.toS_stuck, SR.next_nx, SR.next_rt, SR.next_er, SR.next_bk, SR.next_ct, SR.next_stuck, sNil, sSeq, sBrk, sCnt, sExp, sRet, sRetN, sIf, sSet, sAsg, sAug, sPar2, sPar3, tN, DL.tTup, DL.tNil, DL.tCons, DL.tSub, iSeq, srcOf, iRange1, iRange2, sFor, startD, List.map_cons, List.map_nil, List.length_cons, List.length_nil, List.replicate, List.cons_append, List.nil_append, List.getElem?_cons_zero, List.getElem?_cons_succ, List.set_cons_zero, List.set_cons_succ, dSub_int, dFdiv_int, dMod_int, dLt_int, dLe_int, dGt_int, dGe_int, dAddI_int, dSubI_int, dIsN_non, isN, dAdd_int, ll0, ll1, ll2, ll3, ll4, ll5, ll6, ll7, ll8, ll9, ll10, ll11, ll12, ll13, ll14, ll15, ll16, ll17, ll18, ll19, ll20, ll21, ll22, ll23, ll24, ll25, ll26, ll27, ll28, ll29, ll30, ll31, ll32, ll33, ll34, ll35, ll36, ll37, ll38, ll39, ll40, Nat.reduceSub, Nat.reduceAdd, Nat.reduceEqDiff, if_true, if_false, ifp_t, ifp_f, reduceIte, Bool.true_eq_false, Bool.false_eq_true, Option.map_some, Option.map_none, Option.bind_some, Option.bind_none, L1_heights_of, isLst_end, ap]
      simp
theorem heights_ok (l : List Int) (hl : l.length ≤ sizeLine) (S : Sto) : F_heights_of [ti l] S = .ok (ti (hts 0 l)) S := by
  obtain ⟨y2, y3, h⟩ := heights_loop (some (ti l)) S l [] 0 none (by simpa using hl)
  refine fnC_cut (l := [.lst ((hts 0 l).map D.int)]) (S' := S ++ [.lst ((hts 0 l).map D.int)]) rfl ?_ rfl (by simp [ti, low, lowL_ints])
  unfold B_heights_of
  have tp : bTuple [.loc S.length] (S ++ [.lst ((hts 0 l).map D.int)]) = .ok (ti (hts 0 l)) (S ++ [.lst ((hts 0 l).map D.int)]) := bTuple_loc (getQ_end _ _)
  simp only [List.nil_append, List.map_nil] at h
  have e0 : ti l = .tup (l.map D.int) := rfl
  rw [e0] at h ⊢
  simp only [eVar, eC, eOp, eT, eAnd, eOr, eNot, eIf, eAndV, eOrV, eNotV, eCall, aNil, aCons, aStar, sOf, eTup, eFl, eLoc, eSl, oNone, oSome, iOf, eNeg, eChain, eMt, bOf, List.lookup, R.bind_ok, R.bind_er, R.bind_stuck, R.toS_ok, R.toS_er, R.toS_stuck, SR.next_nx, SR.next_rt, SR.next_er, SR.next_bk, SR.next_ct, SR.next_stuck, sNil, sSeq, sBrk, sCnt, sExp, sRet, sRetN, sIf, sSet, sAsg, sAug, sPar2, sPar3, tN, DL.tTup, DL.tNil, DL.tCons, DL.tSub, iSeq, srcOf, iRange1, iRange2, sFor, startD, List.map_cons, List.map_nil, List.length_cons, List.length_nil, List.replicate, List.cons_append, List.nil_append, List.getElem?_cons_zero, List.getElem?_cons_succ, List.set_cons_zero, List.set_cons_succ, dSub_int, dFdiv_int, dMod_int, dLt_int, dLe_int, dGt_int, dGe_int, dAddI_int, dSubI_int, dIsN_non, isN, dAdd_int, ll0, ll1, ll2, ll3, ll4, ll5, ll6, ll7, ll8, ll9, ll10, ll11, ll12, ll13, ll14, ll15, ll16, ll17, ll18, ll19, ll20, ll21, ll22, ll23, ll24, ll25, ll26, ll27, ll28, ll29, ll30, ll31, ll32, ll33, ll34, ll35, ll36, ll37, ll38, ll39, ll40, Nat.reduceSub, Nat.reduceAdd, Nat.reduceEqDiff, if_true, if_false, ifp_t, ifp_f, reduceIte, Bool.true_eq_false, Bool.false_eq_true, Option.map_some, Option.map_none, Option.bind_some, Option.bind_none, mkLoc, h, tp]
theorem ti_len (l : List Int) (S : Sto) : bLen [ti l] S = .ok (.int l.length) S := by
  show R.ok (D.int ((l.map D.int).length : Nat)) S = _
  rw [List.length_map]
theorem need_of_ok (l : List Int) (hl : l.length < 10 ^ 6) (S : Sto) : F_need_of [ti l] S = .ok (.int (ne l)) S := by
  refine fnC_rt rfl ?_ rfl
  unfold B_need_of
  have hb : ∀ S, bList mkFl [ti (hts 0 l)] S = .ok (.fl ((hts 0 l).map D.int)) S := fun S => rfl
  have ha : ∀ S, dAdd (.fl [.int 1]) (.fl ((hts 0 l).map D.int)) S = .ok (.fl (.int 1 :: (hts 0 l).map D.int)) S := fun S => by
    show ifp ([D.int 1].length + ((hts 0 l).map D.int).length ≤ sizeLine) (R.ok (D.fl ([D.int 1] ++ (hts 0 l).map D.int)) S) .stuck = _
    rw [ifp_pos]; rfl
    rw [List.length_map, hts_length]
    exact Nat.le_trans (show 1 + l.length ≤ 10 ^ 6 by omega) (by decide)
  have hm : ∀ S, bMin [.fl (.int 1 :: (hts 0 l).map D.int)] S = .ok (.int (1 - ne l)) S := fun S => by
    rw [← List.map_cons]
    unfold bMin
    simp only [lstOf, Option.bind_some, intsOf_map]
    rw [if_neg (by simp)]
    show R.ok (D.int ((hts 0 l).foldl min 1)) S = _
    have := hts_min l 0 0
    simp only [Int.sub_zero] at this
    rw [this]; rfl
  simp only [eVar, eC, eOp, eT, eAnd, eOr, eNot, eIf, eAndV, eOrV, eNotV, eCall, aNil, aCons, aStar, sOf, eTup, eFl, eLoc, eSl, oNone, oSome, iOf, eNeg, eChain, eMt, bOf, List.lookup, R.bind_ok, R.bind_er, R.bind_stuck, R.toS_ok, R.toS_er, R.toS_stuck, SR.next_nx, SR.next_rt, SR.next_er, SR.next_bk, SR.next_ct, SR.next_stuck, sNil, sSeq, sBrk, sCnt, sExp, sRet, sRetN, sIf, sSet, sAsg, sAug, sPar2, sPar3, tN, DL.tTup, DL.tNil, DL.tCons, DL.tSub, iSeq, srcOf, iRange1, iRange2, sFor, startD, List.map_cons, List.map_nil, List.length_cons, List.length_nil, List.replicate, List.cons_append, List.nil_append, List.getElem?_cons_zero, List.getElem?_cons_succ, List.set_cons_zero, List.set_cons_succ, dSub_int, dFdiv_int, dMod_int, dLt_int, dLe_int, dGt_int, dGe_int, dAddI_int, dSubI_int, dIsN_non, isN, dAdd_int, ll0, ll1, ll2, ll3, ll4, ll5, ll6, ll7, ll8, ll9, ll10, ll11, ll12, ll13, ll14, ll15, ll16, ll17, ll18, ll19, ll20, ll21, ll22, ll23, ll24, ll25, ll26, ll27, ll28, ll29, ll30, ll31, ll32, ll33, ll34, ll35, ll36, ll37, ll38, ll39, ll40, Nat.reduceSub, Nat.reduceAdd, Nat.reduceEqDiff, if_true, if_false, ifp_t, ifp_f, reduceIte, Bool.true_eq_false, Bool.false_eq_true, Option.map_some, Option.map_none, Option.bind_some, Option.bind_none, heights_ok l (Nat.le_trans (Nat.le_of_lt hl) (by decide)), hb, ha, hm]
  have : 1 - (1 - ne l) = ne l := by omega
  rw [this]
theorem cut_from {α : Type} (xs : List α) (p : Nat) : cut xs (some (p : Int)) none = xs.drop p := by
  unfold cut
  rw [HT.sIx_nat, HT.sIx_none]
  by_cases h : p ≤ xs.length
  · rw [Nat.min_eq_left h, List.take_of_length_le (by simp)]
  · rw [Nat.min_eq_right (by omega), List.drop_of_length_le (Nat.le_refl _), List.drop_of_length_le (by omega)]; simp
theorem cut_to {α : Type} (xs : List α) (p : Nat) : cut xs none (some (p : Int)) = xs.take p := by
  unfold cut
  rw [HT.sIx_nat, HT.sIx_none]
  simp only [List.drop_zero, Nat.sub_zero]
  by_cases h : p ≤ xs.length
  · rw [Nat.min_eq_left h]
  · rw [Nat.min_eq_right (by omega), List.take_of_length_le (Nat.le_refl _), List.take_of_length_le (by omega)]
theorem sl_from (l : List Int) (p : Nat) (mk : List D → Sto → R D) (S : Sto) : dSl mk (ti l) (some (p : Int)) none S = .ok (ti (l.drop p)) S := by
  show R.ok (D.tup (cut (l.map D.int) (some (p : Int)) none)) S = _
  rw [cut_from, ← List.map_drop]; rfl
theorem sl_to (l : List Int) (p : Nat) (mk : List D → Sto → R D) (S : Sto) : dSl mk (ti l) none (some (p : Int)) S = .ok (ti (l.take p)) S := by
  show R.ok (D.tup (cut (l.map D.int) none (some (p : Int)))) S = _
  rw [cut_to, ← List.map_take]; rfl
theorem add_ti (l m : List Int) (h : l.length + m.length ≤ sizeLine) (S : Sto) : dAdd (ti l) (ti m) S = .ok (ti (l ++ m)) S := by
  show ifp ((l.map D.int).length + (m.map D.int).length ≤ sizeLine) (R.ok (D.tup (l.map D.int ++ m.map D.int)) S) .stuck = _
  rw [ifp_pos (by rw [List.length_map, List.length_map]; exact h), ← List.map_append]; rfl
theorem from_ok (l : List Int) (p : Nat) (hl : l.length < 10 ^ 6) (hp : p ≤ l.length) (S : Sto) : F__law_from [ti l, .int p] S = .ok (ti (rot l p)) S := by
  refine fnC_rt rfl ?_ rfl
  unfold B__law_from
  have ha := add_ti (l.drop p) (l.take p) (by rw [List.length_drop, List.length_take]; exact Nat.le_trans (show l.length - p + min p l.length ≤ 10 ^ 6 by omega) (by decide))
  simp only [eVar, eC, eOp, eT, eAnd, eOr, eNot, eIf, eAndV, eOrV, eNotV, eCall, aNil, aCons, aStar, sOf, eTup, eFl, eLoc, eSl, oNone, oSome, iOf, eNeg, eChain, eMt, bOf, List.lookup, R.bind_ok, R.bind_er, R.bind_stuck, R.toS_ok, R.toS_er, R.toS_stuck, SR.next_nx, SR.next_rt, SR.next_er, SR.next_bk, SR.next_ct, SR.next_stuck, sNil, sSeq, sBrk, sCnt, sExp, sRet, sRetN, sIf, sSet, sAsg, sAug, sPar2, sPar3, tN, DL.tTup, DL.tNil, DL.tCons, DL.tSub, iSeq, srcOf, iRange1, iRange2, sFor, startD, List.map_cons, List.map_nil, List.length_cons, List.length_nil, List.replicate, List.cons_append, List.nil_append, List.getElem?_cons_zero, List.getElem?_cons_succ, List.set_cons_zero, List.set_cons_succ, dSub_int, dFdiv_int, dMod_int, dLt_int, dLe_int, dGt_int, dGe_int, dAddI_int, dSubI_int, dIsN_non, isN, dAdd_int, ll0, ll1, ll2, ll3, ll4, ll5, ll6, ll7, ll8, ll9, ll10, ll11, ll12, ll13, ll14, ll15, ll16, ll17, ll18, ll19, ll20, ll21, ll22, ll23, ll24, ll25, ll26, ll27, ll28, ll29, ll30, ll31, ll32, ll33, ll34, ll35, ll36, ll37, ll38, ll39, ll40, Nat.reduceSub, Nat.reduceAdd, Nat.reduceEqDiff, if_true, if_false, ifp_t, ifp_f, reduceIte, Bool.true_eq_false, Bool.false_eq_true, Option.map_some, Option.map_none, Option.bind_some, Option.bind_none, sl_from, sl_to, ha]
  rfl
/-- a comprehension over range(n) that keeps the numbers of a kind -/
theorem eLc_keep {src : Ev → Sto → R Src} {T : Tg} {vs : List Nat} {c : Ev → Sto → R Bool} {f : Ev → Sto → R D} {ρ : Ev} {S : Sto} (n : Nat) (ρd : D → Ev) (p : Nat → Bool) (hs : src ρ S = .ok (rangeD 0 n, yes) S)
    (h : ∀ k, k < n → ∀ S', T (.int k) (wipeD ρ vs) S' = some (ρd (.int k), S') ∧ c (ρd (.int k)) S' = .ok (p k) S' ∧ f (ρd (.int k)) S' = .ok (.int k) S') (hn : n < 10 ^ 6) :
    eLc finFl src T vs c f ρ S = .ok (.fl (((List.range n).filter p).map fun k : Nat => D.int k)) S := by
  have e0 : rangeD 0 n = (List.range n).map fun k => D.int (k : Nat) := rangeD_nat n
  have := eLc_pure (src := src) (T := T) (vs := vs) (c := c) (f := f) (ρ := ρ) (S := S) (rangeD 0 n) ρd (fun d => match d with | .int i => p i.toNat | _ => false) (fun d => d) hs (fun d hd S' => ?_) (by simp [rangeD]; exact Nat.le_trans (Nat.le_of_lt hn) (by decide)) (fun d hd _ => ?_)
  · rw [this, e0, List.filter_map]
    simp [Function.comp_def]
  · rw [e0] at hd
    obtain ⟨k, hk, rfl⟩ := List.mem_map.mp hd
    obtain ⟨a, b, c⟩ := h k (List.mem_range.mp hk) S'
    exact ⟨a, by simpa using b, fun _ => c⟩
  · rw [e0] at hd
    obtain ⟨k, hk, rfl⟩ := List.mem_map.mp hd
    rfl
def ni (l : List Nat) : List D := l.map fun k : Nat => D.int (k : Int)
end DL
namespace DL
open PySem PySem.Spec L2
open PyProof.Rows hiding St
section
variable {prog : Program} {w : World} {A : Around} {E : Value → Shared → Prop} {s : Shared}
theorem min_tup {t : Addr} {its : List Value} {ns : List Int} {Q : Value → Shared → Prop} (hh : A.handled = none) (ht : s.heap.IsTuple t its.toArray) (hi : IntsAre its ns) (hne : 0 < ns.length)
    (h : ∀ h' tk M t', (∀ b o, s.heap.get? b = some o → h'.get? b = some o) → M ∈ ns → (∀ a, a ∈ ns → M ≤ a) → Q (.int M t') { s with heap := h', toks := tk }) : wpAny (model prog w) A (call (.builtin "min") [.ref t]) Q E s := by
  obtain ⟨xs, e⟩ := hi.allInts.items
  have hn : numsOf (intItems xs).toList = ns := by rw [← e]; exact hi.numsOf
  rw [nums_intItems] at hn
  subst hn
  rw [e] at ht
  have hsz : 0 < xs.size := by simpa using hne
  obtain ⟨o, ho, hc, n, hd⟩ := id ht
  have hne : t ≠ s.heap.objs.size := Nat.ne_of_lt (Heap.lt_size ho)
  refine call_min_walk (wpAny_pyIter_tuple ht ?_)
  refine ⟨_, _, _, _, _, _, _, rfl, Walks.tuple (A := A.in1) hh _ t hne (intItems xs), ⟨⟨_, Heap.get?_push_size _ rfl, rfl, rfl⟩, ht.at fun o e => Heap.get?_push_of_some _ e⟩, fun b hb => ?_, by simpa [intItems] using hsz, CmpOf.ints_lt (numAt xs) (fun _ _ => intItems_at), fun v h' tk hP hk => ?_⟩
  · rcases List.mem_cons.mp hb with rfl | hb
    · exact Heap.lt_size (Heap.get?_push_size _ rfl)
    · obtain rfl := List.mem_singleton.mp hb
      exact Heap.lt_size (Heap.get?_push_of_some _ ho)
  · have hsz2 : (intItems xs).size = xs.size := by simp [intItems]
    rw [hsz2] at hP
    obtain ⟨t', rfl⟩ := intItems_at hP
    obtain ⟨h1, h2⟩ := argBest_lt (numAt xs) (xs.size - 1)
    refine h h' tk _ t' (fun b o e => hk b o (fun hb => absurd (Heap.lt_size e) ((List.mem_singleton.mp hb) ▸ Nat.lt_irrefl _)) (Heap.get?_push_of_some _ e)) ?_ fun a ha => ?_
    · rw [numAt_eq]; exact PySem.getD_mem (by rw [List.length_map, Array.length_toList]; omega)
    · obtain ⟨j, hj, rfl⟩ := mem_getD ha
      rw [List.length_map, Array.length_toList] at hj
      rw [← numAt_eq]; exact h2 j (by omega)
end
def rMinT (K : PySem.W.Frag) : List V → Hp → VK → Prop := fun vs H Q => ∃ (a : Addr) (ns : List Int), vs = [V.ref a] ∧ SqT K H a (ns.map V.int) ∧ 0 < ns.length ∧ ∀ m, m ∈ ns → (∀ y, y ∈ ns → m ≤ y) → Q (.int m) H
theorem cr_minT {X : Cx} (hc : X.calm = true) : CallR X (.builtin "min") (rMinT X.K) := by
  intro pins s σ H vs us Q I r h
  obtain ⟨a, ns, rfl, hs, hne, q⟩ := h
  obtain ⟨its, rv, hl, _⟩ := I.tuple hs
  rw [Vals.ref1 r]
  exact min_tup (I.ok.hd hc) hl rv.ints hne fun h' tk m t' hk h1 h2 => ⟨.int _, H, I.kept hk, ⟨_, rfl⟩, q m h1 h2⟩
/-- min of two numbers, of a list or of a tuple -/
def bMinT : Fn := fun ds S => match ds with
  | [.tup xs] => (match intsOf xs with
    | some is => if is = [] then .stuck else .ok (.int (minL is)) S
    | none => .stuck)
  | ds => bMin ds S
theorem c_minT {X : Cx} (hc : X.calm = true) : CallR X (.builtin "min") (fun xs H Q => rMinT X.K xs H Q ∨ ((∃ i j, xs = [.int i, .int j] ∧ Q (.int (if j < i then j else i)) H) ∨ rMin X.K xs H Q)) := CallR.or (cr_minT hc) (c_min hc)
theorem k_minT {K : PySem.W.Frag} : CallK K (fun xs H Q => rMinT K xs H Q ∨ ((∃ i j, xs = [.int i, .int j] ∧ Q (.int (if j < i then j else i)) H) ∨ rMin K xs H Q)) bMinT := by
  intro W σ ι H S vs ds Q s rl h
  unfold bMinT at h
  split at h
  · rename_i xs
    obtain ⟨v, rfl, rv⟩ := RepL.one_inv rl
    split at h
    · rename_i is hi
      split at h
      · exact h.elim
      · rename_i hne
        rw [RepV] at rv
        obtain ⟨p, us, rfl, q, ru⟩ := rv
        rw [intsOf_rep _ _ _ ru hi] at q
        obtain ⟨m1, m2⟩ := minL_spec hne
        refine .inl ⟨p, is, rfl, q.sq, List.length_pos_iff.mpr hne, fun m hm hle => ?_⟩
        have : m = minL is := by have := hle _ m1; have := m2 _ hm; omega
        rw [this]
        exact h.here s _ int_rep
    · exact h.elim
  · exact .inr (k_min W σ ι H S vs _ Q s rl h)
end DL
namespace DL
theorem ne_ge (l : List Int) (s : Int × Int) : l ≠ [] → 1 - (l.foldl stp s).1 ≤ (l.foldl stp s).2 := by
  intro hn
  obtain ⟨i, t, rfl⟩ := List.eq_nil_or_concat l |>.resolve_left hn
  simp only [List.concat_eq_append, List.foldl_append, List.foldl_cons, List.foldl_nil, stp]
  omega
end DL
namespace DL
end DL
namespace DL
open PySem PySem.Spec L2
open PyProof.Rows hiding St
theorem PE.or {X : Cx} {e : Expr} {t u : TE} (h : PE X e t) (h' : PE X e u) : PE X e (fun σ H Q => t σ H Q ∨ u σ H Q) := ⟨fun pins s σ H Q I q => by
  rcases q with q | q
  · exact h.run pins s σ H Q I q
  · exact h'.run pins s σ H Q I q⟩
def dRev (mk : List D → Sto → R D) (a : D) (S : Sto) : R D := match a with
  | .tup xs => .ok (.tup xs.reverse) S
  | a => match lstOf S a with
    | some xs => mk xs.reverse S
    | none => .stuck
def eRev (mk : List D → Sto → R D) (f : Ev → Sto → R D) : Ev → Sto → R D := fun ρ S => (f ρ S).bind fun d S1 => dRev mk d S1
theorem RepL.reverse {K : PySem.W.Frag} {ι : List Addr} {H : Hp} : ∀ (ds : List D) (vs : List V), RepL K ι H ds vs → RepL K ι H ds.reverse vs.reverse
  | [], _, h => by rw [RepL] at h; subst h; exact RepL.nil
  | d :: ds, _, h => by
    rw [RepL] at h
    obtain ⟨v, r, rfl, a, b⟩ := h
    rw [List.reverse_cons, List.reverse_cons]
    exact RepL.app _ _ (RepL.reverse ds r b) _ _ (RepL.one a)
def sortI (l : List Int) : List Int := l.mergeSort (fun a b => decide (a ≤ b))
theorem sortI_perm (l : List Int) : (sortI l).Perm l := List.mergeSort_perm _ _
theorem sortI_sorted (l : List Int) : (sortI l).Pairwise (· ≤ ·) := by
  have := List.pairwise_mergeSort (le := fun a b : Int => decide (a ≤ b)) (fun a b c h1 h2 => by simp at *; omega) (fun a b => by simp; omega) l
  exact this.imp fun h => by simpa using h
theorem sorted_unique : ∀ {l m : List Int}, l.Perm m → l.Pairwise (· ≤ ·) → m.Pairwise (· ≤ ·) → l = m
  | [], m, p, _, _ => (List.nil_perm.mp p).symm
  | a :: l, [], p, _, _ => absurd p.symm (by intro q; have := List.nil_perm.mp q; cases this)
  | a :: l, b :: m, p, h1, h2 => by
    have ha : a ∈ b :: m := p.mem_iff.mp List.mem_cons_self
    have hb : b ∈ a :: l := p.mem_iff.mpr List.mem_cons_self
    have h1' := List.pairwise_cons.mp h1
    have h2' := List.pairwise_cons.mp h2
    have e : a = b := by
      rcases List.mem_cons.mp ha with e | ha
      · exact e
      · rcases List.mem_cons.mp hb with e | hb
        · exact e.symm
        · have := h1'.1 b hb; have := h2'.1 a ha; omega
    subst e
    rw [sorted_unique (List.Perm.cons_inv p) h1'.2 h2'.2]
def zipD (xs ys : List D) : List D := (xs.zip ys).map fun q => .tup [q.1, q.2]
def srcZip (a b : D) (S : Sto) : R Src := match a, b with
  | .tup xs, .tup ys => .ok (zipD xs ys, yes) S
  | .fl xs, .fl ys => .ok (zipD xs ys, yes) S
  | _, _ => .stuck
def iZipD (g : Ev → Sto → R (List D)) : Ev → Sto → R Src := fun ρ S => (g ρ S).bind fun ds S1 => match ds with
  | [a, b] => srcZip a b S1
  | _ => .stuck
theorem zipD_get {xs ys : List D} {i : Nat} {d : D} (h : (zipD xs ys)[i]? = some d) : ∃ x y, xs[i]? = some x ∧ ys[i]? = some y ∧ d = .tup [x, y] := by
  unfold zipD at h
  rw [List.getElem?_map] at h
  cases e : (xs.zip ys)[i]? with
  | none => rw [e] at h; cases h
  | some q =>
    rw [e] at h; cases h
    obtain ⟨x, y⟩ := q
    rw [List.getElem?_zip_eq_some] at e
    exact ⟨x, y, e.1, e.2, rfl⟩
theorem zipD_len (xs ys : List D) : (zipD xs ys).length = min xs.length ys.length := by simp [zipD]
theorem di_zip {X : Cx} {W : WX} {e e2 : Expr} {g : Ev → Sto → R (List D)} {p pos tpos : Pos} {elts : List Expr} {kk : Nat} (hg : Gl X "zip") (hm : X.mg "zip" = none) (ha : DA X W [e, e2] g)
    (hs : starEach [e, e2] X.env = (false, eval e X.env) :: starEach [e2] X.env := by rfl) (hpl : (backTo pos (starEach [e2] X.env)).any (·.1) = false := by rfl) :
    DI X W (.Tuple elts kk tpos) (.Call (.Name "zip" p) [e, e2] [] pos) (iZipD g) := by
  refine PI.imp (RZ.pi_zipA hg hm ha hs hpl) fun σ H Rr ⟨ι, ρ, S, hE, hS, q⟩ => ⟨ι, ρ, S, hE, hS, (Post.bind q).mono fun ds S1 ι1 H1 G1 s1 h1 vs rs => ?_⟩
  split at h1
  · obtain ⟨v, u, rfl, rv, ru⟩ := RepL.two_inv rs
    unfold srcZip at h1
    split at h1
    · rename_i xs ys
      rw [RepV] at rv ru
      obtain ⟨a, us, rfl, ta, ra⟩ := rv
      obtain ⟨b, ws, rfl, tb, rb⟩ := ru
      refine ⟨a, b, us, ws, rfl, .inr ⟨ta.sq, tb.sq, ?_⟩⟩
      refine h1 ι1 H1 (Grow.refl _ _) s1 _ fun ι2 H2 S2 G2 s2 _ => ⟨fun i hi => ⟨us, ws, (ta.grow G2).sq, (tb.grow G2).sq, ?_⟩, fun i d hd => ?_⟩
      · rw [zipD_len] at hi
        rw [← RepL.length _ _ ra, ← RepL.length _ _ rb]; omega
      · obtain ⟨x, y, hx, hy, rfl⟩ := zipD_get hd
        obtain ⟨vx, hvx, rx⟩ := RepL.get _ _ (RepL.grow G2 _ _ ra) i x hx
        obtain ⟨vy, hvy, ry⟩ := RepL.get _ _ (RepL.grow G2 _ _ rb) i y hy
        refine ⟨⟨us, ws, vx, vy, (ta.grow G2).sq, (tb.grow G2).sq, hvx, hvy⟩, fun z H3 hz => ?_⟩
        obtain ⟨T, x', y', rfl, hT, rfl, hx', hy'⟩ := hz
        have e1 := hx' us (ta.grow G2).sq
        have e2 := hy' ws (tb.grow G2).sq
        rw [hvx] at e1; rw [hvy] at e2
        cases e1; cases e2
        exact ⟨Grow.upd hT, s2.upd hT, rep_tup s2 hT (RepL.cons rx (RepL.one ry))⟩
    · rename_i xs ys
      rw [RepV] at rv ru
      obtain ⟨a, us, rfl, ta, ra⟩ := rv
      obtain ⟨b, ws, rfl, tb, rb⟩ := ru
      refine ⟨a, b, us, ws, rfl, .inl ⟨ta.sq, tb.sq, ?_⟩⟩
      refine h1 ι1 H1 (Grow.refl _ _) s1 _ fun ι2 H2 S2 G2 s2 _ => ⟨fun i hi => ⟨us, ws, (ta.grow G2).sq, (tb.grow G2).sq, ?_⟩, fun i d hd => ?_⟩
      · rw [zipD_len] at hi
        rw [← RepL.length _ _ ra, ← RepL.length _ _ rb]; omega
      · obtain ⟨x, y, hx, hy, rfl⟩ := zipD_get hd
        obtain ⟨vx, hvx, rx⟩ := RepL.get _ _ (RepL.grow G2 _ _ ra) i x hx
        obtain ⟨vy, hvy, ry⟩ := RepL.get _ _ (RepL.grow G2 _ _ rb) i y hy
        refine ⟨⟨us, ws, vx, vy, (ta.grow G2).sq, (tb.grow G2).sq, hvx, hvy⟩, fun z H3 hz => ?_⟩
        obtain ⟨T, x', y', rfl, hT, rfl, hx', hy'⟩ := hz
        have e1 := hx' us (ta.grow G2).sq
        have e2 := hy' ws (tb.grow G2).sq
        rw [hvx] at e1; rw [hvy] at e2
        cases e1; cases e2
        exact ⟨Grow.upd hT, s2.upd hT, rep_tup s2 hT (RepL.cons rx (RepL.one ry))⟩
    · exact h1.elim
  · exact h1.elim
end DL
namespace DL
open PySem PySem.Spec L2
open PyProof.Rows hiding St
open PySem.AutoSeq1 (wpAny_loadPart')
end DL
namespace DL
open PySem PySem.Spec L2
open PyProof.Rows hiding St
/-- a built-in class that errors of the program are built on -/
structure XBase (newId : String) (bmB : List Value) : Prop where
  fb : ∃ B initId, ExcBaseFacts B newId initId bmB
  pass : ∀ self, PySem.refuseLoop self "__setattr__" bmB = pure ()
  ob : bmB.contains (.type "object") = true
theorem xb_VE : XBase "ValueError.__new__" [.type "ValueError", .type "Exception", .type "BaseException", .type "object"] := ⟨⟨_, _, PySem.F.excBase_ValueError⟩, fun s => PySem.F.store_ValueError.passes s, by decide +kernel⟩
theorem xb_LE : XBase "LookupError.__new__" [.type "LookupError", .type "Exception", .type "BaseException", .type "object"] := ⟨⟨_, _, PySem.F.excBase_LookupError⟩, fun s => PySem.F.store_LookupError.passes s, by decide +kernel⟩
section
open PySem.Builtin PySem.Builtin.ObjectAttr PySem.HandSPX
variable {prog : Program} {w : World} {A : Around} {E : Value → Shared → Prop} {R : Result → Shared → Prop} {hp : Heap} {g : Array GenState} {d : Drawn} {t : Nat} {os : OsState}
theorem osaB {K : PySem.W.Frag} {newId : String} {bmB : List Value} {name : Str} {tk : Tok} {v : Value} {x C : Addr} {fv : Array Value} {cd : ClassData}
    (XB : XBase newId bmB) (X : K.In hp) (hx : hp.get? x = some { cls := .ref C, data := .fields fv }) (hcd : PySem.W.clsIn K C = some cd) (hm : PySem.W.excTail bmB cd.mro = true) (hne : cd.mro.isEmpty = false) (hh : cd.hasDict = true) (ha : PySem.W.findIn K (.ref C) name = some none)
    (hq : ∀ h' tk' dx, (∀ b o, b ≠ x → hp.get? b = some o → h'.get? b = some o) → hp.objs.size ≤ dx → dx ≠ x → h'.get? x = some { cls := .ref C, dict := some dx, data := .fields fv } →
      h'.Ns1 dx (fun y => if y = name then some v else none) → R (.ok (.ret .none)) ⟨h', g, d, tk', os⟩) :
    codeAny (model prog w) A (.call (.builtin "object.__setattr__") ⟨[.ref x, .str name tk, v], []⟩) R ⟨hp, g, d, t, os⟩ := by
  have I : PySem.W.InstAt hp x { cls := .ref C, data := .fields fv } C none := ⟨hx, rfl, rfl, trivial⟩
  have SF := PySem.F.store_object
  have hob : cd.mro.contains (.type "object") = true := (PySem.W.excTail_contains "object" _ hm).trans XB.ob
  have hxs : x ≠ hp.objs.size := Nat.ne_of_lt (Heap.lt_size hx)
  have msub : PySem.W.mroIn K C (.type "object") = some true := by
    unfold PySem.W.mroIn; rw [hcd, Option.bind_some, if_neg (by rw [hne]; decide), hob]
  have isub : PySem.W.Looks (model prog w) hp (isInstance (.ref x) (.type "object")) true := I.type.andThen (PySem.W.looks_mroIn X msub)
  refine codeAny_call_builtin SF.slot.plain SF.entry (@PySem.W.check_slot (model prog w) _ _ ⟨hp, g, d, t, os⟩ "object.__setattr__" "object" "__setattr__" (.ref x) [.str name tk, v] [] _ SF.kind SF.split isub (SF.args (.ref x) (.str name tk) v) ?_)
  have lm : PySem.W.Looks (model prog w) hp (mroOf (.ref C)) cd.mro := (PySem.W.looks_clsIn X hcd).andThen .now
  have lt : PySem.W.Looks (model prog w) hp (storeTaker? none) none := .now
  have lc : PySem.W.Looks (model prog w) hp (classData C) cd := PySem.W.looks_clsIn X hcd
  rw [PySem.W.osa_eq, refuse_eq]
  refine wpAny_bind (wpAny_bind (I.type.at (wpAny_bind (lm.at ?_))))
  rw [PySem.W.excTail_pass _ (XB.pass _) _ hm]
  refine wpAny_pure (wpAny_bind (I.type.at (wpAny_bind ((PySem.W.looks_findIn X ha).at (wpAny_bind (lt.at ?_))))))
  show wpAny _ _ (storeInOwnDict (.ref x) (.ref C) (.str name tk) name v false) _ _ _
  obtain ⟨nm, bs, mro, ns, qn, hd, sn, sb, ab, col, del⟩ := cd
  dsimp only at hh
  subst hh
  unfold storeInOwnDict ownDictForStores
  repeat (first | with_reducible refine store_in_new ?_ ?_ | with_reducible refine wpAny_loadPart_at hx ?_ | with_reducible refine lc.at ?_ | wp_step)
  · exact ⟨_, #[], _, (Heap.get?_update_ne _ _ _ _ hxs.symm).trans (Heap.get?_push_at rfl rfl), rfl, fun e he => absurd he (by simp), fun _ => rfl⟩
  · intro h' tk' hn' hs
    have hx₁ : (hp.push { cls := .type "dict", data := .dict #[] }).get? x = some { cls := .ref C, data := .fields fv } := Heap.get?_push_of_some _ hx
    refine hq h' tk' hp.objs.size (fun b o hb ho => ?_) (Nat.le_refl _) hxs.symm ?_ hn'
    · exact (hs.2 b (Nat.ne_of_lt (Heap.lt_size ho))).trans ((Heap.get?_update_ne _ _ _ _ hb).trans (Heap.get?_push_of_some _ ho))
    · exact (hs.2 x hxs).trans (Heap.get?_update_self _ hx₁ rfl)
end
def iA (f : Str) (p1 p2 : Pos) : Arguments := { posonlyargs := [], args := [{ arg := "self", annotation := none, pos := p1 }, { arg := f, annotation := none, pos := p2 }], vararg := none, kwonlyargs := [], kw_defaults := [], kwarg := none, defaults := [] }
def iB (f : Str) (q1 q2 q3 q4 : Pos) : List Stmt := [.Assign [.Attribute (.Name "self" q1) f q2] (.Name f q3) q4]
def iS (f : Str) : Scope := { kind := .function, names := [(PySem.Str.ofString "self", .local), (f, .local)], isGenerator := false, isCoroutine := false, more := [] }
/-- what the written part says of an own error's class n, at C -/
structure XCls (K : PySem.W.Frag) (n : Str) (C : Addr) : Prop where
  ns : PySem.W.nsIn K mainGlobals n = some (some (.ref C))
  kC : PySem.W.keepIn K (.ref C) = true
  exC : PySem.W.subIn K (.ref C) (.type "BaseException") = some true
  tyC : PySem.W.typeIn K (.ref C) = some (.type "type")
/-- .. with an __init__ of that text, at fI -/
structure XInit (K : PySem.W.Frag) (C fI : Addr) (qual f : Str) : Prop where
  cls : ∃ newId bmB nm q N bs bm sn sub ab col dd k0 k1 k2 k3 k5, XBase newId bmB ∧ K.lookup C = some (excClassObj nm q C N bs bm true sn sub ab col dd k0 k1 k2 k3 k5 newId) ∧ PySem.W.excTail bmB bm = true
  sa : PySem.W.findIn K (.ref C) "__setattr__" = some (some (.builtin "object.__setattr__"))
  noN : PySem.W.findIn K (.ref C) f = some none
  iC : PySem.W.findIn K (.ref C) "__init__" = some (some (.ref fI))
  tC : PySem.W.typeIn K (.ref fI) = some (.type "function")
  fn : ∃ (oc : Value) (od : Option Addr) (doc pm : Value) (an : Option Addr) (cdv ct : Value) (osl : Array (Option Value)) (p1 p2 q1 q2 q3 q4 : Pos),
    K.lookup fI = some ⟨oc, od, .func (PySem.W.fnOf "__init__" qual (iA f p1 p2) (iB f q1 q2 q3 q4) (iS f) .none .none doc pm an cdv ct), osl⟩ ∧ PySem.W.codeIn K cdv qual = true
  bd : ∀ (doc pm : Value) (an : Option Addr) (cdv ct : Value) (p1 p2 q1 q2 q3 q4 : Pos) (x v : Value), bindArgs (PySem.W.fnOf "__init__" qual (iA f p1 p2) (iB f q1 q2 q3 q4) (iS f) .none .none doc pm an cdv ct) ⟨[x, v], []⟩ = pure [(("self" : Str), x), (f, v)]
  fs : f ≠ "self"
  fd : (f == ("__debug__" : Str)) = false
theorem ldCf {M : Model} {s : Shared} {name : Str} {scope : Scope} {L a : Addr} {cd : Value} {m : Str → Option Value} {x : Str} {pos : Pos} {v : Value} {Q : Value → Shared → Prop} {A : Around} {E : Value → Shared → Prop} (hn : s.heap.Ns L m) (hv : m x = some v) (h : Q v s)
    (hk : scope.kind = .function) (hl : (envOfC name scope L a cd).kindOf x = some .local) (hd : (x == ("__debug__" : Str)) = false) :
    wpAny M A (eval (.Name x pos) (envOfC name scope L a cd)) Q E s := wpAny_Name (wpAny_loadName_local hk hl hn hv h) hd
theorem iS_self (f : Str) : (iS f).names.lookup ("self" : Str) = some .local := by
  show List.lookup (PySem.Str.ofString "self") [(PySem.Str.ofString "self", NameKind.local), (f, NameKind.local)] = _
  simp [List.lookup]
theorem iS_f (f : Str) : (iS f).names.lookup f = some .local := by
  show List.lookup f [(PySem.Str.ofString "self", NameKind.local), (f, NameKind.local)] = _
  by_cases h : f = PySem.Str.ofString "self"
  · simp [List.lookup, h]
  · have : (f == PySem.Str.ofString "self") = false := by simpa using h
    simp [List.lookup, this]
structure InitEnd (h h' : Heap) (x C dx t1 : Addr) (f : Str) (v : Value) : Prop where
  keep : ∀ b o, b ≠ x → h.get? b = some o → h'.get? b = some o
  obj : h'.get? x = some { cls := .ref C, dict := some dx, data := .fields #[.ref t1, .none, .none, .none, .bool false, .none] }
  dbig : h.objs.size ≤ dx
  dne : dx ≠ x
  ns : h'.Ns1 dx (fun y => if y = f then some v else none)
structure OwnMade (h h' : Heap) (e C d : Addr) (f : Str) (v : Value) : Prop where
  keep : ∀ b o, h.get? b = some o → h'.get? b = some o
  new : h.objs.size ≤ e
  obj : ∃ oe vs, h'.get? e = some oe ∧ oe.cls = .ref C ∧ oe.dict = some d ∧ oe.data = .fields vs ∧ vs[1]? = some .none ∧ vs[2]? = some .none ∧ 4 < vs.size
  dbig : h.objs.size ≤ d
  dne : d ≠ e
  ns : h'.Ns1 d (fun y => if y = f then some v else none)
section
open PySem.W PySem.Calls PySem.HandSPX
variable {prog : Program} {w : World} {A : Around} {E : Value → Shared → Prop} {R : Result → Shared → Prop} {s : Shared} {K : Frag} {C fI : Addr} {qual f : Str}
theorem x_init (T : XInit K C fI qual f) {x t0 : Addr} {v : Value} (X : K.In s.heap) (hlim : s.heap.NoLimit) (hx : s.heap.get? x = some (excO C t0)) (hroom : A.depth < recursionLimit)
    (hq : ∀ h' tk dx, InitEnd s.heap h' x C dx t0 f v → R (.ok (.ret .none)) { s with heap := h', toks := tk }) :
    codeAny (model prog w) A (.call (.ref fI) ⟨[.ref x, v], []⟩) R s := by
  obtain ⟨oc, od, doc, pm, an, cdv, ct, osl, p1, p2, q1, q2, q3, q4, ho, hcd⟩ := T.fn
  obtain ⟨newId, bmB, nm, q, N, bs, bm, sn, sub, ab, col, dd, k0, k1, k2, k3, k5, XB, hC, hbm⟩ := T.cls
  have hcl : clsIn K C = some { name := nm, bases := bs, mro := .ref C :: bm, ns := N, qualname := q, hasDict := true, slotNames := sn, subclasses := sub, abstract := ab, collection := col, hasDel := false } := by unfold clsIn; rw [hC] <;> rfl
  refine Att.call_fn (binds := [("self", .ref x), (f, v)]) X hlim ho hcd hroom (BindsTo.of_eq (T.bd _ _ _ _ _ _ _ _ _ _ _ _ _)) ?_ (fun s₁ IC => ?_) rfl rfl rfl
  · simp only [List.all_cons, List.all_nil, iS_self, iS_f]; rfl
  obtain ⟨h₁, tk₁, rfl⟩ := IC.toInCall.same
  have k : ∀ b o, s.heap.get? b = some o → h₁.get? b = some o := IC.toInCall.keep
  have hn := IC.toInCall.ns
  have X₁ : K.In h₁ := X.keeps k
  have hx₁ := k _ _ hx
  have kf : (envOfC qual (iS f) s.heap.objs.size fI cdv).kindOf f = some .local := iS_f f
  have ks : (envOfC qual (iS f) s.heap.objs.size fI cdv).kindOf "self" = some .local := iS_self f
  have mf : bindL (envOfC qual (iS f) s.heap.objs.size fI cdv).kindOf [("self", .ref x), (f, v)] (fun _ => none) f = some v := by
    simp only [bindL, kf, ks, if_true]
  have ms : bindL (envOfC qual (iS f) s.heap.objs.size fI cdv).kindOf [("self", .ref x), (f, v)] (fun _ => none) "self" = some (.ref x) := by
    simp only [bindL, kf, ks, if_true]
    rw [if_neg (fun z => T.fs z.symm)]
  show wpAny _ _ (execs (iB f q1 q2 q3 q4) _) _ _ _
  unfold iB
  refine wpAny_execs_cons (plainObj_wpAny_Assign_Attribute ?_)
  refine ldCf (v := v) hn mf (ldCf (v := .ref x) hn ms ?_ rfl ks (by decide)) rfl kf T.fd
  refine set_plain X₁ (ox := excO C t0) (od := none) ⟨hx₁, rfl, rfl, trivial⟩ T.sa ?_
  refine osaB XB X₁ hx₁ hcl (show excTail bmB (.ref C :: bm) = true from hbm) rfl rfl T.noN (fun h₃ tk₃ dx k₃ dn dne hx₃ hn₃ => ?_)
  show wpAny _ _ (execs _ _) _ _ _
  have z : s.heap.objs.size < h₁.objs.size := hn.lt
  exact wpAny_execs_nil (hq h₃ tk₃ dx ⟨fun b o hb e => k₃ b o hb (k b o e), hx₃, Nat.le_of_lt (Nat.lt_of_lt_of_le z dn), dne, hn₃⟩)
theorem x_made (T : XInit K C fI qual f) {v : Value} (X : K.In s.heap) (hlim : s.heap.NoLimit) (hroom : A.depth + 1 < recursionLimit)
    (hq : ∀ h' tk e d, OwnMade s.heap h' e C d f v → R (.ok (.ret (.ref e))) { s with heap := h', toks := tk }) :
    codeAny (model prog w) A (.call (.ref C) ⟨[v], []⟩) R s := by
  obtain ⟨newId, bmB, nm, q, N, bs, bm, sn, sub, ab, col, dd, k0, k1, k2, k3, k5, XB, hC, hbm⟩ := T.cls
  obtain ⟨B, initId, FB⟩ := XB.fb
  obtain ⟨hp, g, dr, tk, os⟩ := s
  have k : ∀ b o, hp.get? b = some o → ((hp.push (kdv_tup [v])).push (excO C hp.objs.size)).get? b = some o := fun b o e => Heap.get?_push_of_some _ (Heap.get?_push_of_some _ e)
  have hget : ((hp.push (kdv_tup [v])).push (excO C hp.objs.size)).get? (hp.objs.size + 1) = some (excO C hp.objs.size) := by heap_get
  refine call_own FB (fun X => excTail_contains X bm hbm) (X _ _ hC) (looks_findIn X T.iC) (fun self => bind_fn X self T.tC) (show [v].length ≤ sizeLine by show 1 ≤ sizeLine; decide) ?_
  refine x_init (s := ⟨(hp.push (kdv_tup [v])).push (excO C hp.objs.size), g, dr, tk, os⟩) T (X.keeps k) (hlim.keeps k) hget hroom fun h' tk' dx ⟨k', hx, dn, dne, hns⟩ => ?_
  have old : ∀ b o, hp.get? b = some o → h'.get? b = some o := fun b o e => k' b o (Nat.ne_of_lt (Nat.lt_succ_of_lt (Heap.lt_size e))) (k b o e)
  have z : hp.objs.size + 1 + 1 ≤ dx := by
    have q := dn
    rw [Heap.size_push, Heap.size_push] at q
    exact q
  exact ⟨rfl, hq h' tk' (hp.objs.size + 1) dx ⟨old, Nat.le_succ _, ⟨_, _, hx, rfl, rfl, rfl, rfl, rfl, (show 4 < 6 by decide)⟩, Nat.le_trans (Nat.le_trans (Nat.le_succ _) (Nat.le_succ _)) z, dne, hns⟩⟩
end
theorem relO_one {v : V} {v' : Value} {g : Str} (r : RelV v v') (f : Str) : RelO (List.lookup f [(g, v)]) (if f = g then some v' else none) := by
  by_cases hw : f = g
  · subst hw
    rw [if_pos rfl]
    have q : List.lookup f [(f, v)] = some v := by simp [List.lookup]
    rw [q]
    exact r
  · rw [if_neg hw]
    have qw : (f == g) = false := by simpa using hw
    have q2 : List.lookup f [(g, v)] = none := by simp [List.lookup, qw]
    rw [q2]
    trivial
section
variable {X : Cx} {C fI : Addr} {n qual f : Str}
def tMkX (C : Addr) (f : Str) (ta : TA) : L2.St → Hp → XK → Prop := fun σ H Q => ta σ H fun vs H1 => ∃ v, vs = [v] ∧ ∀ d, H1 d = none → Q (.ref C) (some d) (upd H1 d (.xd [(f, v)]))
theorem pmk_weak {e : Expr} {t : L2.St → Hp → XK → Prop} (h : L2N.PMk X e t) : L2.PMk X e t := fun pins s σ H Q I q =>
  thn (h pins s σ H Q I q) fun u s' ⟨a, oe, vs, sI, H', cls, d, e1, J, k, hne, ha, hz, r⟩ => ⟨a, oe, vs, sI, H', cls, d, e1, J, k, hne, ha, hz.zc, r⟩
theorem pmk_x5 {a : Expr} {ta : TA} {p pos : Pos} (T0 : XCls X.K n C) (T : XInit X.K C fI qual f) (hdp : X.A.depth + 1 < recursionLimit) (hm : X.mg n = some (.ref C)) (ha : PA X [a] ta) (hg : Gl X n) (hdb : (n == ("__debug__" : Str)) = false)
    (he : starEach (a :: []) X.env = (false, eval a X.env) :: starEach [] X.env := by rfl) (hpl : (backTo pos (starEach [] X.env)).any (·.1) = false := by rfl) :
    L2H.PMk5 X (.Call (.Name n p) [a] [] pos) (tMkX C f ta) := by
  intro pins s σ H Q I h
  refine wpAny_Call_Name_kw (ld_glob I hg hm ?_ hdb)
  refine PySem.W.callWith_K (h₀ := X.base) I.ok.mod.kin T0.kC (thn (ha.run pos pins s σ H _ I h) fun us s1 hh => ?_) he hpl
  obtain ⟨vs, H1, I1, r1, v, ev, q1⟩ := hh
  subst ev
  refine ⟨I1.kIn, ?_⟩
  cases r1 with
  | cons rv rn =>
    rename_i v' us'
    cases rn
    show wpAny _ _ (call (.ref C) [v']) _ _ _
    have hlim := I1.nolimit
    obtain ⟨hp, g, dr, tk, os⟩ := s1
    refine wpAny_call (x_made T I1.kIn hlim hdp fun h' tk' e d M => ?_)
    show L2N.MkP X pins σ Q (.ref e) ⟨h', g, dr, tk', os⟩ ∧ L2H.Six (.ref e) ⟨h', g, dr, tk', os⟩
    obtain ⟨oe, fv, hoe, hc, hd, hdat, h1, h2, h5⟩ := M.obj
    have hns := M.ns
    obtain ⟨G', g1, g2⟩ := restrict h' fun b => decide (b ≠ e)
    have gk : ∀ b, b ≠ e → G'.get? b = h'.get? b := fun b hb => g1 b (decide_eq_true hb)
    have ge : G'.get? e = none := g2 e (by simp)
    have old : ∀ b o, hp.get? b = some o → G'.get? b = some o := fun b o q => (gk b (Nat.ne_of_lt (Nat.lt_of_lt_of_le (Heap.lt_size q) M.new))).trans (M.keep b o q)
    have ob : ObjOk X.prog X.w (upd H1 d (.xd [(f, v)])) G' d (.xd [(f, v)]) :=
      ⟨_, hns.at (fun o q => (gk d M.dne).trans q), fun f => relO_one rv f⟩
    have J : Inv X pins σ (upd H1 d (.xd [(f, v)])) ⟨G', g, dr, tk', os⟩ := I1.laid (t' := tk') old M.dbig ob
    refine ⟨?_, fun a' oe' vs' ea hg hd' => by
      cases ea
      have hg' : h'.get? e = some oe' := hg
      rw [hoe] at hg'
      cases hg'
      rw [hdat] at hd'
      cases hd'
      exact h5⟩
    refine ⟨e, oe, fv, ⟨G', g, dr, tk', os⟩, _, .ref C, some d, rfl, J, fun b o q => ?_, ge, hoe, ⟨hc, hd, fun ws ew => by rw [hdat] at ew; cases ew; exact h2⟩, hdat, h1, ?_, rfl, I1.bare, raises_own T0.exC T0.tyC, q1 d (I1.hok.fresh M.dbig)⟩
    · by_cases hb : b = e
      · have q' : G'.get? b = some o := q
        rw [hb, ge] at q'; cases q'
      · exact (gk b hb).symm.trans q
    · rw [upd_ne (Ne.symm M.dne)]
      exact I1.hok.fresh M.new
theorem pmk_xN {a : Expr} {ta : TA} {p pos : Pos} {k : Nat} (T0 : XCls X.K n C) (T : XInit X.K C fI qual f) (hr : Room k X.A) (hm : X.mg n = some (.ref C)) (ha : PA X [a] ta) (hg : Gl X n) (hdb : (n == ("__debug__" : Str)) = false)
    (he : starEach (a :: []) X.env = (false, eval a X.env) :: starEach [] X.env := by rfl) (hpl : (backTo pos (starEach [] X.env)).any (·.1) = false := by rfl) :
    L2N.PMk X (.Call (.Name n p) [a] [] pos) (tMkX C f ta) := (pmk_x5 T0 T (by have := hr.dp; omega) hm ha hg hdb he hpl).pmk
theorem pmk_x {a : Expr} {ta : TA} {p pos : Pos} {k : Nat} (T0 : XCls X.K n C) (T : XInit X.K C fI qual f) (hr : Room k X.A) (hm : X.mg n = some (.ref C)) (ha : PA X [a] ta) (hg : Gl X n) (hdb : (n == ("__debug__" : Str)) = false)
    (he : starEach (a :: []) X.env = (false, eval a X.env) :: starEach [] X.env := by rfl) (hpl : (backTo pos (starEach [] X.env)).any (·.1) = false := by rfl) :
    L2.PMk X (.Call (.Name n p) [a] [] pos) (tMkX C f ta) := pmk_weak (pmk_xN T0 T hr hm ha hg hdb he hpl)
end
def sRaise1 (n f : Str) (g : Ev → Sto → R (List D)) : Ev → Sto → SR := fun ρ S => (g ρ S).toS ρ fun ds S1 => match ds with
  | [d] => .er ⟨.own n, [(f, d)]⟩ ρ S1
  | _ => .stuck
theorem RepF.one {K : PySem.W.Frag} {ι : List Addr} {H : Hp} {f : Str} {d : D} {v : V} (h : RepV K ι H d v) : RepF K ι H [(f, d)] [(f, v)] := by
  rw [RepF]; exact ⟨v, [], rfl, h, by rw [RepF]⟩
theorem ds_raise1 {X : Cx} {W : WX} {C fI : Addr} {n qual f : Str} {a : Expr} {g : Ev → Sto → R (List D)} {p pos pos2 : Pos} {k : Nat} (hc : X.calm = true) (tk : L2.Takes X W) (T0 : XCls X.K n C) (T : XInit X.K C fI qual f) (hr : Room k X.A) (hm : X.mg n = some (.ref C)) (ha : DA X W [a] g) (hg : Gl X n := by rfl) (hdb : (n == ("__debug__" : Str)) = false := by decide)
    (he : starEach (a :: []) X.env = (false, eval a X.env) :: starEach [] X.env := by rfl) (hpl : (backTo pos (starEach [] X.env)).any (·.1) = false := by rfl) :
    DS X W (.Raise (some (.Call (.Name n p) [a] [] pos)) none pos2) (sRaise1 n f g) := by
  refine PS.imp (L2.ps_raise hc tk (pmk_x T0 T hr hm ha hg hdb he hpl)) fun E σ H ⟨ι, ρ, S, hE, hS, h⟩ => ⟨ι, ρ, S, hE, hS, (PostS.bind h hE).mono fun ds S1 ι1 H1 G1 s1 h1 vs rs => ?_⟩
  split at h1
  · rename_i d
    obtain ⟨v, rfl, rv⟩ := RepL.one_inv rs
    refine ⟨v, rfl, fun dd hd => ?_⟩
    have G2 : Grow ι1 H1 ι1 (upd H1 dd (.xd [(f, v)])) := Grow.upd hd
    exact h1 ι1 _ σ (.ref C) (some dd) G2 (s1.upd hd) ((hE.grow G1).grow G2) ⟨⟨C, rfl, T0.ns⟩, .inr ⟨dd, [(f, v)], rfl, s1.free hd, upd_same, RepF.one (RepV.grow G2 _ _ rv)⟩⟩
  · exact h1.elim
def sRaise0 (n : Str) : Ev → Sto → SR := fun ρ S => .er ⟨.own n, []⟩ ρ S
end DL
namespace DL
open PySem PySem.Spec L2
open PyProof.Rows hiding St
end DL
namespace DL
open PySem PySem.Spec L2
open PyProof.Rows hiding St
end DL
namespace DL
open PySem PySem.Spec L2
open PyProof.Rows hiding St
end DL
namespace DL
open PySem PySem.Spec L2
open PyProof.Rows hiding St
section
variable {X : Cx} {W : WX} {gd : Bool} {k : Nat} {f : Addr} {F : Fn} {x : Str} {p pos : Pos} {e : Expr} {es : List Expr} {g : Ev → Sto → R (List D)}
def eCallV (tbl : List (Str × Fn)) (f : Ev → Sto → R D) (g : Ev → Sto → R (List D)) : Ev → Sto → R D := fun ρ S => (f ρ S).bind fun d S1 => match d with
  | .fn n => (match tbl.lookup n with
    | some F => (g ρ S1).bind fun ds S2 => F ds S2
    | none => .stuck)
  | _ => .stuck
end
end DL
namespace DL
open PySem PySem.Spec L2
open PyProof.Rows hiding St
def eDict0 : Ev → Sto → R D := fun _ S => .ok (.fd []) S
theorem RepK.keys {K : PySem.W.Frag} {ι : List Addr} {H : Hp} : ∀ {kvs : List (Key × D)} {vs : List (Key × V)}, RepK K ι H kvs vs → vs.map (·.1) = kvs.map (·.1)
  | [], _, h => by rw [RepK] at h; subst h; rfl
  | (k, d) :: kvs, _, h => by
    rw [RepK] at h
    obtain ⟨v, r, rfl, a, b⟩ := h
    rw [List.map_cons, List.map_cons, RepK.keys b]
noncomputable def eListRg (mk : List D → Sto → R D) (f : Ev → Sto → R D) : Ev → Sto → R D := fun ρ S => (f ρ S).bind fun d S1 => (iOf d S1).bind fun n S2 => ifp (RgOk 0 n) (mk (rangeD 0 n.toNat) S2) .stuck
end DL
theorem L2H.RoomH.units {k : Nat} {A : PySem.Around} (r : L2H.RoomH k A) : A.units + 64 < PySem.cLine := by have := r.un; omega
namespace DL
open PySem PySem.Spec L2
open PyProof.Rows hiding St
end DL
namespace DL
open PySem PySem.Spec L2
open PyProof.Rows hiding St
end DL
namespace DL
open PySem PySem.Spec L2
open PyProof.Rows hiding St
open Builtin in
set_option maxHeartbeats 1000000 in
theorem meets_enumerate_new1 {v : Value} {o : Obj} {H : Heap → Prop} (B : Begins v o H) :
    Meets (Builtin.«enumerate.__new__» ⟨[.type "enumerate", v], []⟩) (fun _ R s => H s.heap ∧
      R (.ok (.ret (.ref (s.heap.push o).objs.size))) { s with heap := (s.heap.push o).push { cls := .type "enumerate", data := .fields #[.none, .bool false, .ref s.heap.objs.size, rawInt 0, .none, .none] } }) :=
  .of_wp fun prog w A R s h => by
    obtain ⟨hp, g, d, tk, os⟩ := s; obtain ⟨h1, h⟩ := h
    have hsub := sub_enumerate
    have q1 : ∀ {A' : Around} {E : Value → Shared → Prop} {Q : Value → Shared → Prop}, Q (.ref hp.objs.size) ⟨hp.push o, g, d, tk, os⟩ → wpAny (model prog w) A' (pyIter v) Q E ⟨hp, g, d, tk, os⟩ :=
      fun q => B.iter prog w _ _ ⟨hp, g, d, tk, os⟩ _ h1 q
    wp_walk using q1
    refine wpAny_stack_any fun st => wpAny_pure ?_
    split
    · rename_i c _ _ _ _ _
      cases (c == Value.type "enumerate")
      · wp_walk using q1
        exact ⟨_, rfl, h⟩
      · wp_walk using q1
        exact ⟨_, rfl, h⟩
    · wp_walk using q1
      exact ⟨_, rfl, h⟩
section
variable {prog : Program} {w : World} {A : Around} {E : Value → Shared → Prop} {s : Shared}
theorem enum_begins1 {v : Value} {o : Obj} {H : Heap → Prop} {Q : Value → Shared → Prop} (B : Begins v o H) (h1 : H s.heap)
    (h : ∀ h', IsEnum h' (s.heap.objs.size + 1) s.heap.objs.size 0 .none → h'.get? s.heap.objs.size = some o → h'.objs.size = s.heap.objs.size + 2 →
      (∀ b o, s.heap.get? b = some o → h'.get? b = some o) → Q (.ref (s.heap.objs.size + 1)) { s with heap := h' }) :
    wpAny (model prog w) A (call (.type "enumerate") [v]) Q E s := by
  refine callType_new F.called_enumerate (by decide) (F.typeCall_enumerate_1 _) (F.newCall_enumerate_1 _) (fun obj => F.args_object_init_2 obj _) F.entry_enumerate_new
    (meets_enumerate_new1 B) ⟨h1, ?_⟩
  have hz : (s.heap.push o).objs.size = s.heap.objs.size + 1 := Heap.size_push ..
  show _ ∧ _
  rw [hz]
  have he : IsEnum ((s.heap.push o).push { cls := .type "enumerate", data := .fields #[.none, .bool false, .ref s.heap.objs.size, rawInt 0, .none, .none] }) (s.heap.objs.size + 1) s.heap.objs.size 0 .none := by
    have := Heap.get?_push_size (s.heap.push o) (o := { cls := .type "enumerate", data := .fields #[.none, .bool false, .ref s.heap.objs.size, rawInt 0, .none, .none] }) rfl
    rw [hz] at this; exact this
  refine ⟨⟨_, he, rfl⟩, h _ he (Heap.get?_push_of_some _ (Heap.get?_push_size _ B.free)) (by rw [Heap.size_push, hz]) fun b o x => Heap.get?_push_of_some _ (Heap.get?_push_of_some _ x)⟩
theorem wpAny_pyNext_enum_endT {e it t : Addr} {i : Nat} {items : Array Value} {old : Value} {Q : Option Value → Shared → Prop} (hh : A.handled = none)
    (he : IsEnum s.heap e it i old) (hit : s.heap.IsTupleIter it t i) (hl : s.heap.IsTuple t items) (hx : items[i]? = none)
    (hQ : ∀ h', Heap.ExtBut it s.heap h' → Q none { s with heap := h' }) : wpAny (model prog w) A (pyNext (.ref e)) Q E s := by
  have hT : s.TypeIs (.ref e) "enumerate" := ⟨_, he, rfl⟩
  unfold pyNext
  refine wpAny_bind (wpAny_attempt (wpAny_callSpecial?_slot (name := Str.ofString "__next__") hT F.slot_enumerate_next
    (wpAny_call_entry F.slot_enumerate_next hT F.entry_enumerate_next ?_ (F.args_enumerate_next_1 _))))
  show wpAny _ _ (field (.ref e) 2 >>= _) _ _ _
  refine wpAny_bind (wpAny_field he rfl (x := .ref it) rfl ?_)
  refine wpAny_bind (wpAny_nextOf_tuple_end hh hit hl hx fun h' x he' hx' => ?_)
  obtain ⟨o, ho, hc⟩ := hx'
  refine wpAny_bind (wpAny_isInstance (T := "StopIteration") (b := true) ⟨o, ho, hc⟩ isSubtype_stop ?_)
  exact wpAny_pure (hQ _ he')
end
/-- the tuple at a, each item in a new pair -/
def IteT (K : PySem.W.Frag) (a : Addr) : It :=
  ⟨fun i H => ∃ (xs : List V) (x : V), SqT K H a xs ∧ xs[i]? = some x, fun i H v H' => ∃ T x, v = .ref T ∧ H T = none ∧ H' = upd H T (.tup [.int (i : Nat), x]) ∧ ∀ xs, SqT K H a xs → xs[i]? = some x, fun i H => ∃ xs : List V, SqT K H a xs ∧ xs.length ≤ i⟩
theorem turn_enumT {P : Program} {w : World} {K : PySem.W.Frag} {elts : List Expr} {kk : Nat} {tpos : Pos} (a e it : Addr) :
    Turn P w K (.Tuple elts kk tpos) (IteT K a) [e, it] e (fun i h => (∃ old, IsEnum h e it ((i : Nat) : Int) old) ∧ h.IsTupleIter it a i ∧ e ≠ it) where
  mem := by simp
  obj := fun i h st b hb => by
    obtain ⟨⟨old, he⟩, ⟨o, ho, hc, hd⟩, _⟩ := st
    have e' : b = e ∨ b = it := by simpa using hb
    rcases e' with z | z
    · rw [z]; exact ⟨_, he, fun v q => nomatch q⟩
    · rw [z]; exact ⟨o, ho, fun v q => by rw [hd] at q; cases q⟩
  keep := fun i h h' st k => let ⟨⟨old, he⟩, hi, hne⟩ := st; ⟨⟨old, k e (by simp) _ he⟩, hi.at fun o q => k it (by simp) o q, hne⟩
  item := by
    intro X hP hw hK hc i pins s σ H E I hf st hg
    subst hP hw hK
    obtain ⟨⟨old, he⟩, hit, hne⟩ := st
    obtain ⟨xs, x, hq, hx⟩ := hg
    obtain ⟨its, rv, p, hz⟩ := I.tuple hq
    obtain ⟨u, hu, ru⟩ := rv.get hx
    have hel : e < s.heap.objs.size := Heap.lt_size he
    have hil : it < s.heap.objs.size := by obtain ⟨_, q, _⟩ := hit; exact Heap.lt_size q
    have hta : a ≠ it := by
      intro hh
      obtain ⟨o, ho, hc1, _⟩ := hit
      obtain ⟨o', ho', hc2, _⟩ := p
      rw [hh, ho] at ho'
      cases ho'
      rw [hc1] at hc2
      exact absurd (congrArg (fun v => match v with | Value.type n => n | _ => "") hc2) (by decide)
    have hte : e ≠ a := by
      intro hh
      obtain ⟨o', ho', hc2, _⟩ := p
      rw [← hh] at ho'
      have he2 : s.heap.get? e = _ := he
      rw [he2] at ho'
      cases ho'
      have hc3 : Value.type "enumerate" = Value.type "tuple" := hc2
      exact absurd (congrArg (fun v => match v with | Value.type n => n | _ => "") hc3) (by decide)
    have D := Draws.tuple (prog := X.prog) (w := X.w) (A := X.A.in1) (I.ok.hd hc) it a hta its.toArray
    have hi : its.toArray[i]? = some u := by simpa using hu
    have hlt : i < its.toArray.size := by
      rcases Nat.lt_or_ge i its.toArray.size with h | h
      · exact h
      · rw [Array.getElem?_eq_none h] at hi; cases hi
    refine wpAny_pyNext_enum_itemD D he ⟨hit, p⟩ hlt hne (by simp [hne, hte]) fun y h' tk hP ho hit' hT hsz hk => ?_
    have hy : y = u := by
      have : its.toArray[i]? = some y := hP
      rw [hi] at this; cases this; rfl
    subst hy
    refine ⟨_, rfl, wpAny_letOwnedTupleGo_enum (s := { s with heap := h', toks := tk + 1 }) ho fun h'' he' sb => ?_⟩
    have hT2 : h''.get? s.heap.objs.size = some { cls := .type "tuple", data := .seq #[.int i tk, y] } := (sb.2 _ (Nat.ne_of_gt hel)).trans hT
    have new : ObjOk X.prog X.w (upd H s.heap.objs.size (.tup [.int (i : Nat), x])) h'' s.heap.objs.size (.tup [.int (i : Nat), x]) :=
      ⟨by show 2 ≤ sizeLine; decide, [.int i tk, y], .cons ⟨_, rfl⟩ (.cons ru .nil), ⟨_, hT2, rfl, _, rfl⟩⟩
    have I1 : Inv X pins σ (upd H s.heap.objs.size (.tup [.int (i : Nat), x])) { s with heap := h'', toks := tk + 1 } :=
      I.turnedNew (ch := [e, it]) (fun b ob hb q => (sb.2 b (fun z => hb (by simp [z]))).trans (hk b ob (fun z => hb (by simp [z])) (fun z => hb (by simp [z])) q)) hf (Nat.le_refl _) new
    refine ⟨.ref s.heap.objs.size, _, I1, rfl, ⟨_, x, rfl, I.hok.fresh (Nat.le_refl _), rfl, fun ys hy => by rw [I.tuple_inj hy hq]; exact hx⟩, ⟨⟨y, ?_⟩, hit'.1.at fun o q => (sb.2 it (Ne.symm hne)).trans q, hne⟩, fun b hb => ?_⟩
    · have e1 : ((i + 1 : Nat) : Int) = (i : Int) + 1 := by omega
      rw [e1]; exact he'
    · have hb' : b < s.heap.objs.size := by
        have e' : b = e ∨ b = it := by simpa using hb
        rcases e' with z | z
        · rw [z]; exact hel
        · rw [z]; exact hil
      rw [upd_ne (Nat.ne_of_lt hb')]
      exact (hf b hb).1
  done := by
    intro X hP hw hK hc i pins s σ H E I hf st hg
    subst hP hw hK
    obtain ⟨⟨old, he⟩, hit, hne⟩ := st
    obtain ⟨xs, hq, hx⟩ := hg
    obtain ⟨its, rv, p, hz⟩ := I.tuple hq
    obtain ⟨f0, f1, f2, f3, f4, f5⟩ := hf it (by simp)
    have hl := rv.length
    exact wpAny_pyNext_enum_endT (I.ok.hd hc) he hit p (by simp; omega) fun h' eb => ⟨rfl, I.turned (t' := s.toks) (fun b o hb q => eb b o hb q) f0 f1 f3 f4 f5⟩
  self := fun A i s Q E st h => let ⟨⟨_, he⟩, _⟩ := st; wpAny_pyIter_enum he h
def iEnumA (K : PySem.W.Frag) (ta : TA) : TI := fun σ H R => ta σ H fun vs H1 => ∃ a xs, vs = [.ref a] ∧ ((SqT K H1 a xs ∧ R (IteT K a) H1) ∨ (SqL K H1 a xs ∧ R (Ite K a) H1))
theorem pi_enumA {X : Cx} {e : Expr} {ta : TA} {p pos tpos : Pos} {elts : List Expr} {kk : Nat} (hg : Gl X "enumerate") (hm : X.mg "enumerate" = none) (ha : PA X [e] ta) (hs : starEach [e] X.env = [(false, eval e X.env)] := by rfl) :
    PI X (.Tuple elts kk tpos) (.Call (.Name "enumerate" p) [e] [] pos) (iEnumA X.K ta) := by
  refine ⟨fun pins s σ H R I h => ?_⟩
  refine Call_ (ld_blt I hg hm boot_enumerate (PyProof.Rows.callWith_type1 (thn (ha.run pos pins s σ H _ I h) fun us s1 ⟨vs, H1, I1, r1, q1⟩ => ?_) hs rfl))
  obtain ⟨a, xs, ex, q⟩ := q1
  subst ex
  cases r1 with
  | cons r rr =>
    cases rr
    cases r
    rcases q with ⟨hq, q⟩ | ⟨hq, q⟩
    · obtain ⟨its, rv, p', hz⟩ := I1.tuple hq
      refine enum_begins1 (begins_tuple a its.toArray) p' fun h' he hit hsz hk => wpAny_pyIter_enum he ?_
      have I2 : Inv X pins σ H1 { s1 with heap := h' } := I1.kept (t' := s1.toks) hk
      refine ⟨s1.heap.objs.size + 1, [s1.heap.objs.size + 1, s1.heap.objs.size], _, _, H1, rfl, I2, turn_enumT a (s1.heap.objs.size + 1) s1.heap.objs.size, ⟨⟨.none, he⟩, ⟨_, hit, rfl, rfl⟩, Nat.succ_ne_self _⟩, fun b hb => ?_, q⟩
      have e' : b = s1.heap.objs.size + 1 ∨ b = s1.heap.objs.size := by simpa using hb
      have hle : s1.heap.objs.size ≤ b := by
        rcases e' with z | z
        · rw [z]; exact Nat.le_add_right _ _
        · rw [z]; exact Nat.le_refl _
      exact I1.fpOk hle (I1.hok.fresh hle)
    · obtain ⟨its, rv, p', hz⟩ := I1.list hq
      refine call_enumerate_list p'.isList fun h' he hit hsz hk => wpAny_pyIter_enum he ?_
      have I2 : Inv X pins σ H1 { s1 with heap := h' } := I1.kept (t' := s1.toks) hk
      refine ⟨s1.heap.objs.size + 1, [s1.heap.objs.size + 1, s1.heap.objs.size], _, _, H1, rfl, I2, turn_enum a (s1.heap.objs.size + 1) s1.heap.objs.size, ⟨⟨.none, he⟩, hit, Nat.succ_ne_self _⟩, fun b hb => ?_, q⟩
      have e' : b = s1.heap.objs.size + 1 ∨ b = s1.heap.objs.size := by simpa using hb
      have hle : s1.heap.objs.size ≤ b := by
        rcases e' with z | z
        · rw [z]; exact Nat.le_add_right _ _
        · rw [z]; exact Nat.le_refl _
      exact I1.fpOk hle (I1.hok.fresh hle)
def enumD (k : Nat) : List D → List D
  | [] => []
  | d :: ds => .tup [.int k, d] :: enumD (k + 1) ds
theorem enumD_len : ∀ (k : Nat) (ds : List D), (enumD k ds).length = ds.length
  | _, [] => rfl
  | k, d :: ds => by rw [enumD, List.length_cons, enumD_len, List.length_cons]
theorem enumD_get : ∀ {k i : Nat} {ds : List D} {d : D}, (enumD k ds)[i]? = some d → ∃ x, ds[i]? = some x ∧ d = .tup [.int ((k + i : Nat) : Int), x]
  | k, i, [], d, h => by simp [enumD] at h
  | k, 0, x :: ds, d, h => by
    simp only [enumD, List.getElem?_cons_zero, Option.some.injEq] at h
    exact ⟨x, rfl, h.symm⟩
  | k, i + 1, x :: ds, d, h => by
    simp only [enumD, List.getElem?_cons_succ] at h
    obtain ⟨y, hy, e⟩ := enumD_get h
    refine ⟨y, by simpa using hy, ?_⟩
    rw [e]
    have : k + 1 + i = k + (i + 1) := by omega
    rw [this]
def iEnumD (g : Ev → Sto → R (List D)) : Ev → Sto → R Src := fun ρ S => (g ρ S).bind fun ds S1 => match ds with
  | [d] => (srcOf d S1).bind fun q S2 => .ok (enumD 0 q.1, q.2) S2
  | _ => .stuck
theorem di_enum {X : Cx} {W : WX} {e : Expr} {g : Ev → Sto → R (List D)} {p pos tpos : Pos} {elts : List Expr} {kk : Nat} (hg : Gl X "enumerate") (hm : X.mg "enumerate" = none) (ha : DA X W [e] g) (hs : starEach [e] X.env = [(false, eval e X.env)] := by rfl) :
    DI X W (.Tuple elts kk tpos) (.Call (.Name "enumerate" p) [e] [] pos) (iEnumD g) := by
  refine PI.imp (pi_enumA hg hm ha hs) fun σ H Rr ⟨ι, ρ, S, hE, hS, q⟩ => ⟨ι, ρ, S, hE, hS, (Post.bind q).mono fun ds S1 ι1 H1 G1 s1 h1 vs rs => ?_⟩
  split at h1
  · rename_i d
    obtain ⟨v, rfl, rv⟩ := RepL.one_inv rs
    cases e : srcOf d S1 with
    | ok q S2 =>
      rw [e] at h1
      obtain ⟨rfl, a, rfl, st, hq⟩ := src_stands e s1 rv
      have h2 := h1.here s1
      rcases st with st | st
      · obtain ⟨us, q1, r1⟩ := st ι1 H1 _ (Grow.refl _ _) s1 hq
        refine ⟨a, us, rfl, .inl ⟨q1, h2 _ fun ι2 H2 S3 G2 s2 g2 => ?_⟩⟩
        obtain ⟨ws, q3, r3⟩ := st ι2 H2 S3 G2 s2 g2
        refine ⟨fun i hi => ⟨ws, q3, by rw [← RepL.length _ _ r3]; rw [enumD_len] at hi; exact hi⟩, fun i d hd => ?_⟩
        obtain ⟨x, hx, rfl⟩ := enumD_get hd
        obtain ⟨vx, hvx, rx⟩ := RepL.get _ _ r3 i x hx
        refine ⟨⟨ws, vx, q3, hvx⟩, fun z H3 hz => ?_⟩
        obtain ⟨T, x', rfl, hT, rfl, hx'⟩ := hz
        have e1 := hx' ws q3
        rw [hvx] at e1
        cases e1
        rw [Nat.zero_add]
        exact ⟨Grow.upd hT, s2.upd hT, rep_tup s2 hT (RepL.cons int_rep (RepL.one rx))⟩
      · obtain ⟨us, q1, r1⟩ := st ι1 H1 _ (Grow.refl _ _) s1 hq
        refine ⟨a, us, rfl, .inr ⟨q1, h2 _ fun ι2 H2 S3 G2 s2 g2 => ?_⟩⟩
        obtain ⟨ws, q3, r3⟩ := st ι2 H2 S3 G2 s2 g2
        refine ⟨fun i hi => ⟨ws, q3, by rw [← RepL.length _ _ r3]; rw [enumD_len] at hi; exact hi⟩, fun i d hd => ?_⟩
        obtain ⟨x, hx, rfl⟩ := enumD_get hd
        obtain ⟨vx, hvx, rx⟩ := RepL.get _ _ r3 i x hx
        refine ⟨⟨ws, vx, q3, hvx⟩, fun z H3 hz => ?_⟩
        obtain ⟨T, x', rfl, hT, rfl, hx'⟩ := hz
        have e1 := hx' ws q3
        rw [hvx] at e1
        cases e1
        rw [Nat.zero_add]
        exact ⟨Grow.upd hT, s2.upd hT, rep_tup s2 hT (RepL.cons int_rep (RepL.one rx))⟩
    | er x S2 => rw [e] at h1; exact absurd e (by unfold srcOf; split <;> first | (intro z; cases z) | (split <;> (intro z; cases z)))
    | stuck => rw [e] at h1; exact h1.elim
  · exact h1.elim
end DL
namespace DL
open PySem PySem.Spec L2
open PyProof.Rows hiding St
theorem empty_rep {K : PySem.W.Frag} {ι : List Addr} {H : Hp} {ds : List D} {vs : List V} (r : RepL K ι H ds vs) : vs.isEmpty = ds.isEmpty := by
  have := RepL.length _ _ r
  cases ds <;> cases vs <;> simp_all
end DL
namespace DL
open PySem PySem.Spec L2
open PyProof.Rows hiding St
end DL
namespace DL
open PySem PySem.Spec L2
open PyProof.Rows hiding St
end DL
namespace DL
open PySem PySem.Spec L2
open PyProof.Rows hiding St
end DL
namespace DL
open PySem PySem.Spec L2
open PyProof.Rows hiding St
end DL
namespace DL
open PySem PySem.Spec L2
open PyProof.Rows hiding St
section
variable {X : Cx} {W : WX} {pos : Pos} {e : Expr}
theorem PG.or {tg : Expr} {t u : TG} (h : PG X tg t) (h' : PG X tg u) : PG X tg (fun v σ H Q => t v σ H Q ∨ u v σ H Q) := ⟨fun pins s σ H v w Q I r q => by
  rcases q with q | q
  · exact h.run pins s σ H v w Q I r q
  · exact h'.run pins s σ H v w Q I r q⟩
theorem seqOf_fl (ds : List D) (S : Sto) : seqOf S (.fl ds) = some ds := rfl
theorem seqOf_tup (ds : List D) (S : Sto) : seqOf S (.tup ds) = some ds := rfl
theorem seqOf_ti (l : List Int) (S : Sto) : seqOf S (ti l) = some (l.map D.int) := rfl
def tSq (n : Nat) (U : Tgs) : Tg := fun d ρ S => match seqOf S d with
  | some ds => if ds.length = n then U ds ρ S else none
  | _ => none
/-- two names -/
def sSet2 (i j : Nat) (f : Ev → Sto → R D) : Ev → Sto → SR := fun ρ S => (f ρ S).toS ρ fun d S1 => .nx ((ρ.set i (some d)).set j (some d)) S1
end
end DL
namespace DL
open PySem PySem.Spec L2
open PyProof.Rows hiding St
mutual
def frzW (look : Nat → Option D) (k : Nat) : D → Option D
  | .loc n => if n < k then some (.loc n) else look n
  | .tup ds => (frzWL look k ds).map .tup
  | .fl ds => (frzWL look k ds).map .fl
  | .kl ds => if lowL k ds = true then some (.kl ds) else none
  | .ktp ds => if lowL k ds = true then some (.ktp ds) else none
  | .ztp ds => if lowL k ds = true then some (.ztp ds) else none
  | .fd kvs => if lowK k kvs = true then some (.fd kvs) else none
  | .exc c fs => if lowF k fs = true then some (.exc c fs) else none
  | .non => some .non
  | .bl b => some (.bl b)
  | .int i => some (.int i)
  | .str x => some (.str x)
  | .ty n => some (.ty n)
  | .fn n => some (.fn n)
def frzWL (look : Nat → Option D) (k : Nat) : List D → Option (List D)
  | [] => some []
  | d :: ds => (frzW look k d).bind fun e => (frzWL look k ds).map fun es => e :: es
end
def frzK (S : Sto) (k : Nat) : Nat → Nat → Option D
  | 0 => fun _ => none
  | f + 1 => fun n => match S[n]? with
    | some (.lst ds) => (frzWL (frzK S k f) k ds).map .fl
    | _ => none
def frz (S : Sto) (k f : Nat) (d : D) : Option D := frzW (frzK S k f) k d
theorem fnD_stuck {gd : Bool} {P : Program} {w : World} {K : PySem.W.Frag} {mg : Str → Option Value} {base : Heap} {k : Nat} {f : Addr} : FnD gd P w K mg base k f (fun _ _ => .stuck) := fun _ _ _ _ _ _ _ _ _ _ _ _ h => by
  obtain ⟨_, _, _, _, _, h⟩ := h
  exact h.elim
end DL
namespace DL
open PySem PySem.Spec L2
open PyProof.Rows hiding St
def rEqY (K : PySem.W.Frag) (neg : Bool) : R2 := fun x y H Q => ∃ a b xs, x = V.ref a ∧ y = V.ref b ∧ SqL K H a xs ∧ SqL K H b [] ∧ Q (.bl (if neg then !xs.isEmpty else xs.isEmpty)) H
theorem op_neY {X : Cx} (hu : X.A.units + 64 < cLine) : OpR X (compareOp .NotEq) (rEqY X.K true) := by
  intro pins s σ H x y v u Q I rx ry h
  obtain ⟨a, b, xs, rfl, rfl, ha, hb, q⟩ := h
  cases (show v = Value.ref a from rx)
  cases (show u = Value.ref b from ry)
  obtain ⟨us, r1, p1, _⟩ := I.list ha
  obtain ⟨ws, r2, p2, _⟩ := I.list hb
  cases r2
  have hl := r1.length
  cases xs with
  | nil =>
    cases us with
    | nil => exact SeqAt.RcNeAt.lists (e := fun _ => true) p1.isList p2.isList rfl (by omega) (fun j h1 h2 => absurd h2 (by simp)) X.prog X.w _ _ ⟨.bl false, H, I, rfl, q⟩
    | cons u us => simp at hl
  | cons x xs =>
    cases us with
    | nil => simp at hl
    | cons u us => exact SeqAt.RcNeAt.lists_lengths p1.isList p2.isList (by simp) (by omega) X.prog X.w _ _ ⟨.bl true, H, I, rfl, q⟩
/-- a list against [] -/
def dEqY (neg : Bool) (a b : D) (S : Sto) : R D := match b with
  | .fl [] => (match a with
    | .fl xs => .ok (.bl (if neg then !xs.isEmpty else xs.isEmpty)) S
    | .loc n => (match getQ S n with
      | some xs => .ok (.bl (if neg then !xs.isEmpty else xs.isEmpty)) S
      | none => .stuck)
    | a => dEq neg a (.fl []) S)
  | b => dEq neg a b S
theorem or_neY {X : Cx} (hu : X.A.units + 64 < cLine) : OpR X (compareOp .NotEq) (fun x y H Q => rEqY X.K true x y H Q ∨ (rNe x y H Q ∨ rNeD X.K x y H Q)) := OpR.or (op_neY hu) (or_ne hu)
theorem nil_fl {K : PySem.W.Frag} {ι : List Addr} {H : Hp} {y : V} (r : RepV K ι H (.fl []) y) : ∃ b, y = .ref b ∧ SqL K H b [] := by
  rw [RepV] at r
  obtain ⟨b, vs, rfl, h, rl⟩ := r
  rw [RepL] at rl
  subst rl
  exact ⟨b, rfl, h.sq⟩
theorem k_eqY_gen {K : PySem.W.Frag} (neg : Bool) {W : WX} {σ : St} {ι : List Addr} {H : Hp} {S : Sto} {x y : V} {a b : D} {Q : VK} {Z : Prop} (s : Sim K ι H S) (rx : RepV K ι H a x) (ry : RepV K ι H b y)
    (h : Post K W σ ι H (dEqY neg a b S) fun d _ ι' H' => ∀ v, RepV K ι' H' d v → Q v H') (other : ∀ {a b}, RepV K ι H a x → RepV K ι H b y → Post K W σ ι H (dEq neg a b S) (fun d _ ι' H' => ∀ v, RepV K ι' H' d v → Q v H') → Z) : rEqY K neg x y H Q ∨ Z := by
  unfold dEqY at h
  split at h
  · obtain ⟨p, rfl, hp⟩ := nil_fl ry
    split at h
    · rename_i xs
      rw [RepV] at rx
      obtain ⟨q, vs, rfl, hq, rl⟩ := rx
      refine .inl ⟨q, p, vs, rfl, rfl, hq.sq, hp, ?_⟩
      have := h.here s _ bl_rep
      simpa [empty_rep rl] using this
    · rename_i n
      split at h
      · rename_i xs hx
        rw [RepV] at rx
        obtain ⟨q, eq, rfl⟩ := rx
        obtain ⟨vs, hq, rl⟩ := loc_at s eq hx
        refine .inl ⟨q, p, vs, rfl, rfl, hq, hp, ?_⟩
        have := h.here s _ bl_rep
        simpa [empty_rep rl] using this
      · exact h.elim
    · exact .inr (other rx ry h)
  · exact .inr (other rx ry h)
theorem k_neY {K : PySem.W.Frag} : OpK K (fun x y H Q => rEqY K true x y H Q ∨ (rNe x y H Q ∨ rNeD K x y H Q)) (dEqY true) := fun W σ ι H S x y a b Q s rx ry h => k_eqY_gen true s rx ry h fun ra rb hh => k_neD W σ ι H S x y _ _ Q s ra rb hh
end DL
namespace DL
open PySem PySem.Spec L2
open PyProof.Rows hiding St
end DL
namespace DL
open PySem PySem.Spec L2
open PyProof.Rows hiding St
end DL
namespace DL
open PySem PySem.Spec L2
open PyProof.Rows hiding St
end DL
namespace DL
open PySem PySem.Spec L2
open PyProof.Rows hiding St
def strsOf : List D → Option (List Str)
  | [] => some []
  | .str x :: ds => (strsOf ds).map (x :: ·)
  | _ => none
theorem strsOf_rep {K : PySem.W.Frag} {ι : List Addr} {H : Hp} : ∀ (ds : List D) (vs : List V) (ys : List Str), RepL K ι H ds vs → strsOf ds = some ys → vs = ys.map V.str
  | [], vs, ys, r, e => by
    rw [RepL] at r
    cases e
    rw [r]; rfl
  | d :: ds, vs, ys, r, e => by
    rw [RepL] at r
    obtain ⟨v, rest, rfl, a, b⟩ := r
    cases d with
    | str x =>
      have e' : (strsOf ds).map (x :: ·) = some ys := e
      obtain ⟨zs, hz, rfl⟩ := Option.map_eq_some_iff.mp e'
      rw [str_at a, strsOf_rep ds rest zs b hz]; rfl
    | _ => cases e
theorem strs_repL {K : PySem.W.Frag} {ι : List Addr} {H : Hp} : ∀ ys : List Str, RepL K ι H (ys.map D.str) (ys.map V.str)
  | [] => RepL.nil
  | y :: ys => by
    rw [List.map_cons, List.map_cons, RepL]
    exact ⟨_, _, rfl, str_rep, strs_repL ys⟩
section
variable {K : PySem.W.Frag}
noncomputable def mJoin : Mt := fun o ds S => match o, ds with
  | .str a, [d] => (match (seqOf S d).bind strsOf with
    | some ys => ifp ((ys.map (·.length)).sum + ys.length * a.length ≤ 16777216) (.ok (.str (Txt.join a ys)) S) .stuck
    | none => .stuck)
  | _, _ => .stuck
theorem k_join : MtK K (fun x xs H Q => ∃ a p, ∃ ys : List Str, x = .str a ∧ xs = [.ref p] ∧ (SqL K H p (ys.map V.str) ∨ SqT K H p (ys.map V.str)) ∧ (ys.map (·.length)).sum + ys.length * a.length ≤ 16777216 ∧ Q (.str (Txt.join a ys)) H) mJoin := by
  intro W σ ι H S x vs a ds Q s rx rl h
  unfold mJoin at h
  split at h
  · rename_i z d
    obtain ⟨v, rfl, rv⟩ := RepL.one_inv rl
    split at h
    · rename_i ys e
      obtain ⟨xs, e1, e2⟩ := Option.bind_eq_some_iff.mp e
      unfold ifp at h
      split at h
      · rename_i hz
        obtain ⟨p, us, rfl, q, rq⟩ := seq_at s rv e1
        rw [strsOf_rep _ _ _ rq e2] at q
        exact ⟨z, p, ys, str_at rx, rfl, q, hz, h.here s _ str_rep⟩
      · exact h.elim
    · exact h.elim
  · exact h.elim
noncomputable def mSplit (mk : List D → Sto → R D) : Mt := fun o ds S => match o, ds with
  | .str a, [.str b] => ifp ((b.length == 0) = false ∧ a.length + 2 ≤ sizeLine) (mk ((Txt.split a b).map D.str) S) .stuck
  | _, _ => .stuck
theorem k_split {mk : List D → Sto → R D} (m : MkOk mk) : MtK K (fun x xs H Q => ∃ a b, x = .str a ∧ xs = [.str b] ∧ (b.length == 0) = false ∧ a.length + 2 ≤ sizeLine ∧ rNewStrs (Txt.split a b) H Q) (mSplit mk) := by
  intro W σ ι H S x vs a ds Q s rx rl h
  unfold mSplit at h
  split at h
  · rename_i z b
    obtain ⟨v, rfl, rv⟩ := RepL.one_inv rl
    unfold ifp at h
    split at h
    · rename_i hz
      exact ⟨z, b, str_at rx, by rw [str_at rv], hz.1, hz.2, m _ _ _ _ _ _ _ _ _ h s (strs_repL _)⟩
    · exact h.elim
  · exact h.elim
end
end DL
namespace DL
open PySem PySem.Spec L2
open PyProof.Rows hiding St
def rMulS : R2 := fun x y H Q => ∃ (z : Str) (n : Int), x = .str z ∧ y = .int n ∧ PySem.MulOk z n ∧ Q (.str (Txt.mul z n)) H
theorem op_mulS {X : Cx} : OpR X (binaryOp .Mult) rMulS := by
  intro pins s σ H x y v u Q I rx ry h
  obtain ⟨z, n, rfl, rfl, hm, q⟩ := h
  obtain ⟨t, rfl⟩ := rx
  obtain ⟨t2, rfl⟩ := ry
  exact PySem.SB.mul hm fun t1 k => ⟨.str (Txt.mul z n), H, I.tok k, ⟨t1, rfl⟩, q⟩
noncomputable def dMulS (a b : D) (S : Sto) : R D := match a, b with
  | .str z, .int n => ifp (PySem.MulOk z n) (.ok (.str (Txt.mul z n)) S) .stuck
  | _, _ => .stuck
theorem k_mulS {K : PySem.W.Frag} : OpK K rMulS dMulS := by
  intro W σ ι H S x y a b Q s rx ry h
  unfold dMulS at h
  split at h
  · rename_i z n
    unfold ifp at h
    split at h
    · rename_i hm
      exact ⟨z, n, str_at rx, int_at ry, hm, h.here s _ str_rep⟩
    · exact h.elim
  · exact h.elim
end DL
namespace DL
open PySem PySem.Spec L2
open PyProof.Rows hiding St
end DL
namespace DL
open PySem PySem.Spec L2
open PyProof.Rows hiding St
end DL
namespace DL
open PySem PySem.Spec L2
open PyProof.Rows hiding St
section
variable {X : Cx} {W : WX}
noncomputable def eFmt (f : Ev → Sto → R D) : Ev → Sto → R D := fun ρ S => (f ρ S).bind fun d S1 => match d with
  | .str y => ifp (y.length ≤ sizeLine) (.ok (.str y) S1) .stuck
  | .int i => ifp (i.natAbs.log2 < 1920) (.ok (.str (toString i)) S1) .stuck
  | _ => .stuck
theorem de_fmt {e : Expr} {pos : Pos} {f : Ev → Sto → R D} (he : DE X W e f) : DE X W (.FormattedValue e (-1) none pos) (eFmt f) := by
  refine PE.imp (pe_fmt he) fun σ H Q ⟨ι, ρ, S, hE, hS, h⟩ => ⟨ι, ρ, S, hE, hS, (Post.bind h).mono fun d S1 ι1 H1 G1 s1 h1 x rx => ?_⟩
  cases d with
  | str y =>
    replace h1 : Post X.K W σ ι1 H1 (ifp (y.length ≤ sizeLine) (.ok (.str y) S1) .stuck) (fun d _ ι' H' => ∀ v, RepV X.K ι' H' d v → Q v H') := h1
    unfold ifp at h1
    split at h1
    · rename_i hl
      exact .inl ⟨y, str_at rx, hl, h1.here s1 _ str_rep⟩
    · exact h1.elim
  | int i =>
    replace h1 : Post X.K W σ ι1 H1 (ifp (i.natAbs.log2 < 1920) (.ok (.str (toString i)) S1) .stuck) (fun d _ ι' H' => ∀ v, RepV X.K ι' H' d v → Q v H') := h1
    unfold ifp at h1
    split at h1
    · rename_i hl
      exact .inr ⟨i, int_at rx, hl, h1.here s1 _ str_rep⟩
    · exact h1.elim
  | _ => exact (show False from h1).elim
noncomputable def eJs : List (Ev → Sto → R D) → Str → Ev → Sto → R D
  | [], acc => fun ρ S => .ok (.str acc) S
  | f :: fs, acc => fun ρ S => (f ρ S).bind fun d S1 => match d with
    | .str y => ifp ((acc ++ y).length ≤ sizeLine) (eJs fs (acc ++ y) ρ S1) .stuck
    | _ => .stuck
inductive DJ (X : Cx) (W : WX) : List Expr → List (Ev → Sto → R D) → Prop where
  | nil : DJ X W [] []
  | cons {e : Expr} {f : Ev → Sto → R D} {es : List Expr} {fs : List (Ev → Sto → R D)} (h : DE X W e f) (r : DJ X W es fs) : DJ X W (e :: es) (f :: fs)
theorem DJ.pj {es : List Expr} {fs : List (Ev → Sto → R D)} (h : DJ X W es fs) : PJ X es (fs.map (rdE X.K W)) := by
  induction h with
  | nil => exact .nil
  | cons h r ih => exact .cons h ih
theorem js_read {σ : St} {Q : VK} : ∀ (fs : List (Ev → Sto → R D)) (acc : Str) (ι : List Addr) (ρ : Ev) (S : Sto) (H : Hp), RepE X.K ι H σ ρ → Sim X.K ι H S → Post X.K W σ ι H (eJs fs acc ρ S) (fun d _ ι' H' => ∀ v, RepV X.K ι' H' d v → Q v H') →
    tJs (fs.map (rdE X.K W)) acc σ H fun out H1 => Q (.str out) H1
  | [], acc, ι, ρ, S, H, hE, hS, h => by
    replace h : Post X.K W σ ι H (R.ok (D.str acc) S) (fun d _ ι' H' => ∀ v, RepV X.K ι' H' d v → Q v H') := h
    exact h.here hS _ str_rep
  | f :: fs, acc, ι, ρ, S, H, hE, hS, h => by
    refine ⟨ι, ρ, S, hE, hS, (Post.bind h).mono fun d S1 ι1 H1 G1 s1 h1 x rx => ?_⟩
    cases d with
    | str y =>
      replace h1 : Post X.K W σ ι1 H1 (ifp ((acc ++ y).length ≤ sizeLine) (eJs fs (acc ++ y) ρ S1) .stuck) (fun d _ ι' H' => ∀ v, RepV X.K ι' H' d v → Q v H') := h1
      unfold ifp at h1
      split at h1
      · rename_i hl
        exact ⟨y, str_at rx, hl, js_read fs (acc ++ y) ι1 ρ S1 H1 (hE.grow G1) s1 h1⟩
      · exact h1.elim
    | _ => exact (show False from h1).elim
theorem de_joined {v1 v2 : Expr} {rest : List Expr} {fs : List (Ev → Sto → R D)} {pos : Pos} (h : DJ X W (v1 :: v2 :: rest) fs) : DE X W (.JoinedStr (v1 :: v2 :: rest) pos) (eJs fs Str.empty) :=
  PE.imp (pe_joined h.pj) fun σ H Q ⟨ι, ρ, S, hE, hS, hp⟩ => js_read fs Str.empty ι ρ S H hE hS hp
end
end DL
namespace DL
open PySem L2
open Sem (wp)
open PyProof.Rows (AllBare)
def deadK : Resume → Sem PySem.Fin := fun _ => .unsupported ""
def deadR : Result → Sem PySem.Fin := fun _ => .unsupported ""
/-- a frame that can't be gone on with; it looks the same from outside -/
def hush (F : Frame) : Frame := .ret deadR none false [] F.where_.1 F.where_.2 []
def deaf : GenState → GenState
  | .suspended _ l c p fs cl => .suspended deadK l c p (fs.map hush) cl
  | x => x
def asleep : GenState → Bool
  | .suspended .. => true
  | _ => false
theorem deaf_seen (x : GenState) : (deaf x).seen = x.seen := by
  cases x with
  | suspended k l c p fs cl =>
    show (GenStatus.suspended, some ((c, p) :: (fs.map hush).map Frame.where_)) = (GenStatus.suspended, some ((c, p) :: fs.map Frame.where_))
    rw [List.map_map]; rfl
  | _ => rfl
theorem deaf_bare (x : GenState) : (deaf x).bare = x.bare := by cases x <;> rfl
theorem deaf_awake {x : GenState} (h : asleep x = false) : deaf x = x := by cases x <;> first | rfl | cases h
theorem deaf_asleep (x : GenState) : asleep (deaf x) = asleep x := by cases x <;> rfl
/-- no generator's frame is among the frames that are kept -/
def clean : GenState → Prop
  | .suspended _ _ _ _ fs _ => splitAtGen fs = none
  | _ => True
def EndClean : End → Prop
  | .ret _ => True
  | .susp _ _ _ _ _ _ fs => splitAtGen fs = none
theorem EndClean.st {e : End} (h : EndClean e) : clean e.genState := by cases e <;> exact h
theorem split_app : ∀ (a b : List Frame), splitAtGen a = none → splitAtGen b = none → splitAtGen (a ++ b) = none
  | [], b, _, h => h
  | .gen .. :: a, b, h, _ => by simp [splitAtGen] at h
  | .ret .. :: a, b, h, h' => by
    simp only [splitAtGen, Option.map_eq_none_iff] at h
    simp only [List.cons_append, splitAtGen, Option.map_eq_none_iff]
    exact split_app a b h h'
theorem no_dead {M : Model} {Γ : Ctx} {p : Pos} {w : String} {fs : List Frame} {s s' : Shared} {e : End} (h : Runs M Γ p (.unsupported w) fs s e s') : False := by
  generalize ht : (Sem.unsupported w : Sem PySem.Fin) = t at h
  induction h with
  | segRet _ _ ih _ => exact ih ht
  | segGen _ _ ih _ => exact ih ht
  | segSuspOut _ _ ih => exact ih ht
  | segSuspGen _ _ _ _ ih _ => exact ih ht
  | _ => cases ht
/-- b: the state in which the run was shown; s: the state as it is; what slept in G is deaf in b -/
structure SLk (G : Array GenState) (b s : Shared) : Prop where
  heap : s.heap = b.heap
  drawn : s.drawn = b.drawn
  toks : s.toks = b.toks
  os : s.os = b.os
  size : s.gens.size = b.gens.size
  le : G.size ≤ b.gens.size
  old : ∀ (i : Nat) x, G[i]? = some x → asleep x = true → b.gens[i]? = some (deaf x) ∧ s.gens[i]? = some x
  new : ∀ (i : Nat), (∀ x, G[i]? = some x → asleep x = false) → s.gens[i]? = b.gens[i]? ∧ ∀ x, b.gens[i]? = some x → clean x
theorem SLk.eq {G : Array GenState} {b s : Shared} (h : SLk G b s) : s = { b with gens := s.gens } := by
  obtain ⟨h1, g1, d1, t1, o1⟩ := s
  obtain ⟨h2, g2, d2, t2, o2⟩ := b
  obtain ⟨e1, e2, e3, e4, _⟩ := h
  cases e1; cases e2; cases e3; cases e4; rfl
theorem SLk.or {G : Array GenState} {b s : Shared} (h : SLk G b s) (i : Nat) : (∃ x, G[i]? = some x ∧ asleep x = true) ∨ ∀ x, G[i]? = some x → asleep x = false := by
  cases e : G[i]? with
  | none => exact .inr fun x hx => by cases hx
  | some x =>
    cases ha : asleep x with
    | true => exact .inl ⟨x, rfl, ha⟩
    | false => exact .inr fun y hy => by cases hy; exact ha
theorem SLk.seen {G : Array GenState} {b s : Shared} (h : SLk G b s) {g : Nat} {x : GenState} (e : b.gens[g]? = some x) : ∃ y, s.gens[g]? = some y ∧ y.seen = x.seen := by
  rcases h.or g with ⟨y, hy, ha⟩ | hn
  · obtain ⟨q1, q2⟩ := h.old g y hy ha
    rw [q1] at e; cases e
    exact ⟨y, q2, (deaf_seen y).symm⟩
  · exact ⟨x, by rw [(h.new g hn).1]; exact e, rfl⟩
/-- one that is not deaf is the same in both -/
theorem SLk.awake {G : Array GenState} {b s : Shared} (h : SLk G b s) {g : Nat} {x : GenState} (e : b.gens[g]? = some x) (ha : asleep x = false) : s.gens[g]? = some x ∧ ∀ x, G[g]? = some x → asleep x = false := by
  rcases h.or g with ⟨y, hy, hb⟩ | hn
  · obtain ⟨q1, q2⟩ := h.old g y hy hb
    rw [q1] at e; cases e
    rw [deaf_asleep, hb] at ha; cases ha
  · exact ⟨by rw [(h.new g hn).1]; exact e, hn⟩
theorem SLk.withHeap {G : Array GenState} {b s : Shared} (h : SLk G b s) (f : Heap) : SLk G { b with heap := f } { s with heap := f } := ⟨rfl, h.drawn, h.toks, h.os, h.size, h.le, h.old, h.new⟩
theorem SLk.setG {G : Array GenState} {b s : Shared} (h : SLk G b s) {g : Nat} {x : GenState} (hn : ∀ x, G[g]? = some x → asleep x = false) (hx : clean x) : SLk G (b.setGen g x) (s.setGen g x) := by
  refine ⟨h.heap, h.drawn, h.toks, h.os, ?_, ?_, fun i y hy ha => ?_, fun i hi => ?_⟩
  · rw [GenW.setGen_size, GenW.setGen_size]; exact h.size
  · rw [GenW.setGen_size]; exact h.le
  · have hne : g ≠ i := fun z => by
      subst z
      rw [hn y hy] at ha; cases ha
    obtain ⟨q1, q2⟩ := h.old i y hy ha
    show (b.gens.setIfInBounds g x)[i]? = _ ∧ (s.gens.setIfInBounds g x)[i]? = _
    rw [Array.getElem?_setIfInBounds_ne hne, Array.getElem?_setIfInBounds_ne hne]
    exact ⟨q1, q2⟩
  · obtain ⟨q1, q2⟩ := h.new i hi
    show (s.gens.setIfInBounds g x)[i]? = (b.gens.setIfInBounds g x)[i]? ∧ ∀ y, (b.gens.setIfInBounds g x)[i]? = some y → clean y
    by_cases hg : g = i
    · subst hg
      rw [Array.getElem?_setIfInBounds_self, Array.getElem?_setIfInBounds_self, h.size]
      refine ⟨rfl, fun y hy => ?_⟩
      split at hy
      · cases hy; exact hx
      · cases hy
    · rw [Array.getElem?_setIfInBounds_ne hg, Array.getElem?_setIfInBounds_ne hg]
      exact ⟨q1, q2⟩
theorem SLk.push {G : Array GenState} {b s : Shared} (h : SLk G b s) (c : Code) : SLk G { b with gens := b.gens.push (.fresh c) } { s with gens := s.gens.push (.fresh c) } := by
  refine ⟨h.heap, h.drawn, h.toks, h.os, ?_, ?_, fun i y hy ha => ?_, fun i hi => ?_⟩
  · simp [h.size]
  · have := h.le
    simp only [Array.size_push]; omega
  · obtain ⟨q1, q2⟩ := h.old i y hy ha
    have l1 := (Array.getElem?_eq_some_iff.mp q1).1
    have l2 := (Array.getElem?_eq_some_iff.mp q2).1
    simp only [Array.getElem?_push, Nat.ne_of_lt l1, Nat.ne_of_lt l2, if_false]
    exact ⟨q1, q2⟩
  · obtain ⟨q1, q2⟩ := h.new i hi
    simp only [Array.getElem?_push, h.size]
    refine ⟨?_, fun y hy => ?_⟩
    · split
      · rfl
      · exact q1
    · split at hy
      · cases hy; trivial
      · exact q2 y hy
theorem runs_lk {M : Model} {Γ : Ctx} {p : Pos} {t : Sem PySem.Fin} {fs : List Frame} {b b' : Shared} {e : End} (h : Runs M Γ p t fs b e b') : ∀ (G : Array GenState) (s : Shared), splitAtGen fs = none → SLk G b s → ∃ s', Runs M Γ p t fs s e s' ∧ SLk G b' s' ∧ EndClean e := by
  induction h with
  | done => intro G s _ l; exact ⟨s, .done, l, trivial⟩
  | raise => intro G s _ l; exact ⟨s, .raise, l, trivial⟩
  | again hq _ ih => intro G s hf l; obtain ⟨s', r, l', z⟩ := ih G s hf l; exact ⟨s', .again hq r, l', z⟩
  | rule _ ih => intro G s hf l; obtain ⟨s', r, l', z⟩ := ih G s hf l; exact ⟨s', .rule r, l', z⟩
  | «at» _ ih => intro G s hf l; obtain ⟨s', r, l', z⟩ := ih G s hf l; exact ⟨s', .at r, l', z⟩
  | load ho _ ih => intro G s hf l; obtain ⟨s', r, l', z⟩ := ih G s hf l; exact ⟨s', .load (by rw [l.heap]; exact ho) r, l', z⟩
  | update ho _ ih =>
    intro G s hf l
    obtain ⟨s', r, l', z⟩ := ih G _ hf (l.withHeap _)
    refine ⟨s', .update (by rw [l.heap]; exact ho) ?_, l', z⟩
    rw [l.heap]; exact r
  | loadIfAlive _ ih =>
    intro G s hf l
    obtain ⟨s', r, l', z⟩ := ih G s hf l
    refine ⟨s', .loadIfAlive ?_, l', z⟩
    rw [l.heap]; exact r
  | point _ ih => intro G s hf l; obtain ⟨s', r, l', z⟩ := ih G s hf l; exact ⟨s', .point r, l', z⟩
  | alloc _ ih =>
    intro G s hf l
    obtain ⟨s', r, l', z⟩ := ih G _ hf (l.withHeap _)
    refine ⟨s', .alloc ?_, l', z⟩
    rw [l.heap]; exact r
  | fresh _ ih =>
    intro G s hf l
    obtain ⟨s', r, l', z⟩ := ih G { s with toks := s.toks + 1 } hf ⟨l.heap, l.drawn, congrArg (· + 1) l.toks, l.os, l.size, l.le, l.old, l.new⟩
    refine ⟨s', .fresh ?_, l', z⟩
    rw [l.toks] at r ⊢; exact r
  | ask _ ih => intro G s hf l; obtain ⟨s', r, l', z⟩ := ih G s hf l; exact ⟨s', .ask r, l', z⟩
  | choose hn _ ih =>
    rename_i Sr _
    intro G s hf l
    obtain ⟨s', r, l', z⟩ := ih G ⟨s.heap, s.gens, s.drawn.bump Sr, s.toks, s.os⟩ hf ⟨l.heap, congrArg (fun d => Drawn.bump d Sr) l.drawn, l.toks, l.os, l.size, l.le, l.old, l.new⟩
    refine ⟨s', .choose hn ?_, l', z⟩
    have q := r
    rw [l.drawn] at q ⊢; exact q
  | os _ ih =>
    rename_i Sr _ _
    intro G s hf l
    obtain ⟨s', r, l', z⟩ := ih G ⟨s.heap, s.gens, s.drawn, s.toks, (Os.step s.os Sr).1⟩ hf ⟨l.heap, l.drawn, l.toks, congrArg (fun d => (Os.step d Sr).1) l.os, l.size, l.le, l.old, l.new⟩
    refine ⟨s', .os ?_, l', z⟩
    have q := r
    rw [l.os] at q ⊢; exact q
  | handled _ ih => intro G s hf l; obtain ⟨s', r, l', z⟩ := ih G s hf l; exact ⟨s', .handled r, l', z⟩
  | genState hg _ ih =>
    intro G s hf l
    obtain ⟨s', r, l', z⟩ := ih G s hf l
    obtain ⟨y, hy, hs⟩ := l.seen hg
    refine ⟨s', .genState hy ?_, l', z⟩
    rw [hs]; exact r
  | stack _ ih => intro G s hf l; obtain ⟨s', r, l', z⟩ := ih G s hf l; exact ⟨s', .stack r, l', z⟩
  | thread _ ih => intro G s hf l; obtain ⟨s', r, l', z⟩ := ih G s hf l; exact ⟨s', .thread r, l', z⟩
  | newGen _ ih =>
    intro G s hf l
    obtain ⟨s', r, l', z⟩ := ih G _ hf (l.push _)
    refine ⟨s', .newGen ?_, l', z⟩
    rw [l.size]; exact r
  | call _ _ ih1 ih2 =>
    intro G s hf l
    obtain ⟨s1, r1, l1, _⟩ := ih1 G s rfl l
    obtain ⟨s', r, l', z⟩ := ih2 G s1 hf l1
    exact ⟨s', .call r1 r, l', z⟩
  | callSusp _ ih =>
    intro G s hf l
    obtain ⟨s1, r1, l1, z⟩ := ih G s rfl l
    exact ⟨s1, .callSusp r1, l1, split_app _ _ z rfl⟩
  | yield => intro G s _ l; exact ⟨s, .yield, l, rfl⟩
  | resumeFresh hg _ hq _ ih1 ih2 =>
    intro G s hf l
    obtain ⟨q1, q2⟩ := l.awake hg rfl
    obtain ⟨s1, r1, l1, z1⟩ := ih1 G _ rfl (l.setG (g := _) (x := .running) q2 trivial)
    obtain ⟨s', r, l', z⟩ := ih2 G _ hf (l1.setG q2 z1.st)
    exact ⟨s', .resumeFresh q1 r1 hq r, l', z⟩
  | resumeSuspended hg h1 hq _ ih1 ih2 =>
    intro G s hf l
    rename_i g _ _ _ _ _ _ _ _ _ _ _ _ _ _ _
    rcases l.or g with ⟨y, hy, ha⟩ | hn
    · obtain ⟨e1, _⟩ := l.old g y hy ha
      rw [hg] at e1
      cases y with
      | suspended k0 l0 c0 p0 fs0 cl0 =>
        injection e1 with e1
        injection e1 with e1 _ _ _ _ _
        rw [e1] at h1
        exact (no_dead h1).elim
      | fresh _ => cases ha
      | running => cases ha
      | finished => cases ha
    · obtain ⟨q1, q2⟩ := l.new g hn
      obtain ⟨s1, r1, l1, z1⟩ := ih1 G _ (q2 _ hg) (l.setG (g := g) (x := .running) hn trivial)
      obtain ⟨s', r, l', z⟩ := ih2 G _ hf (l1.setG hn z1.st)
      exact ⟨s', .resumeSuspended (q1.trans hg) r1 hq r, l', z⟩
  | resumeJustStarted hg hv _ ih =>
    intro G s hf l
    obtain ⟨q1, q2⟩ := l.awake hg rfl
    obtain ⟨s', r, l', z⟩ := ih G s hf l
    exact ⟨s', .resumeJustStarted q1 hv r, l', z⟩
  | resumeThrowFresh hg _ ih =>
    intro G s hf l
    obtain ⟨q1, q2⟩ := l.awake hg rfl
    obtain ⟨s', r, l', z⟩ := ih G _ hf (l.setG (x := .finished) q2 trivial)
    exact ⟨s', .resumeThrowFresh q1 r, l', z⟩
  | resumeRunning hg _ ih =>
    intro G s hf l
    obtain ⟨q1, q2⟩ := l.awake hg rfl
    obtain ⟨s', r, l', z⟩ := ih G s hf l
    exact ⟨s', .resumeRunning q1 r, l', z⟩
  | resumeFinished hg _ ih =>
    intro G s hf l
    obtain ⟨q1, q2⟩ := l.awake hg rfl
    obtain ⟨s', r, l', z⟩ := ih G s hf l
    exact ⟨s', .resumeFinished q1 r, l', z⟩
  | segRet _ _ ih1 ih2 =>
    intro G s hf l
    simp only [splitAtGen, Option.map_eq_none_iff] at hf
    obtain ⟨s1, r1, l1, _⟩ := ih1 G s rfl l
    obtain ⟨s', r, l', z⟩ := ih2 G s1 hf l1
    exact ⟨s', .segRet r1 r, l', z⟩
  | segGen _ _ _ _ => intro G s hf l; simp [splitAtGen] at hf
  | segSuspOut hs _ ih =>
    intro G s hf l
    obtain ⟨s1, r1, l1, z⟩ := ih G s rfl l
    exact ⟨s1, .segSuspOut hs r1, l1, split_app _ _ z hs⟩
  | segSuspGen hs _ _ _ _ _ => intro G s hf l; rw [hf] at hs; cases hs
theorem wakes_lk {M : Model} {Γ : Ctx} {p : Pos} {g : Nat} {r : Resume} {b b' : Shared} {res : GenResult} (h : Wakes M Γ p g r b res b') (G : Array GenState) (s : Shared) (l : SLk G b s) : ∃ s', Wakes M Γ p g r s res s' ∧ SLk G b' s' := by
  unfold Wakes at h
  cases hg : b.gens[g]? with
  | none => rw [hg] at h; exact h.elim
  | some x =>
    rw [hg] at h
    cases x with
    | fresh c =>
      obtain ⟨q1, q2⟩ := l.awake hg rfl
      cases r with
      | throw e =>
        obtain ⟨h1, h2⟩ := h
        exact ⟨_, by unfold Wakes; rw [q1]; exact ⟨h1, rfl⟩, by rw [h2]; exact l.setG q2 trivial⟩
      | send v =>
        cases v with
        | none =>
          obtain ⟨e1, s1, hr, hq, h1, h2⟩ := h
          obtain ⟨s1', r1, l1, z1⟩ := runs_lk hr G _ rfl (l.setG (x := .running) q2 trivial)
          exact ⟨_, by unfold Wakes; rw [q1]; exact ⟨e1, s1', r1, hq, h1, rfl⟩, by rw [h2]; exact l1.setG q2 z1.st⟩
        | _ =>
          obtain ⟨h1, h2⟩ := h
          exact ⟨s, by unfold Wakes; rw [q1]; exact ⟨h1, rfl⟩, by rw [h2]; exact l⟩
    | suspended k0 l0 c0 p0 fs0 cl0 =>
      obtain ⟨e1, s1, hr, hq, h1, h2⟩ := h
      rcases l.or g with ⟨y, hy, ha⟩ | hn
      · obtain ⟨d1, _⟩ := l.old g y hy ha
        rw [hg] at d1
        cases y with
        | suspended k1 l1 c1 p1 fs1 cl1 =>
          injection d1 with d1
          injection d1 with d1 _ _ _ _ _
          rw [d1] at hr
          exact (no_dead hr).elim
        | fresh _ => cases ha
        | running => cases ha
        | finished => cases ha
      · obtain ⟨q1, q2⟩ := l.new g hn
        obtain ⟨s1', r1, l1, z1⟩ := runs_lk hr G _ (q2 _ hg) (l.setG (g := g) (x := .running) hn trivial)
        exact ⟨_, by unfold Wakes; rw [q1, hg]; exact ⟨e1, s1', r1, hq, h1, rfl⟩, by rw [h2]; exact l1.setG hn z1.st⟩
    | running =>
      obtain ⟨q1, q2⟩ := l.awake hg rfl
      obtain ⟨h1, h2⟩ := h
      exact ⟨s, by unfold Wakes; rw [q1]; exact ⟨h1, rfl⟩, by rw [h2]; exact l⟩
    | finished =>
      obtain ⟨q1, q2⟩ := l.awake hg rfl
      obtain ⟨h1, h2⟩ := h
      exact ⟨s, by unfold Wakes; rw [q1]; exact ⟨h1, rfl⟩, by rw [h2]; exact l⟩
theorem wp_lk {α : Type} (M : Model) (Γ : Ctx) (G : Array GenState) (t : Sem α) : ∀ (Q : α → Pos → Shared → Prop) (E : Value → Pos → Shared → Prop) (p : Pos) (b s : Shared), SLk G b s → wp M Γ t Q E p b →
    wp M Γ t (fun a p' s' => ∃ b', SLk G b' s' ∧ Q a p' b') (fun e p' s' => ∃ b', SLk G b' s' ∧ E e p' b') p s := by
  induction t with
  | pure a => intro Q E p b s l h; exact ⟨b, l, h⟩
  | raise e => intro Q E p b s l h; exact ⟨b, l, h⟩
  | unsupported _ => intro Q E p b s _ h; exact h
  | finish _ => intro Q E p b s _ h; exact h
  | register _ _ => intro Q E p b s _ h; exact h
  | yield _ _ _ _ => intro Q E p b s _ h; exact h
  | fork _ _ => intro Q E p b s _ h; exact h
  | await _ _ _ _ _ => intro Q E p b s _ h; exact h
  | rule _ k ih => intro Q E p b s l h; exact ih () Q E p b s l h
  | «at» p' k ih => intro Q E p b s l h; exact ih () Q E p' b s l h
  | point _ k ih => intro Q E p b s l h; exact ih () Q E p b s l h
  | ask k ih => intro Q E p b s l h; exact ih _ Q E p b s l h
  | handled own k ih => intro Q E p b s l h; exact ih _ Q E p b s l h
  | stack k ih => intro Q E p b s l h; exact ih _ Q E p b s l h
  | thread k ih => intro Q E p b s l h; exact ih _ Q E p b s l h
  | load a _ k ih => intro Q E p b s l h; obtain ⟨o, ho, h⟩ := h; exact ⟨o, by rw [l.heap]; exact ho, ih o Q E p b s l h⟩
  | update a _ f k ih =>
    intro Q E p b s l h
    have q := ih () Q E p _ _ (l.withHeap (b.heap.update a f)) h.2
    exact ⟨by rw [l.heap]; exact h.1, by rw [l.heap]; exact q⟩
  | loadIfAlive a k ih =>
    intro Q E p b s l h
    have q := ih _ Q E p b s l h
    show wp M Γ (k (s.heap.get? a)) _ _ p s
    rw [l.heap]; exact q
  | alloc o k ih =>
    intro Q E p b s l h
    have q := ih _ Q E p _ _ (l.withHeap (b.heap.push o)) h
    show wp M Γ (k s.heap.objs.size) _ _ p { s with heap := s.heap.push o }
    rw [l.heap]; exact q
  | fresh k ih =>
    intro Q E p b s l h
    have q := ih _ Q E p { b with toks := b.toks + 1 } { s with toks := s.toks + 1 } ⟨l.heap, l.drawn, congrArg (· + 1) l.toks, l.os, l.size, l.le, l.old, l.new⟩ h
    show wp M Γ (k s.toks) _ _ p _
    rw [l.toks] at q ⊢; exact q
  | choose src n k ih =>
    intro Q E p b s l h
    have q := ih _ Q E p { b with drawn := b.drawn.bump src } ⟨s.heap, s.gens, s.drawn.bump src, s.toks, s.os⟩ ⟨l.heap, congrArg (fun d => Drawn.bump d src) l.drawn, l.toks, l.os, l.size, l.le, l.old, l.new⟩ h.2
    refine ⟨h.1, ?_⟩
    rw [l.drawn] at q ⊢; exact q
  | os rq _ k ih =>
    intro Q E p b s l h
    have q := ih _ Q E p { b with os := (Os.step b.os rq).1 } ⟨s.heap, s.gens, s.drawn, s.toks, (Os.step s.os rq).1⟩ ⟨l.heap, l.drawn, l.toks, congrArg (fun d => (Os.step d rq).1) l.os, l.size, l.le, l.old, l.new⟩ h
    show wp M Γ (k (Os.step s.os rq).2) _ _ p _
    rw [l.os] at q ⊢; exact q
  | call c hd _ _ k ih =>
    intro Q E p b s l h
    obtain ⟨r, b1, hr, h⟩ := h
    obtain ⟨s1, r1, l1, _⟩ := runs_lk hr G s rfl l
    exact ⟨r, s1, r1, ih r Q E p b1 s1 l1 h⟩
  | genState g k ih =>
    intro Q E p b s l h
    obtain ⟨x, hx, h⟩ := h
    obtain ⟨y, hy, hs⟩ := l.seen hx
    refine ⟨y, hy, ?_⟩
    rw [hs]; exact ih _ Q E p b s l h
  | newGen c k ih =>
    intro Q E p b s l h
    have q := ih _ Q E p _ _ (l.push c) h
    show wp M Γ (k s.gens.size) _ _ p _
    rw [l.size]; exact q
  | resume g r _ k ih =>
    intro Q E p b s l h
    obtain ⟨res, b1, hw, h⟩ := h
    obtain ⟨s1, w1, l1⟩ := wakes_lk hw G s l
    exact ⟨res, s1, w1, ih res Q E p b1 s1 l1 h⟩
/-- what was let go stays so -/
structure Gone (s s' : Shared) : Prop where
  size : s.heap.objs.size ≤ s'.heap.objs.size
  none : ∀ b, b < s.heap.objs.size → s.heap.get? b = none → s'.heap.get? b = none
theorem Gone.refl (s : Shared) : Gone s s := ⟨Nat.le_refl _, fun _ _ h => h⟩
theorem Gone.trans {a b c : Shared} (h : Gone a b) (k : Gone b c) : Gone a c := ⟨Nat.le_trans h.size k.size, fun d hd e => k.none d (Nat.lt_of_lt_of_le hd h.size) (h.none d hd e)⟩
theorem Gone.heap {a b c : Shared} (h : Gone a b) (e : c.heap = b.heap) : Gone a c := ⟨by rw [e]; exact h.size, fun d hd q => by rw [e]; exact h.none d hd q⟩
theorem Gone.src {a b c : Shared} (h : Gone b c) (e : a.heap = b.heap) : Gone a c := ⟨by rw [e]; exact h.size, fun d hd q => h.none d (by rw [← e]; exact hd) (by rw [← e]; exact q)⟩
theorem gone_upd {s : Shared} {a : Addr} {f : Obj → Obj} (h : (s.heap.get? a).isSome = true) : Gone s { s with heap := s.heap.update a f } where
  size := by show _ ≤ (s.heap.update a f).objs.size; rw [Heap.size_after_update]; exact Nat.le_refl _
  none := fun b hb e => by
    have hne : a ≠ b := fun z => by rw [z, e] at h; cases h
    show (s.heap.update a f).get? b = _
    rw [Heap.get?_update_other _ _ hne]; exact e
theorem gone_push {s : Shared} {o : Obj} : Gone s { s with heap := s.heap.push o } where
  size := by show _ ≤ (s.heap.push o).objs.size; rw [Heap.size_push]; omega
  none := fun b hb e => by
    show (s.heap.push o).get? b = _
    unfold Heap.get? at e ⊢
    have : (s.heap.push o).objs[b]? = s.heap.objs[b]? := by
      show (s.heap.objs.push o)[b]? = _
      rw [Array.getElem?_push, if_neg (Nat.ne_of_lt hb)]
    rw [this]; exact e
theorem runs_gone {M : Model} {Γ : Ctx} {p : Pos} {t : Sem PySem.Fin} {fs : List Frame} {s s' : Shared} {e : End} (h : Runs M Γ p t fs s e s') : Gone s s' := by
  induction h with
  | done => exact Gone.refl _
  | raise => exact Gone.refl _
  | yield => exact Gone.refl _
  | update ho _ ih => exact (gone_upd ho).trans ih
  | alloc _ ih => exact gone_push.trans ih
  | call _ _ ih1 ih2 => exact ih1.trans ih2
  | resumeFresh _ _ _ _ ih1 ih2 => exact Gone.src (ih1.trans (ih2.src rfl)) rfl
  | resumeSuspended _ _ _ _ ih1 ih2 => exact Gone.src (ih1.trans (ih2.src rfl)) rfl
  | segRet _ _ ih1 ih2 => exact ih1.trans ih2
  | segGen _ _ ih1 ih2 => exact ih1.trans (ih2.src rfl)
  | segSuspGen _ _ _ _ ih1 ih2 => exact ih1.trans (ih2.src rfl)
  | _ => rename_i ih; exact ih.src rfl
theorem wakes_gone {M : Model} {Γ : Ctx} {p : Pos} {g : Nat} {r : Resume} {s s' : Shared} {res : GenResult} (h : Wakes M Γ p g r s res s') : Gone s s' := by
  unfold Wakes at h
  split at h
  · exact h.elim
  · split at h
    · obtain ⟨e1, s1, hr, _, _, rfl⟩ := h
      exact Gone.heap (b := s1) (Gone.src (runs_gone hr) rfl) rfl
    · rw [h.2]; exact Gone.refl _
    · rw [h.2]; exact (Gone.refl _).heap rfl
  · obtain ⟨e1, s1, hr, _, _, rfl⟩ := h
    exact Gone.heap (b := s1) (Gone.src (runs_gone hr) rfl) rfl
  · rw [h.2]; exact Gone.refl _
  · rw [h.2]; exact Gone.refl _
theorem wp_gone {α : Type} (M : Model) (Γ : Ctx) (s0 : Shared) (t : Sem α) : ∀ (Q : α → Pos → Shared → Prop) (E : Value → Pos → Shared → Prop) (p : Pos) (s : Shared), Gone s0 s → wp M Γ t Q E p s →
    wp M Γ t (fun a p' s' => Gone s0 s' ∧ Q a p' s') (fun e p' s' => Gone s0 s' ∧ E e p' s') p s := by
  induction t with
  | pure a => intro Q E p s l h; exact ⟨l, h⟩
  | raise e => intro Q E p s l h; exact ⟨l, h⟩
  | unsupported _ => intro Q E p s _ h; exact h
  | finish _ => intro Q E p s _ h; exact h
  | register _ _ => intro Q E p s _ h; exact h
  | yield _ _ _ _ => intro Q E p s _ h; exact h
  | fork _ _ => intro Q E p s _ h; exact h
  | await _ _ _ _ _ => intro Q E p s _ h; exact h
  | rule _ k ih => intro Q E p s l h; exact ih () Q E p s l h
  | «at» p' k ih => intro Q E p s l h; exact ih () Q E p' s l h
  | point _ k ih => intro Q E p s l h; exact ih () Q E p s l h
  | ask k ih => intro Q E p s l h; exact ih _ Q E p s l h
  | handled own k ih => intro Q E p s l h; exact ih _ Q E p s l h
  | stack k ih => intro Q E p s l h; exact ih _ Q E p s l h
  | thread k ih => intro Q E p s l h; exact ih _ Q E p s l h
  | load a _ k ih => intro Q E p s l h; obtain ⟨o, ho, h⟩ := h; exact ⟨o, ho, ih o Q E p s l h⟩
  | update a _ f k ih => intro Q E p s l h; exact ⟨h.1, ih () Q E p _ (l.trans (gone_upd h.1)) h.2⟩
  | loadIfAlive a k ih => intro Q E p s l h; exact ih _ Q E p s l h
  | alloc o k ih => intro Q E p s l h; exact ih _ Q E p _ (l.trans gone_push) h
  | fresh k ih => intro Q E p s l h; exact ih _ Q E p _ (l.heap rfl) h
  | choose src n k ih => intro Q E p s l h; exact ⟨h.1, ih _ Q E p _ (l.heap rfl) h.2⟩
  | os rq _ k ih => intro Q E p s l h; exact ih _ Q E p _ (l.heap rfl) h
  | call c hd _ _ k ih => intro Q E p s l h; obtain ⟨r, s1, hr, h⟩ := h; exact ⟨r, s1, hr, ih r Q E p s1 (l.trans (runs_gone hr)) h⟩
  | genState g k ih => intro Q E p s l h; obtain ⟨x, hx, h⟩ := h; exact ⟨x, hx, ih _ Q E p s l h⟩
  | newGen c k ih => intro Q E p s l h; exact ih _ Q E p _ (l.heap rfl) h
  | resume g r _ k ih => intro Q E p s l h; obtain ⟨res, s1, hw, h⟩ := h; exact ⟨res, s1, hw, ih res Q E p s1 (l.trans (wakes_gone hw)) h⟩
/-- the state with all sleepers deaf -/
def still (s : Shared) : Shared := { s with gens := s.gens.map deaf }
theorem still_lk (s : Shared) : SLk s.gens (still s) s := by
  refine ⟨rfl, rfl, rfl, rfl, by simp [still], by simp [still], fun i x hx ha => ⟨?_, hx⟩, fun i hi => ?_⟩
  · show (s.gens.map deaf)[i]? = _
    rw [Array.getElem?_map, hx]; rfl
  · show _ = (s.gens.map deaf)[i]? ∧ ∀ x, (s.gens.map deaf)[i]? = some x → clean x
    rw [Array.getElem?_map]
    cases e : s.gens[i]? with
    | none => exact ⟨rfl, fun x hx => by cases hx⟩
    | some x =>
      have ha := hi x e
      refine ⟨by show some x = some (deaf x); rw [deaf_awake ha], fun y hy => ?_⟩
      have : deaf x = y := Option.some.inj hy
      rw [deaf_awake ha] at this
      subst this
      cases x <;> first | trivial | cases ha
/-- what sleeps in s sleeps in s' as it did; what was let go stays so -/
structure Kept (s s' : Shared) : Prop where
  gen : ∀ (i : Nat) x, s.gens[i]? = some x → asleep x = true → s'.gens[i]? = some x
  gone : Gone s s'
theorem Kept.trans {a b c : Shared} (h : Kept a b) (k : Kept b c) : Kept a c := ⟨fun i x e z => k.gen i x (h.gen i x e z) z, h.gone.trans k.gone⟩
theorem SLk.kept {b s' s : Shared} (l : SLk s.gens b s') (g : Gone s s') : Kept s s' := ⟨fun i x e z => (l.old i x e z).2, g⟩
theorem SLk.bare {G : Array GenState} {b s : Shared} (l : SLk G b s) (h : AllBare b.gens) : AllBare s.gens := fun x hx => by
  obtain ⟨i, hi, rfl⟩ := Array.mem_iff_getElem.mp hx
  have hs : s.gens[i]? = some s.gens[i] := Array.getElem?_eq_getElem hi
  rcases l.or i with ⟨y, hy, ha⟩ | hn
  · obtain ⟨q1, q2⟩ := l.old i y hy ha
    rw [hs] at q2
    have e : s.gens[i] = y := Option.some.inj q2
    rw [e, ← deaf_bare]
    exact h _ (Array.mem_of_getElem? q1)
  · rw [(l.new i hn).1] at hs
    exact h _ (Array.mem_of_getElem? hs)
theorem still_bare {s : Shared} (h : AllBare s.gens) : AllBare (still s).gens := fun x hx => by
  obtain ⟨y, hy, rfl⟩ := Array.mem_map.mp hx
  rw [deaf_bare]; exact h y hy
/-- a wish that does not look at the generators, but that none has a clean-up -/
def Calm {α : Type} (Q : α → Shared → Prop) : Prop := ∀ (G : Array GenState) (b s : Shared) (a : α), SLk G b s → Q a b → Q a s
theorem wpAny_kept {α : Type} {M : Model} {A : Around} {t : Sem α} {Q : α → Shared → Prop} {E : Value → Shared → Prop} {s : Shared} (hQ : Calm Q) (hE : Calm E) (h : wpAny M A t Q E (still s)) :
    wpAny M A t (fun a s' => Q a s' ∧ Kept s s') (fun e s' => E e s' ∧ Kept s s') s := by
  intro Γ p hΓ
  have q := wp_gone M Γ s t _ _ p s (Gone.refl s) (wp_lk M Γ s.gens t _ _ p (still s) s (still_lk s) (h Γ p hΓ))
  refine Sem.wp_mono M Γ t (fun a p' s' hq => ?_) (fun a p' s' hq => ?_) p s q
  · obtain ⟨g, b, l, hb⟩ := hq; exact ⟨hQ _ b s' a l hb, l.kept g⟩
  · obtain ⟨g, b, l, hb⟩ := hq; exact ⟨hE _ b s' a l hb, l.kept g⟩
/-- .. of two steps -/
theorem wpAny_kept2 {α β : Type} {M : Model} {A : Around} {t : Sem α} {u : α → Sem β} (Z : α → Prop) {Q : α → β → Shared → Prop} {E : Value → Shared → Prop} {s : Shared} (hQ : ∀ a, Calm (Q a)) (hE : Calm E) (h : wpAny M A t (fun a s1 => Z a ∧ wpAny M A (u a) (Q a) E s1) E (still s)) :
    wpAny M A t (fun a s1 => Z a ∧ wpAny M A (u a) (fun c s' => Q a c s' ∧ Kept s s') (fun e s' => E e s' ∧ Kept s s') s1) (fun e s' => E e s' ∧ Kept s s') s := by
  intro Γ p hΓ
  have q := wp_gone M Γ s t _ _ p s (Gone.refl s) (wp_lk M Γ s.gens t _ _ p (still s) s (still_lk s) (h Γ p hΓ))
  refine Sem.wp_mono M Γ t (fun a p' s' hq => ?_) (fun a p' s' hq => ?_) p s q
  · obtain ⟨g, b, l, hz, hb⟩ := hq
    refine ⟨hz, ?_⟩
    intro Γ2 p2 hΓ2
    have q2 := wp_gone M Γ2 s (u a) _ _ p2 s' g (wp_lk M Γ2 s.gens (u a) _ _ p2 b s' l (hb Γ2 p2 hΓ2))
    refine Sem.wp_mono M Γ2 (u a) (fun c p3 s3 hq => ?_) (fun c p3 s3 hq => ?_) p2 s' q2
    · obtain ⟨g, b, l, hb⟩ := hq; exact ⟨hQ a _ b s3 c l hb, l.kept g⟩
    · obtain ⟨g, b, l, hb⟩ := hq; exact ⟨hE _ b s3 c l hb, l.kept g⟩
  · obtain ⟨g, b, l, hb⟩ := hq; exact ⟨hE _ b s' a l hb, l.kept g⟩
/-- a run may be told of the state as it is -/
theorem calm_wpAny {α : Type} {M : Model} {A : Around} {t : Value → Sem α} {Q : Value → α → Shared → Prop} {E : Value → Shared → Prop} (hQ : ∀ e, Calm (Q e)) (hE : Calm E) : Calm fun e s => wpAny M A (t e) (Q e) E s := by
  intro G b s e l h Γ p hΓ
  have q := wp_lk M Γ G (t e) _ _ p b s l (h Γ p hΓ)
  refine Sem.wp_mono M Γ (t e) (fun a p' s' hq => ?_) (fun a p' s' hq => ?_) p s q
  · obtain ⟨b, l, hb⟩ := hq; exact hQ e _ b s' a l hb
  · obtain ⟨b, l, hb⟩ := hq; exact hE _ b s' a l hb
end DL
namespace DL
open PySem PySem.Spec L2
open PyProof.Rows hiding St
mutual
def tt : D → Bool
  | .non => true
  | .bl _ => true
  | .int _ => true
  | .str _ => true
  | .tup ds => ttL ds
  | .ty _ => false
  | .fn _ => false
  | .fl _ => false
  | .kl _ => false
  | .ktp _ => false
  | .ztp _ => false
  | .fd _ => false
  | .exc _ _ => false
  | .loc _ => false
def ttL : List D → Bool
  | [] => true
  | d :: ds => tt d && ttL ds
end
/-- the tuples stand -/
def TF (u : HO) : Prop := (∃ xs, u = .tup xs) ∨ ∃ o v, u = .frz o v
def Tx (H H' : Hp) : Prop := ∀ a u, TF u → H a = some u → H' a = some u
theorem Tx.tup {H H' : Hp} (t : Tx H H') {a : Addr} {xs : List V} (e : H a = some (.tup xs)) : H' a = some (.tup xs) := t a _ (.inl ⟨_, rfl⟩) e
theorem Tx.frz {H H' : Hp} (t : Tx H H') {a : Addr} {o : Obj} {u : HO} (e : H a = some (.frz o u)) : H' a = some (.frz o u) := t a _ (.inr ⟨_, _, rfl⟩) e
theorem TF.ne {u : HO} (t : TF u) : ∀ φ, u ≠ .ext φ := fun φ z => by
  rcases t with ⟨xs, rfl⟩ | ⟨o, v, rfl⟩ <;> cases z
theorem Tx.refl (H : Hp) : Tx H H := fun _ _ _ e => e
theorem Tx.trans {H H1 H2 : Hp} (a : Tx H H1) (b : Tx H1 H2) : Tx H H2 := fun c u f e => b c u f (a c u f e)
section
variable {K : PySem.W.Frag} {ι : List Addr} {H H' : Hp}
mutual
theorem tt_move (hx : ∀ a xs, a ∉ ι → H a = some (.tup xs) → a ∉ ι' ∧ H' a = some (.tup xs)) (hf : ∀ a o u, H a = some (.frz o u) → H' a = some (.frz o u)) : ∀ (d : D) (v : V), tt d = true → RepV K ι H d v → RepV K ι' H' d v
  | .non, _, _, h => by rw [RepV] at h ⊢; exact h
  | .bl _, _, _, h => by rw [RepV] at h ⊢; exact h
  | .int _, _, _, h => by rw [RepV] at h ⊢; exact h
  | .str _, _, _, h => by rw [RepV] at h ⊢; exact h
  | .tup ds, _, t, h => by
    rw [RepV] at h ⊢
    rw [tt] at t
    obtain ⟨a, vs, e, q, r⟩ := h
    refine ⟨a, vs, e, ?_, tt_moveL hx hf ds vs t r⟩
    rcases q with ⟨n, q⟩ | ⟨o, q⟩ | q
    · exact .inl (hx a vs n q)
    · exact .inr (.inl ⟨o, hf a o _ q⟩)
    · exact .inr (.inr q)
  | .ty _, _, t, _ => by rw [tt] at t; cases t
  | .fn _, _, t, _ => by rw [tt] at t; cases t
  | .fl _, _, t, _ => by rw [tt] at t; cases t
  | .kl _, _, t, _ => by rw [tt] at t; cases t
  | .ktp _, _, t, _ => by rw [tt] at t; cases t
  | .ztp _, _, t, _ => by rw [tt] at t; cases t
  | .fd _, _, t, _ => by rw [tt] at t; cases t
  | .exc _ _, _, t, _ => by rw [tt] at t; cases t
  | .loc _, _, t, _ => by rw [tt] at t; cases t
theorem tt_moveL (hx : ∀ a xs, a ∉ ι → H a = some (.tup xs) → a ∉ ι' ∧ H' a = some (.tup xs)) (hf : ∀ a o u, H a = some (.frz o u) → H' a = some (.frz o u)) : ∀ (ds : List D) (vs : List V), ttL ds = true → RepL K ι H ds vs → RepL K ι' H' ds vs
  | [], _, _, h => by rw [RepL] at h ⊢; exact h
  | d :: ds, _, t, h => by
    rw [RepL] at h ⊢
    rw [ttL, Bool.and_eq_true] at t
    obtain ⟨v, r, e, a, b⟩ := h
    exact ⟨v, r, e, tt_move hx hf d v t.1 a, tt_moveL hx hf ds r t.2 b⟩
end
theorem tt_outL {d : List D} {v : List V} (t : ttL d = true) (r : RepL K ι H d v) : RepL K [] H d v := tt_moveL (fun a xs _ e => ⟨by simp, e⟩) (fun _ _ _ e => e) d v t r
theorem tt_grow {d : D} {v : V} (t : tt d = true) (x : Tx H H') (r : RepV K [] H d v) : RepV K [] H' d v := tt_move (fun a xs _ e => ⟨by simp, x.tup e⟩) (fun _ _ _ e => x.frz e) d v t r
theorem Sim.noTup {S : Sto} (s : Sim K ι H S) {a : Addr} {xs : List V} (e : H a = some (.tup xs)) : a ∉ ι := fun z => by
  obtain ⟨n, hn, rfl⟩ := List.mem_iff_getElem.mp z
  have hs : n < S.length := by rw [← s.len]; exact hn
  have := s.ob n ι[n] S[n] (List.getElem?_eq_some_iff.mpr ⟨hn, rfl⟩) (List.getElem?_eq_some_iff.mpr ⟨hs, rfl⟩)
  revert this
  cases S[n] with
  | lst ds => rintro ⟨vs, q, _⟩; rw [e] at q; cases q
  | ins C fs => rintro ⟨C', dx, vs, _, q, _⟩; rw [e] at q; cases q
  | dct ks => rintro ⟨vs, q, _⟩; rw [e] at q; cases q
  | dtt ks => rintro ⟨o, vs, q, _⟩; rw [e] at q; cases q
  | scr ds => rintro ⟨o, vs, q, _⟩; rw [e] at q; cases q
  | tpl ds => rintro ⟨o, vs, q, _⟩; rw [e] at q; cases q
  | dkt ks => rintro ⟨vs, q, _⟩; rw [e] at q; cases q
  | dkl ks => rintro ⟨o, vs, q, _⟩; rw [e] at q; cases q
theorem tt_in {S : Sto} {d : D} {v : V} (s : Sim K ι H S) (t : tt d = true) (r : RepV K [] H d v) : RepV K ι H d v := tt_move (fun a xs _ e => ⟨s.noTup e, e⟩) (fun _ _ _ e => e) d v t r
/-- all that stands stays -/
theorem Grow.all {ι : List Addr} (h : ∀ a o, H a = some o → H' a = some o) : Grow ι H ι H' := ⟨List.prefix_rfl, fun a o e _ => h a o e, fun _ z n => absurd z n, fun a od u e => h a _ e⟩
theorem Sim.all {S : Sto} (s : Sim K ι H S) (h : ∀ a o, H a = some o → H' a = some o) : Sim K ι H' S :=
  ⟨s.nd, s.len, fun n a o e1 e2 => by
    have q := s.ob n a o e1 e2
    obtain ⟨u, hu⟩ := q.some
    exact q.grow (Grow.all h) ((h a u hu).trans hu.symm)⟩
end
def ttE (ρ : Ev) : Prop := ∀ (i : Nat) d, ρ[i]? = some (some d) → tt d = true
theorem RepE.tx {K : PySem.W.Frag} {H H' : Hp} {σ : St} {ρ : Ev} (t : ttE ρ) (x : Tx H H') (h : RepE K [] H σ ρ) : RepE K [] H' σ ρ :=
  ⟨h.1, fun i d e => let ⟨v, e', r⟩ := h.2 i d e; ⟨v, e', tt_grow (t i d e) x r⟩⟩
def hcut (h : Heap) (L : Nat) : Heap := { h with objs := h.objs.extract 0 L }
theorem hcut_get {h : Heap} {L b : Nat} (hb : b < L) : (hcut h L).get? b = h.get? b := by
  have : (h.objs.extract 0 L)[b]? = h.objs[b]? := by
    rw [Array.getElem?_extract]
    by_cases hs : b < h.objs.size
    · rw [if_pos (by omega)]; simp
    · rw [if_neg (by omega), Array.getElem?_eq_none (by omega)]
  unfold Heap.get? hcut
  rw [this]
theorem hcut_some {h : Heap} {L b : Nat} {o : Obj} (e : (hcut h L).get? b = some o) : b < L ∧ h.get? b = some o := by
  have hs := Heap.lt_size e
  have hl : b < L := by
    have : (hcut h L).objs.size ≤ L := by show (h.objs.extract 0 L).size ≤ L; rw [Array.size_extract]; omega
    exact Nat.lt_of_lt_of_le hs this
  exact ⟨hl, by rw [← hcut_get hl]; exact e⟩
theorem hcut_size (h : Heap) (L : Nat) : (hcut h L).objs.size = min L h.objs.size := by
  show (h.objs.extract 0 L).size = _
  rw [Array.size_extract]; omega
open Classical in
/-- what the generator must not touch: the untracked young objects, as they are -/
noncomputable def gmark (L : Addr) (pv : List Addr) (H : Hp) (h : Heap) : Hp := fun b => match H b with
  | some u => some u
  | none => if L ≤ b ∧ b ∉ pv then (match h.get? b with
    | some o => some (.ext fun h' => h'.get? b = some o)
    | none => none) else none
theorem gmark_some {L : Addr} {pv : List Addr} {H : Hp} {h : Heap} {b : Addr} {u : HO} (e : H b = some u) : gmark L pv H h b = some u := by unfold gmark; rw [e]
theorem gmark_low {L : Addr} {pv : List Addr} {H : Hp} {h : Heap} {b : Addr} (e : H b = none) (hb : b < L) : gmark L pv H h b = none := by
  unfold gmark; rw [e]; dsimp only; rw [if_neg (fun z => absurd z.1 (Nat.not_le_of_lt hb))]
theorem gmark_pv {L : Addr} {pv : List Addr} {H : Hp} {h : Heap} {b : Addr} (e : H b = none) (hb : b ∈ pv) : gmark L pv H h b = none := by
  unfold gmark; rw [e]; dsimp only; rw [if_neg (fun z => z.2 hb)]
theorem gmark_ext {L : Addr} {pv : List Addr} {H : Hp} {h : Heap} {b : Addr} {o : Obj} (e : H b = none) (hb : L ≤ b) (hp : b ∉ pv) (ho : h.get? b = some o) : gmark L pv H h b = some (.ext fun h' => h'.get? b = some o) := by
  unfold gmark; rw [e]; dsimp only; rw [if_pos ⟨hb, hp⟩, ho]
theorem gmark_inv {L : Addr} {pv : List Addr} {H : Hp} {h : Heap} {b : Addr} {u : HO} (e : gmark L pv H h b = some u) : H b = some u ∨ (H b = none ∧ L ≤ b ∧ b ∉ pv ∧ ∃ o, h.get? b = some o ∧ u = .ext fun h' => h'.get? b = some o) := by
  unfold gmark at e
  cases q : H b with
  | some v => rw [q] at e; exact .inl e
  | none =>
    rw [q] at e
    dsimp only at e
    split at e
    · rename_i hh
      cases ho : h.get? b with
      | none => rw [ho] at e; cases e
      | some o => rw [ho] at e; cases e; exact .inr ⟨rfl, hh.1, hh.2, o, rfl, rfl⟩
    · cases e
open Classical in
noncomputable def gunmark (L : Addr) (pv : List Addr) (H : Hp) (h : Heap) (H' : Hp) : Hp := fun b => if H b = none ∧ L ≤ b ∧ b ∉ pv ∧ ∃ o, h.get? b = some o then none else H' b
/-- the generator's context while it runs for a consumer -/
noncomputable def gx (N : List Str) (env : Env) (X : Cx) (pv : List Addr) (H : Hp) (s : Shared) : Cx where
  prog := X.prog
  w := X.w
  K := X.K
  mg := X.mg
  base := X.base
  A := X.A.in1.deeper env
  N := N
  s_0 := { s with heap := hcut s.heap env.locals }
  H_0 := gmark env.locals pv H s.heap
  env := env
  outer := X.stack
  stack := env :: X.stack
  ex := []
  fn := fun _ => true
  calm := true
  pn := []
  xe := fun _ _ => False
/-- a frame of a generator def without cells -/
structure GEnv (N : List Str) (env : Env) : Prop where
  kind : env.scope.kind = .function
  glob : env.globals = mainGlobals
  blt : env.builtins = builtinsNs
  cells : ∀ x, env.cells.lookup x = none
  nocell : ∀ x, env.kindOf x ≠ some .cell ∧ env.kindOf x ≠ some .free
  frame : env.frame = some env.locals
/-- the consumer, seen from the generator -/
structure Cons (L : Addr) (X : Cx) : Prop where
  calm : X.calm = true
  fr : ∀ b ∈ frs X.stack, b < L
  bsz : X.base.objs.size ≤ L
/-- what the frame holds: the slots' values by the object -/
def Slots (N : List Str) (env : Env) (lo : Obj) (σ : St) : Prop := (∀ v, lo.data ≠ .cell v) ∧ σ.length = N.length ∧ ∃ m, (∀ h : Heap, h.get? env.locals = some lo → h.Ns env.locals m) ∧
  ∀ (i : Nat) (x : Str) (v : V), N[i]? = some x → σ[i]? = some (some v) → Vis env.scope x → ∃ u, RelV v u ∧ env.kindOf x = some .local ∧ m x = some u
section
variable {N : List Str} {env : Env} {X : Cx} {pins : List (Addr × Obj)} {σ σg : St} {H H' : Hp} {s s' : Shared} {pv : List Addr} {ip : List (Addr × Obj)}
theorem Slots.of (g : GEnv N env) (I : Inv (gx N env X pv H s) ip σg H' s') : ∃ lo, s'.heap.get? env.locals = some lo ∧ Slots N env lo σg := by
  obtain ⟨m, ⟨o, es, ep, ho, hd, hk, hm⟩, hl⟩ := I.loc
  refine ⟨o, ho, (fun v (z : o.data = .cell v) => by rw [hd] at z; cases z), I.len, m, fun h e => ⟨o, es, ep, e, hd, hk, hm⟩, fun i x v e1 e2 e3 => ?_⟩
  obtain ⟨u, r, l⟩ := hl i x v e1 e2 e3
  refine ⟨u, r, ?_⟩
  rcases l with l | ⟨k, _⟩
  · exact l
  · exact absurd k (fun k => k.elim (g.nocell x).1 (g.nocell x).2)
theorem stk_no (I : Inv X pins σ H s) {b : Addr} (h : FpOk X pins H b) : b ∉ frs X.stack := fun z => by
  rcases List.mem_cons.mp (I.stkSub b z) with e | e
  · exact h.2.1 e
  · exact h.2.2.1 e
/-- woken -/
theorem gwake {lo : Obj} (g : GEnv N env) (c : Cons env.locals X) (I : Inv X pins σ H s) (hl : s.heap.get? env.locals = some lo) (sl : Slots N env lo σg) (hL : FpOk X pins H env.locals) (hLp : env.locals ∈ pv)
    (hip : ∀ p ∈ ip, s.heap.get? p.1 = some p.2 ∧ (∀ v, p.2.data ≠ .cell v) ∧ FpOk X pins H p.1 ∧ p.1 ∈ pv ∧ p.1 ≠ env.locals) : Inv (gx N env X pv H s) ip σg (gmark env.locals pv H s.heap) s := by
  obtain ⟨_, len, m, ns, look⟩ := sl
  have nx : ∀ {b : Addr}, b ∉ ([] : List Addr) := fun z => by cases z
  have hsz : env.locals < s.heap.objs.size := Heap.lt_size hl
  refine ⟨⟨I.ok.mod, g.kind, g.glob, g.blt, ?_, fun x y d e => ?_, fun x e => ?_, fun x d _ e => ?_, fun _ => I.ok.hd c.calm, Around.frames_deeper I.ok.frames, .inr ⟨rfl, g.frame⟩, fun b z => absurd z nx, fun b o e => ?_, ?_, fun b _ _ => nx, fun b z => absurd z nx, ?_, fun b hb => ?_⟩,
    rfl, I.bare, ⟨fun b o e _ _ _ => (hcut_some e).2, fun b o e _ _ _ => ⟨o.slots, (hcut_some e).2⟩, fun b o _ e _ => e, fun b o e _ => ⟨o, (hcut_some e).2⟩, fun _ _ e => e, fun _ _ _ e => e, fun b ps e => ⟨#[], e.trans (by simp)⟩⟩,
    ⟨m, ns _ hl, fun i x v e1 e2 e3 => ?_⟩, fun x d e => ?_, gmark_pv hL.1 hLp, fun x d e => ?_, fun p hp => ?_, fun b u e => ?_, len⟩
  · show (hcut s.heap env.locals).objs.size ≤ env.locals
    rw [hcut_size]; omega
  · rw [show (gx N env X pv H s).env.cells.lookup x = none from g.cells x] at e; cases e
  · exact absurd e (fun z => z.elim (g.nocell x).1 (g.nocell x).2)
  · rw [show (gx N env X pv H s).env.cells.lookup x = none from g.cells x] at e; cases e
  · obtain ⟨q1, q2⟩ := I.bs b o e
    have hb : b < env.locals := Nat.lt_of_lt_of_le (Heap.lt_size e) c.bsz
    exact ⟨by show (hcut s.heap env.locals).get? b = _; rw [hcut_get hb]; exact q1, gmark_low q2 hb⟩
  · show X.base.objs.size ≤ (hcut s.heap env.locals).objs.size
    rw [hcut_size]
    have h1 : X.base.objs.size ≤ env.locals := c.bsz
    have h2 : env.locals < s.heap.objs.size := hsz
    exact Nat.le_min.mpr ⟨h1, Nat.le_of_lt (Nat.lt_of_le_of_lt h1 h2)⟩
  · have st := I.stack
    have all : ∀ (l : List Env), (∀ b ∈ frs l, b < env.locals) → s.heap.FunFrames X.base l → (hcut s.heap env.locals).FunFrames X.base l := by
      intro l
      induction l with
      | nil => intro _ _; trivial
      | cons e r ih =>
        intro hs hl
        obtain ⟨hk, ⟨L, o, hf, hn, ho, hd⟩, hr⟩ := hl
        have hb : L < env.locals := hs L (by unfold frs; rw [List.filterMap_cons, hf]; exact List.mem_cons_self)
        exact ⟨hk, ⟨L, o, hf, hn, by rw [hcut_get hb]; exact ho, hd⟩, ih (fun b hb => hs b (by unfold frs; rw [List.filterMap_cons, hf]; exact List.mem_cons_of_mem _ hb)) hr⟩
    exact all X.stack c.fr st
  · exact gmark_low (I.stkFree b hb) (c.fr b hb)
  · obtain ⟨u, r, k⟩ := look i x v e1 e2 e3
    exact ⟨u, r, .inl k⟩
  · rw [show (gx N env X pv H s).env.cells.lookup x = none from g.cells x] at e; cases e
  · rw [show (gx N env X pv H s).env.cells.lookup x = none from g.cells x] at e; cases e
  · have hp : p ∈ ip := by
      rcases List.mem_append.mp hp with z | z
      · cases z
      · exact z
    obtain ⟨q1, q2, q3, q4, q5⟩ := hip p hp
    exact ⟨q1, gmark_pv q3.1 q4, q5, stk_no I q3, q2⟩
  · rcases gmark_inv e with q | ⟨_, _, _, o, ho, rfl⟩
    · exact (I.hok b u q).stay (fun _ _ _ z => z) (fun _ z => gmark_some z) fun _ _ z => gmark_some z
    · exact ⟨ho, ⟨o, ho⟩, fun h1 h2 q z => z o q⟩
/-- the consumer, behind a turn of the generator -/
theorem gkeeps (I : Inv X pins σ H s) (hpv : ∀ b ∈ pv, FpOk X pins H b) (J : Inv (gx N env X pv H s) ip σg H' s') (G : ∀ a o, gmark env.locals pv H s.heap a = some o → H' a = some o) (fr : ∀ b ∈ frs X.stack, b < env.locals) :
    Inv X pins σ (gunmark env.locals pv H s.heap H') s' ∧ (∀ a o, H a = some o → gunmark env.locals pv H s.heap H' a = some o) ∧ Tx H' (gunmark env.locals pv H s.heap H') := by
  have keepH : ∀ a o, H a = some o → gunmark env.locals pv H s.heap H' a = some o := fun a o e => by
    unfold gunmark
    rw [if_neg (fun z => by rw [e] at z; cases z.1)]
    exact G a o (gmark_some e)
  have hmk : ∀ b o, H b = none → env.locals ≤ b → b ∉ pv → s.heap.get? b = some o → H' b = some (.ext fun h' => h'.get? b = some o) ∧ s'.heap.get? b = some o := fun b o h1 h2 h3 h4 => by
    have q := G b _ (gmark_ext h1 h2 h3 h4)
    exact ⟨q, (J.hok b _ q).1⟩
  have sub : ∀ b u, gunmark env.locals pv H s.heap H' b = some u → H' b = some u := fun b u e => by
    unfold gunmark at e
    split at e
    · cases e
    · exact e
  have up : ∀ b u, H' b = some u → (∀ φ, u ≠ .ext φ) → gunmark env.locals pv H s.heap H' b = some u := fun b u e hne => by
    unfold gunmark
    split
    · rename_i hh
      obtain ⟨h1, h2, h3, o, h4⟩ := hh
      rw [(hmk b o h1 h2 h3 h4).1] at e
      cases e
      exact absurd rfl (hne _)
    · exact e
  have cutg : ∀ b o, b < env.locals → s.heap.get? b = some o → (gx N env X pv H s).s_0.heap.get? b = some o := fun b o hb e => by
    show (hcut s.heap env.locals).get? b = _
    rw [hcut_get hb]; exact e
  have nx : ∀ {b : Addr}, b ∉ (gx N env X pv H s).ex := fun z => by cases z
  refine ⟨I.call' (ch := pv) J.os ⟨fun b o e n hf hb => ?_, fun b o e n hf hb => ?_, fun b o e n hb => ?_, fun b o e hb => ?_, fun b xs e => keepH b _ e, fun b o u e => keepH b _ e, fun b ps e => ⟨#[], by rw [keepH b _ e]; simp⟩⟩ (fun b u e => ?_) J.bare (fun b hb => ?_), keepH, fun b u f e => up b _ e f.ne⟩
  · by_cases hL : b < env.locals
    · exact J.base.keep b o (cutg b o hL e) (gmark_low n hL) hf nx
    · exact (hmk b o n (Nat.le_of_not_lt hL) hb e).2
  · by_cases hL : b < env.locals
    · exact J.base.slot b o (cutg b o hL e) (gmark_low n hL) hf nx
    · exact ⟨o.slots, (hmk b o n (Nat.le_of_not_lt hL) hb e).2⟩
  · by_cases hL : b < env.locals
    · have q := J.base.free b o (cutg b o hL e) (gmark_low n hL) nx
      unfold gunmark
      split
      · rfl
      · exact q
    · unfold gunmark
      rw [if_pos ⟨n, Nat.le_of_not_lt hL, hb, o, e⟩]
  · by_cases hL : b < env.locals
    · exact J.base.there b o (cutg b o hL e) nx
    · cases q : H b with
      | none => exact ⟨o, (hmk b o q (Nat.le_of_not_lt hL) hb e).2⟩
      | some u =>
        have q2 := J.hok b u (G b u (gmark_some q))
        have : b < s'.heap.objs.size := q2.lt
        revert q2
        cases u with
        | lst xs => rintro ⟨_, _, _, _, z⟩; exact ⟨_, z⟩
        | tup xs => rintro ⟨_, _, _, ob, z, _⟩; exact ⟨_, z⟩
        | dK kvs => rintro ⟨_, _, _, _, ob, _, _, z, _⟩; exact ⟨_, z⟩
        | dT kvs => rintro ⟨_, _, _, _, ob, _, _, z, _⟩; exact ⟨_, z⟩
        | set S n => rintro ⟨ob, _, _, _, z, _⟩; exact ⟨_, z⟩
        | ins C dx fs => rintro ⟨_, _, _, z, _⟩; exact ⟨_, z⟩
        | own y => rintro ⟨_, z⟩; exact ⟨_, z⟩
        | xd fs => rintro ⟨_, ⟨_, _, _, z, _⟩, _⟩; exact ⟨_, z⟩
        | rng lo hi => rintro ⟨_, _, _, z⟩; exact ⟨_, z⟩
        | frz ob u => rintro ⟨z, _⟩; exact ⟨_, z⟩
        | tbl ps => exact fun z => ⟨_, z⟩
        | met f y => exact fun z => ⟨_, z⟩
        | ext φ => rintro ⟨_, ⟨_, z⟩, _⟩; exact ⟨_, z⟩
  · exact (J.hok b u (sub b u e)).stay (fun _ _ _ z => z) (fun c z => up c _ z fun φ q => by cases q) fun c xs z => up c _ z fun φ q => by cases q
  · obtain ⟨_, h2, h3, h4, h5, h6⟩ := hpv b hb
    exact ⟨h4, h2, h5, h6⟩
end
end DL
namespace DL
open PySem L2
open PyProof.Rows hiding St
open Sem (wp)
/-- one stretch of a run, up to its end or to what it hands out -/
def Sg (M : Model) (A : Around) (Φ : End → Shared → Prop) (c : Code) (t : Sem PySem.Fin) (fs : List Frame) (s : Shared) : Prop :=
  ∀ Γ p, Γ.code = c → Γ.Woken A → ∃ e s', Runs M Γ p t fs s e s' ∧ Φ e s'
section
variable {M : Model} {A : Around} {Φ : End → Shared → Prop} {c : Code} {fs : List Frame} {s : Shared}
theorem sg_wrap {α : Type} {m : Sem α} {k : α → Sem PySem.Fin} {j : Value → Sem PySem.Fin} {gd : Bool → Bool} {lv : List Value → List Value}
    (h : wpAny M (A.over c fs) m (fun a s1 => Sg M A Φ c (k a) fs s1) (fun x s1 => Sg M A Φ c (j x) fs s1) s) : Sg M A Φ c (m.wrap k j gd lv) fs s := by
  intro Γ p hc hw
  subst hc
  exact runs_wrap_of_wp k j gd lv m (h _ p (hw.over fs)) (fun a q s1 z => z Γ q rfl hw) fun a q s1 z => z Γ q rfl hw
theorem sg_bindw {α β : Type} {m : Sem α} {f : α → Sem β} {k : β → Sem PySem.Fin} {j : Value → Sem PySem.Fin} {gd : Bool → Bool} {lv : List Value → List Value}
    (h : wpAny M (A.over c fs) m (fun a s1 => Sg M A Φ c ((f a).wrap k j gd lv) fs s1) (fun x s1 => Sg M A Φ c (j x) fs s1) s) : Sg M A Φ c ((m >>= f).wrap k j gd lv) fs s := by
  rw [show (m >>= f) = m.wrap f .raise id id from Sem.bind_eq_wrap m f, Sem.wrap_wrap]
  exact sg_wrap h
theorem sg_at {q : Pos} {k : Unit → Sem PySem.Fin} (h : Sg M A Φ c (k ()) fs s) : Sg M A Φ c (.at q k) fs s :=
  sg_wrap (m := standAt q) (k := k) (j := .raise) (gd := id) (lv := id) (wpAny_standAt h)
theorem sg_call {d : Code} {hd : Option Value} {g : Bool} {l : List Value} {k : Result → Sem PySem.Fin} (h : ∀ p, Sg M A Φ d (M.den d) (.ret k hd g l c p [] :: fs) s) : Sg M A Φ c (.call d hd g l k) fs s := by
  intro Γ p hc hw
  subst hc
  obtain ⟨e, s1, r, z⟩ := h p (Γ.goto d) p rfl (hw.goto d)
  exact ⟨e, s1, runs_call_seg r, z⟩
theorem sg_leaf {k : Result → Sem PySem.Fin} {hd : Option Value} {g : Bool} {l kp : List Value} {d : Code} {q : Pos} (r : Result) (h : Sg M A Φ d (k r) fs s) : Sg M A Φ c (leafOf r) (.ret k hd g l d q kp :: fs) s := by
  intro Γ p hc hw
  subst hc
  obtain ⟨e, s1, z1, z2⟩ := h (Γ.goto d) q rfl (hw.goto d)
  exact ⟨e, s1, Runs.pop r z1, z2⟩
theorem sg_again {d : Code} (hq : d.quiet = true) (h : Sg M A Φ d (M.den d) fs s) : Sg M A Φ c (.pure (.again d)) fs s := by
  intro Γ p hc hw
  subst hc
  obtain ⟨e, s1, z1, z2⟩ := h (Γ.goto d) p rfl (hw.goto d)
  exact ⟨e, s1, Runs.head (c₁ := d) (fun _ _ z => .again hq z) z1, z2⟩
theorem sg_end (r : Result) (h : Φ (.ret r) s) : Sg M A Φ c (leafOf r) [] s := fun Γ p hc hw => by
  subst hc
  exact ⟨.ret r, s, Runs.leaf r, h⟩
theorem sg_yield {v : Value} {g : Bool} {l : List Value} {k : Resume → Sem PySem.Fin} (hs : splitAtGen fs = none) (h : ∀ p, Φ (.susp v g l k c p fs) s) : Sg M A Φ c (.yield v g l k) fs s := by
  intro Γ p hc hw
  subst hc
  exact ⟨_, s, Runs.yield' fs hs, h p⟩
theorem Sg.mono {Ψ : End → Shared → Prop} {t : Sem PySem.Fin} (h : Sg M A Φ c t fs s) (i : ∀ e s1, Φ e s1 → Ψ e s1) : Sg M A Ψ c t fs s := fun Γ p hc hw => by
  obtain ⟨e, s1, z1, z2⟩ := h Γ p hc hw
  exact ⟨e, s1, z1, i e s1 z2⟩
end
section
variable {X : Cx} {pins : List (Addr × Obj)} {σ : St} {H : Hp} {s : Shared}
theorem inv_lk {G : Array GenState} {b : Shared} (I : Inv X pins σ H b) (l : SLk G b s) : Inv X pins σ H s := by
  have hb := l.bare I.bare
  rw [l.eq]
  exact ⟨I.ok, I.os, hb, I.base, I.loc, I.cell, I.free, I.freeC, I.pin, I.hok, I.len⟩
theorem inv_still (I : Inv X pins σ H s) : Inv X pins σ H (still s) := ⟨I.ok, I.os, still_bare I.bare, I.base, I.loc, I.cell, I.free, I.freeC, I.pin, I.hok, I.len⟩
theorem calm_ep {Q : VK} : Calm (EP X pins σ Q) := fun G b s a l ⟨v, H', I, r, q⟩ => ⟨v, H', inv_lk I l, r, q⟩
theorem calm_sp {E : Ends} : Calm (SP X pins E) := fun G b s f l h => by
  cases f with
  | next => obtain ⟨σ', H', I, q⟩ := h; exact ⟨σ', H', inv_lk I l, q⟩
  | brk => obtain ⟨σ', H', I, q⟩ := h; exact ⟨σ', H', inv_lk I l, q⟩
  | cont => obtain ⟨σ', H', I, q⟩ := h; exact ⟨σ', H', inv_lk I l, q⟩
  | ret u => obtain ⟨v, σ', H', I, r, q⟩ := h; exact ⟨v, σ', H', inv_lk I l, r, q⟩
theorem pe_kept {e : Expr} {t : TE} {Q : VK} (hx : Calm X.xe) (h : PE X e t) (I : Inv X pins σ H s) (q : t σ H Q) : wpAny (model X.prog X.w) X.A (eval e X.env) (fun u s' => EP X pins σ Q u s' ∧ Kept s s') (fun e s' => X.xe e s' ∧ Kept s s') s :=
  wpAny_kept calm_ep hx (h.run pins (still s) σ H Q (inv_still I) q)
theorem pss_kept {st : List Stmt} {t : TS} {E : Ends} (hx : Calm X.xe) (h : PSs X st t) (I : Inv X pins σ H s) (q : t E σ H) : wpAny (model X.prog X.w) X.A (execs st X.env) (fun u s' => SP X pins E u s' ∧ Kept s s') (fun e s' => X.xe e s' ∧ Kept s s') s :=
  wpAny_kept calm_sp hx (h.run pins (still s) σ H E (inv_still I) q)
theorem pg_kept {tg : Expr} {g : TG} {v : V} {u : Value} {Q : St → Hp → Prop} (hx : Calm X.xe) (h : PG X tg g) (I : Inv X pins σ H s) (r : RelV v u) (q : g v σ H Q) :
    wpAny (model X.prog X.w) X.A (assign tg X.env u) (fun _ s' => (∃ σ' H', Inv X pins σ' H' s' ∧ Q σ' H') ∧ Kept s s') (fun e s' => X.xe e s' ∧ Kept s s') s :=
  wpAny_kept (Q := fun _ s' => ∃ σ' H', Inv X pins σ' H' s' ∧ Q σ' H') (fun G b s _ l ⟨σ', H', I, z⟩ => ⟨σ', H', inv_lk I l, z⟩) hx (h.run pins (still s) σ H v u Q (inv_still I) r q)
theorem calm_no : Calm (fun (_ : Value) (_ : Shared) => False) := fun _ _ _ _ _ h => h
end
def OfP (P : Program) (w : World) (K : PySem.W.Frag) (mg : Str → Option Value) (base : Heap) (X : Cx) : Prop := X.prog = P ∧ X.w = w ∧ X.K = K ∧ X.mg = mg ∧ X.base = base
/-- who wakes the generator, and where things stand then -/
structure Rs where
  X : Cx
  pins : List (Addr × Obj)
  σ : St
  H : Hp
  s : Shared
  pv : List Addr
section
variable (P : Program) (w : World) (K : PySem.W.Frag) (mg : Str → Option Value) (base : Heap) (k : Nat) (N : List Str) (env : Env)
structure RsOk (γ : Rs) : Prop where
  of : OfP P w K mg base γ.X
  room : Room (k + 2) γ.X.A
  cons : Cons env.locals γ.X
  inv : Inv γ.X γ.pins γ.σ γ.H γ.s
  pv : ∀ b ∈ γ.pv, FpOk γ.X γ.pins γ.H b
  loc : env.locals ∈ γ.pv
  lt : env.locals < γ.s.heap.objs.size
/-- what the generator has while it sleeps: objects, generators -/
structure PvOk (γ : Rs) (pvp : List (Addr × Obj)) (gs : List (Nat × GenState)) (H2 : Hp) (s' : Shared) : Prop where
  obj : ∀ p ∈ pvp, s'.heap.get? p.1 = some p.2 ∧ (∀ v, p.2.data ≠ .cell v) ∧ FpOk γ.X γ.pins H2 p.1
  gen : ∀ q ∈ gs, s'.gens[q.1]? = some q.2 ∧ asleep q.2 = true
  loc : env.locals ∈ pvp.map (·.1)
/-- xs is what comes from here on -/
def Goal (ga : (Addr × Obj) × Nat) : List D → Rs → End → Shared → Prop
  | [], γ, .ret r, s' => r = .ok (.ret .none) ∧ ∃ H2, Inv γ.X γ.pins γ.σ H2 s' ∧ ∀ a o, γ.H a = some o → H2 a = some o
  | x :: xs, γ, .susp v gd l kk c p fs, s' => (End.susp v gd l kk c p fs).quiet = true ∧ tt x = true ∧ ∃ (vv : V) (H2 : Hp) (pvp : List (Addr × Obj)) (gs : List (Nat × GenState)), RelV vv v ∧ Inv γ.X γ.pins γ.σ H2 s' ∧ (∀ a o, γ.H a = some o → H2 a = some o) ∧ RepV K [] H2 x vv ∧
      PvOk env γ pvp gs H2 s' ∧ (ga.1 ∈ pvp ∧ ∀ q ∈ gs, q.1 ≠ ga.2) ∧
      ∀ γ' : Rs, RsOk P w K mg base k env γ' → Tx H2 γ'.H → γ'.pv = pvp.map (·.1) → (∀ p ∈ pvp, γ'.s.heap.get? p.1 = some p.2) → (∀ q ∈ gs, γ'.s.gens[q.1]? = some q.2) →
        Sg (model P w) γ'.X.A.in1 (Goal ga xs γ') c (kk (.send .none)) fs γ'.s
  | _, _, _, _ => False
/-- inside a turn -/
structure GRun (γ : Rs) (ip : List (Addr × Obj)) (ig : List (Nat × GenState)) (ρ : Ev) (Ht : Hp) (s' : Shared) : Prop where
  ex : ∃ σg H', Inv (gx N env γ.X γ.pv γ.H γ.s) ip σg H' s' ∧ (∀ a o, gmark env.locals γ.pv γ.H γ.s.heap a = some o → H' a = some o) ∧ RepE K [] H' σg ρ ∧ Tx Ht H'
  tt : ttE ρ
  ips : ∀ p ∈ ip, p.1 ∈ γ.pv ∨ γ.s.heap.objs.size ≤ p.1
  igs : ∀ q ∈ ig, s'.gens[q.1]? = some q.2 ∧ asleep q.2 = true
  gone : Gone γ.s s'
/-- where the code stands -/
structure GPos (c : Code) (fs : List Frame) (gd : Bool → Bool) : Prop where
  over : ∀ A : Around, A.over c fs = A.deeper env
  split : splitAtGen fs = none
  guard : fs.any Frame.guarded = false
  gd : gd false = false
/-- what a statement of a generator hands out, and the slots behind it -/
abbrev GM := Ev → List D → Ev → Prop
/-- the generator's object and number -/
def GaOk (ga : (Addr × Obj) × Nat) (ip : List (Addr × Obj)) (ig : List (Nat × GenState)) : Prop := ga.1 ∈ ip ∧ ∀ q ∈ ig, q.1 ≠ ga.2
def GS (ga : (Addr × Obj) × Nat) (st : Stmt) (B : GM) : Prop := ∀ (γ : Rs) (ip : List (Addr × Obj)) (ig : List (Nat × GenState)) (ρ : Ev) (ys : List D) (ρ' : Ev) (Ht : Hp) (rest : List D) (c : Code) (fs : List Frame) (kk : Flow → Sem PySem.Fin) (jj : Value → Sem PySem.Fin) (gd : Bool → Bool) (lv : List Value → List Value) (s : Shared),
  RsOk P w K mg base k env γ → GaOk ga ip ig → GPos env c fs gd → GRun K N env γ ip ig ρ Ht s → B ρ ys ρ' →
  (∀ γ' s', RsOk P w K mg base k env γ' → GRun K N env γ' ip ig ρ' Ht s' → Sg (model P w) γ'.X.A.in1 (Goal P w K mg base k env ga rest γ') c (kk .next) fs s') →
  Sg (model P w) γ.X.A.in1 (Goal P w K mg base k env ga (ys ++ rest) γ) c ((exec st env).wrap kk jj gd lv) fs s
def GSs (ga : (Addr × Obj) × Nat) (st : List Stmt) (B : GM) : Prop := ∀ (γ : Rs) (ip : List (Addr × Obj)) (ig : List (Nat × GenState)) (ρ : Ev) (ys : List D) (ρ' : Ev) (Ht : Hp) (rest : List D) (c : Code) (fs : List Frame) (kk : Flow → Sem PySem.Fin) (jj : Value → Sem PySem.Fin) (gd : Bool → Bool) (lv : List Value → List Value) (s : Shared),
  RsOk P w K mg base k env γ → GaOk ga ip ig → GPos env c fs gd → GRun K N env γ ip ig ρ Ht s → B ρ ys ρ' →
  (∀ γ' s', RsOk P w K mg base k env γ' → GRun K N env γ' ip ig ρ' Ht s' → Sg (model P w) γ'.X.A.in1 (Goal P w K mg base k env ga rest γ') c (kk .next) fs s') →
  Sg (model P w) γ.X.A.in1 (Goal P w K mg base k env ga (ys ++ rest) γ) c ((execs st env).wrap kk jj gd lv) fs s
/-- an expression in the generator's frame, whoever wakes it -/
def GDE (e : Expr) (f : Ev → Sto → R D) : Prop := ∀ (X : Cx) (pv : List Addr) (H : Hp) (s : Shared), OfP P w K mg base X → Room k (X.A.in1.deeper env) → DE (gx N env X pv H s) W0 e f
end
section
variable {P : Program} {w : World} {K : PySem.W.Frag} {mg : Str → Option Value} {base : Heap} {k : Nat} {N : List Str} {env : Env} {ga : (Addr × Obj) × Nat} {st : Stmt} {rest : List Stmt}
def gNil : GM := fun ρ ys ρ' => ys = [] ∧ ρ' = ρ
theorem gss_one {A : GM} (h1 : GS P w K mg base k N env ga st A) : GSs P w K mg base k N env ga [st] A := by
  intro γ ip ig ρ ys ρ' Ht r2 c fs kk jj gd lv s hγ hga hp hr hB h
  rw [execs_cons_wrap]
  exact h1 γ ip ig ρ ys ρ' Ht r2 c fs _ jj gd lv s hγ hga hp hr hB fun γ' s' hγ' hr' => h γ' s' hγ' hr'
/-- the room inside -/
theorem RsOk.inner {γ : Rs} (h : RsOk P w K mg base k env γ) : Room k (γ.X.A.in1.deeper env) := (h.room.in1).deeper env
/-- an expression's value, in a turn -/
theorem gde_run {e : Expr} {f : Ev → Sto → R D} {γ : Rs} {ip : List (Addr × Obj)} {ig : List (Nat × GenState)} {ρ : Ev} {Ht : Hp} {s : Shared} {d : D} {Q : Value → Shared → Prop} {E : Value → Shared → Prop} (he : GDE P w K mg base k N env e f) (hγ : RsOk P w K mg base k env γ) (hr : GRun K N env γ ip ig ρ Ht s) (hf : f ρ [] = .ok d [])
    (h : ∀ u v σg H' s', Inv (gx N env γ.X γ.pv γ.H γ.s) ip σg H' s' → (∀ a o, gmark env.locals γ.pv γ.H γ.s.heap a = some o → H' a = some o) → RepE K [] H' σg ρ → Tx Ht H' → (∀ q ∈ ig, s'.gens[q.1]? = some q.2 ∧ asleep q.2 = true) → Gone γ.s s' → RelV v u → RepV K [] H' d v → Q u s') :
    wpAny (model P w) (γ.X.A.in1.deeper env) (eval e env) Q E s := by
  obtain ⟨σg, H', I, G, rE, hfl⟩ := hr.ex
  have hof := hγ.of
  obtain ⟨e1, e2, e3, e4, e5⟩ := hγ.of
  have key := pe_kept (X := gx N env γ.X γ.pv γ.H γ.s) (Q := fun v H'' => (∀ a o, H' a = some o → H'' a = some o) ∧ RepV K [] H'' d v) calm_no (he γ.X γ.pv γ.H γ.s hof hγ.inner) I ⟨[], ρ, [], by rw [show (gx N env γ.X γ.pv γ.H γ.s).K = K from e3]; exact rE, ⟨List.nodup_nil, rfl, fun n a o z => by simp at z⟩, by
    rw [hf]
    intro ι' H'' Gw Sm v rv
    have hn : ι' = [] := List.length_eq_zero_iff.mp Sm.len
    subst hn
    rw [show (gx N env γ.X γ.pv γ.H γ.s).K = K from e3] at rv
    exact ⟨fun a o z => Gw.keep a o z (by simp), rv⟩⟩
  have key2 : wpAny (model γ.X.prog γ.X.w) (γ.X.A.in1.deeper env) (eval e env) _ _ s := key
  rw [e1, e2] at key2
  refine wpAny_mono key2 (fun u s' ⟨⟨v, H'', I', rv, hk, rd⟩, kp⟩ => ?_) fun x s' z => z.1.elim
  refine h u v σg H'' s' I' (fun a o z => hk a o (G a o z)) (rE.tx hr.tt fun a u _ z => hk a u z) (hfl.trans fun a u _ z => hk a u z) (fun q hq => ?_) (hr.gone.trans kp.gone) rv rd
  obtain ⟨z1, z2⟩ := hr.igs q hq
  exact ⟨kp.gen _ _ z1 z2, z2⟩
end
end DL
namespace DL
open PySem L2
open PyProof.Rows hiding St
open Sem (wp)
section
variable {P : Program} {w : World} {K : PySem.W.Frag} {mg : Str → Option Value} {base : Heap} {k : Nat} {N : List Str} {env : Env} {ga : (Addr × Obj) × Nat}
theorem gunmark_none {L : Addr} {pv : List Addr} {H H' : Hp} {h : Heap} {b : Addr} (e : H' b = none) : gunmark L pv H h H' b = none := by
  unfold gunmark; split
  · rfl
  · exact e
/-- a generator goes to sleep -/
theorem gsleep {γ : Rs} {ip : List (Addr × Obj)} {ig : List (Nat × GenState)} {ρ : Ev} {s' : Shared} {σg : St} {H' Ht : Hp} {d : D} {vv : V} {u : Value} {rest : List D} {gd : Bool} {l : List Value} {kk : Resume → Sem PySem.Fin} {c : Code} {p : Pos} {fs : List Frame}
    (g : GEnv N env) (hγ : RsOk P w K mg base k env γ) (hga : GaOk ga ip ig) (I : Inv (gx N env γ.X γ.pv γ.H γ.s) ip σg H' s') (G : ∀ a o, gmark env.locals γ.pv γ.H γ.s.heap a = some o → H' a = some o) (rE : RepE K [] H' σg ρ) (hfl : Tx Ht H') (tρ : ttE ρ) (ips : ∀ p ∈ ip, p.1 ∈ γ.pv ∨ γ.s.heap.objs.size ≤ p.1)
    (igs : ∀ q ∈ ig, s'.gens[q.1]? = some q.2 ∧ asleep q.2 = true) (rv : RelV vv u) (rd : RepV K [] H' d vv) (td : tt d = true) (hq : (End.susp u gd l kk c p fs).quiet = true)
    (hk : ∀ γ' s'', RsOk P w K mg base k env γ' → GRun K N env γ' ip ig ρ Ht s'' → Sg (model P w) γ'.X.A.in1 (Goal P w K mg base k env ga rest γ') c (kk (.send .none)) fs s'') : Goal P w K mg base k env ga (d :: rest) γ (.susp u gd l kk c p fs) s' := by
  obtain ⟨lo, hlo, sl⟩ := Slots.of g I
  obtain ⟨I2, hsub, htx⟩ := gkeeps hγ.inv hγ.pv I G hγ.cons.fr
  have hpin : ∀ p ∈ ip, s'.heap.get? p.1 = some p.2 ∧ H' p.1 = none ∧ p.1 ≠ env.locals ∧ ∀ v, p.2.data ≠ .cell v := fun p hp => by
    obtain ⟨h1, h2, h3, _, h5⟩ := I.pin p (List.mem_append_right _ hp)
    exact ⟨h1, h2, h3, h5⟩
  refine ⟨hq, td, vv, gunmark env.locals γ.pv γ.H γ.s.heap H', (env.locals, lo) :: ip, ig, rv, I2, hsub, tt_grow td htx rd, ⟨fun p hp => ?_, igs, by simp⟩, ⟨List.mem_cons_of_mem _ hga.1, hga.2⟩, fun γ' hγ' tx hpv hobj hgen => ?_⟩
  · rcases List.mem_cons.mp hp with rfl | hp
    · exact ⟨hlo, sl.1, gunmark_none I.free, (hγ.pv _ hγ.loc).2⟩
    · obtain ⟨h1, h2, h3, h4⟩ := hpin p hp
      refine ⟨h1, h4, ?_⟩
      rcases ips p hp with z | z
      · exact ⟨gunmark_none h2, (hγ.pv _ z).2⟩
      · exact hγ.inv.fpOk z (gunmark_none h2)
  · have mem : ∀ p ∈ ip, p.1 ∈ γ'.pv := fun p hp => by rw [hpv]; exact List.mem_cons_of_mem _ (List.mem_map_of_mem hp)
    refine hk γ' γ'.s hγ' ⟨⟨σg, gmark env.locals γ'.pv γ'.H γ'.s.heap, gwake g hγ'.cons hγ'.inv (hobj (env.locals, lo) List.mem_cons_self) sl (hγ'.pv _ hγ'.loc) hγ'.loc (fun p hp => ?_), fun _ _ z => z, ?_, ?_⟩, tρ, fun p hp => .inl (mem p hp), fun q hq => ⟨hgen q hq, (igs q hq).2⟩, Gone.refl _⟩
    · obtain ⟨h1, h2, h3, h4⟩ := hpin p hp
      exact ⟨hobj p (List.mem_cons_of_mem _ hp), h4, hγ'.pv _ (mem p hp), mem p hp, h3⟩
    · exact rE.tx tρ ((htx.trans tx).trans fun a u _ z => gmark_some z)
    · exact hfl.trans ((htx.trans tx).trans fun a u _ z => gmark_some z)
def gYield (f : Ev → Sto → R D) : GM := fun ρ ys ρ' => ρ' = ρ ∧ ∃ d, ys = [d] ∧ tt d = true ∧ f ρ [] = .ok d []
theorem gs_yield {e : Expr} {f : Ev → Sto → R D} {yp pos : Pos} (g : GEnv N env) (he : GDE P w K mg base k N env e f) (hco : env.scope.isCoroutine = false := by rfl) (hi : interactive env = false := by rfl) :
    GS P w K mg base k N env ga (.Expr (.Yield (some e) yp) pos) (gYield f) := by
  intro γ ip ig ρ ys ρ' Ht rest c fs kk jj gd lv s hγ hga hp hr hB h
  obtain ⟨rfl, d, rfl, td, hf⟩ := hB
  rw [exec_Expr env _ pos hi rfl]
  show Sg _ _ _ c (.at pos fun _ => ((eval e env >>= fun v => (standAt yp >>= fun _ => yieldOut env v)) >>= fun x => dropValue (.Yield (some e) yp) pos x).wrap kk jj gd lv) fs s
  have hy : ∀ v, yieldOut env v = yieldValue v := fun v => by simp only [yieldOut, hco, Bool.false_eq_true, if_false]
  simp only [hy]
  refine sg_at ?_
  rw [Sem.bind_eq_wrap', Sem.bind_eq_wrap', Sem.wrap_wrap, Sem.wrap_wrap]
  refine sg_wrap ?_
  rw [hp.over]
  refine gde_run he hγ hr hf fun u v σg H' s' I G rE hfl igs gone rv rd => ?_
  refine sg_at (sg_yield hp.split fun p => ?_)
  refine gsleep g hγ hga I G rE hfl hr.tt hr.ips igs rv rd td ?_ fun γ' s'' hγ' hr' => ?_
  · have hg : gd false = false := hp.gd
    show (!(gd false || fs.any Frame.guarded)) = true
    rw [hg, hp.guard]; rfl
  · exact h γ' s'' hγ' hr'
def gLoop (T : Tg) (B : GM) : List D → GM
  | [] => gNil
  | d :: ds => fun ρ ys ρ' => ∃ ρ1 y1 ρ2 y2, T d ρ [] = some (ρ1, []) ∧ ttE ρ1 ∧ B ρ1 y1 ρ2 ∧ gLoop T B ds ρ2 y2 ρ' ∧ ys = y1 ++ y2
def GDG (P : Program) (w : World) (K : PySem.W.Frag) (mg : Str → Option Value) (base : Heap) (k : Nat) (N : List Str) (env : Env) (e : Expr) (T : Tg) : Prop := ∀ (X : Cx) (pv : List Addr) (H : Hp) (s : Shared), OfP P w K mg base X → Room k (X.A.in1.deeper env) → DG (gx N env X pv H s) e T
theorem gpos_loop {c c' : Code} {fs : List Frame} {gd : Bool → Bool} {kr : Result → Sem PySem.Fin} {l kp : List Value} {p : Pos} (g : GPos env c fs gd) (hw : c'.weight = 0) (hu : c'.cUnits = 0) : GPos env c' (.ret kr none (gd false) l c p kp :: fs) id where
  over := fun A => (GenW.over_loop hw hu).trans (g.over A)
  split := by
    show Option.map _ (splitAtGen fs) = none
    rw [g.split]; rfl
  guard := by
    show (gd false || fs.any Frame.guarded) = false
    rw [g.gd, g.guard]; rfl
  gd := rfl
/-- what a loop's code answers to an exception -/
def upNote (env : Env) (x : Value) : Sem Unit := do noteFrame x env; theTreesLotGoes x
/-- one turn of a for loop -/
theorem sg_forLoop {A : Around} {Φ : End → Shared → Prop} {tg : Expr} {it : Value} {body orelse : List Stmt} {fs : List Frame} {s : Shared}
    (h : wpAny (model P w) (A.over (.forLoop tg it body orelse env) fs) (pyNext it) (fun r s1 => match r with
      | none => Sg (model P w) A Φ (.forLoop tg it body orelse env) (.pure (.again (.block orelse env))) fs s1
      | some v => wpAny (model P w) (A.over (.forLoop tg it body orelse env) fs) (letOwnedTupleGo tg it v) (fun _ s2 => wpAny (model P w) (A.over (.forLoop tg it body orelse env) fs) (assign tg env v) (fun _ s3 =>
          ∀ kk jj, kk .next = .pure (.again (.forLoop tg it body orelse env)) → Sg (model P w) A Φ (.forLoop tg it body orelse env) ((execs body env).wrap kk jj id id) fs s3) (fun _ _ => False) s2) (fun _ _ => False) s1) (fun _ _ => False) s) :
    Sg (model P w) A Φ (.forLoop tg it body orelse env) ((model P w).den (.forLoop tg it body orelse env)) fs s := by
  show Sg _ A Φ _ ((forTurn tg it body orelse env).onRaise (upNote env)) fs s
  unfold forTurn
  rw [Sem.onRaise_eq_wrap]
  refine sg_bindw (wpAny_standAt ?_)
  refine sg_bindw (wpAny_onRaise (wpAny_mono h (fun r s1 h1 => ?_) fun _ _ z => z.elim))
  cases r with
  | none => exact h1
  | some v =>
    refine sg_bindw (wpAny_mono h1 (fun _ s2 h2 => ?_) fun _ _ z => z.elim)
    refine sg_bindw (wpAny_mono h2 (fun _ s3 h3 => ?_) fun _ _ z => z.elim)
    show Sg _ A Φ _ (Sem.wrap _ _ _ _ (execs body env >>= _)) fs s3
    rw [Sem.bind_eq_wrap', Sem.wrap_wrap]
    exact h3 _ _ rfl
end
end DL
namespace DL
open PySem L2
open PyProof.Rows hiding St
open Sem (wp)
/-- the items, as long as the tuples stand -/
def ItT (K : PySem.W.Frag) (J : It) (H : Hp) (ds : List D) : Prop := ∀ H1, Tx H H1 →
  (∀ i, ds.length ≤ i → J.stop i H1) ∧ ∀ i d, ds[i]? = some d → J.go i H1 ∧ ∀ x H2, J.yld i H1 x H2 → (∀ a o, H1 a = some o → H2 a = some o) ∧ RepV K [] H2 d x
theorem ItT.tx {K : PySem.W.Frag} {J : It} {H H' : Hp} {ds : List D} (h : ItT K J H ds) (t : Tx H H') : ItT K J H' ds := fun H1 t1 => h H1 (t.trans t1)
abbrev GSrc := Ev → List D → Prop
def rdJ (K : PySem.W.Frag) (f : GSrc) : TI := fun σ H Rr => ∃ ρ ds, RepE K [] H σ ρ ∧ f ρ ds ∧ ∀ J H', (∀ a o, H a = some o → H' a = some o) → ItT K J H' ds → Rr J H'
theorem sim_nil {K : PySem.W.Frag} {H : Hp} : Sim K [] H [] := ⟨List.nodup_nil, rfl, fun n a o z => by simp at z⟩
theorem sim_is_nil {K : PySem.W.Frag} {ι : List Addr} {H : Hp} (s : Sim K ι H []) : ι = [] := List.length_eq_zero_iff.mp s.len
theorem Grow.sub {H H' : Hp} (g : Grow [] H [] H') : ∀ a o, H a = some o → H' a = some o := fun a o e => g.keep a o e (by simp)
section
variable {X : Cx} {tg : Expr}
def jRng2 (g : Ev → Sto → R (List D)) : GSrc := fun ρ ds => ∃ i j : Int, g ρ [] = .ok [.int i, .int j] [] ∧ (-(2 ^ 62) ≤ i ∧ i < 2 ^ 62 ∧ -(2 ^ 62) ≤ j ∧ j < 2 ^ 62) ∧ ds = rangeD i (j - i).toNat
theorem itT_r {K : PySem.W.Frag} {H : Hp} {lo : Int} {n : Nat} : ItT K (Itr lo n) H (rangeD lo n) := fun H1 _ => by
  refine ⟨fun i hi => by rw [rangeD_len] at hi; exact hi, fun i d e => ?_⟩
  obtain ⟨hi, rfl⟩ := rangeD_get e
  refine ⟨hi, fun x H2 y => ?_⟩
  obtain ⟨rfl, rfl⟩ := y
  exact ⟨fun _ _ z => z, int_rep⟩
theorem dj_range2 {a b : Expr} {g : Ev → Sto → R (List D)} {p pos : Pos} (hg : Gl X "range") (hm : X.mg "range" = none) (ha : DA X W0 [a, b] g) (hs : starEach [a, b] X.env = [(false, eval a X.env), (false, eval b X.env)] := by rfl) (hs2 : starEach [b] X.env = [(false, eval b X.env)] := by rfl) :
    PI X tg (.Call (.Name "range" p) [a, b] [] pos) (rdJ X.K (jRng2 g)) := by
  refine PI.imp (pi_range2 hg hm ha hs hs2) fun σ H Rr ⟨ρ, ds, hE, hsr, q⟩ => ?_
  obtain ⟨i, j, hgv, hb, rfl⟩ := hsr
  refine ⟨[], ρ, [], hE, sim_nil, ?_⟩
  rw [hgv]
  intro ι1 H1 G1 s1 vs rs
  cases sim_is_nil s1
  obtain ⟨v, u, rfl, rv, ru⟩ := RepL.two_inv rs
  exact ⟨_, _, by rw [int_at rv, int_at ru], hb, q _ H1 G1.sub itT_r⟩
end
def GDJ (P : Program) (w : World) (K : PySem.W.Frag) (mg : Str → Option Value) (base : Heap) (k : Nat) (N : List Str) (env : Env) (tg e : Expr) (f : GSrc) : Prop := ∀ (X : Cx) (pv : List Addr) (H : Hp) (s : Shared), OfP P w K mg base X → Room k (X.A.in1.deeper env) → PI (gx N env X pv H s) tg e (rdJ K f)
theorem calm_pie {X : Cx} {pins : List (Addr × Obj)} {σ : St} {tg : Expr} {R : It → Hp → Prop} : Calm (PIE X pins σ tg R) := fun G b s v l ⟨it, fp, tn, J, H', e, I, T, st, f, r⟩ => ⟨it, fp, tn, J, H', e, inv_lk I l, T, by rw [l.heap]; exact st, f, r⟩
def gForJ (f : GSrc) (T : Tg) (B : GM) : GM := fun ρ ys ρ' => ∃ ds, f ρ ds ∧ gLoop T B ds ρ ys ρ'
section
variable {P : Program} {w : World} {K : PySem.W.Frag} {mg : Str → Option Value} {base : Heap} {k : Nat} {N : List Str} {env : Env} {ga : (Addr × Obj) × Nat}
/-- a target in a turn -/
theorem gdg_run {tg : Expr} {T : Tg} {γ : Rs} {ip : List (Addr × Obj)} {ig : List (Nat × GenState)} {ρ ρ1 : Ev} {s : Shared} {d : D} {v : V} {u : Value} {σg : St} {H' Ht : Hp} {Q : Unit → Shared → Prop} {E : Value → Shared → Prop} (hg : GDG P w K mg base k N env tg T) (hγ : RsOk P w K mg base k env γ)
    (I : Inv (gx N env γ.X γ.pv γ.H γ.s) ip σg H' s) (G : ∀ a o, gmark env.locals γ.pv γ.H γ.s.heap a = some o → H' a = some o) (rE : RepE K [] H' σg ρ) (hfl : Tx Ht H') (igs : ∀ q ∈ ig, s.gens[q.1]? = some q.2 ∧ asleep q.2 = true) (gone : Gone γ.s s) (ips : ∀ p ∈ ip, p.1 ∈ γ.pv ∨ γ.s.heap.objs.size ≤ p.1)
    (rv : RelV v u) (rd : RepV K [] H' d v) (hT : T d ρ [] = some (ρ1, [])) (t1 : ttE ρ1) (h : ∀ s', GRun K N env γ ip ig ρ1 Ht s' → Q () s') : wpAny (model P w) (γ.X.A.in1.deeper env) (assign tg env u) Q E s := by
  have hof := hγ.of
  obtain ⟨e1, e2, e3, e4, e5⟩ := hγ.of
  have key := pg_kept (X := gx N env γ.X γ.pv γ.H γ.s) (Q := fun σ' H'' => (∀ a o, H' a = some o → H'' a = some o) ∧ RepE K [] H'' σ' ρ1) calm_no (hg γ.X γ.pv γ.H γ.s hof hγ.inner) I rv ⟨[], ρ, [], d, ρ1, [], by rw [show (gx N env γ.X γ.pv γ.H γ.s).K = K from e3]; exact rE, sim_nil, by rw [show (gx N env γ.X γ.pv γ.H γ.s).K = K from e3]; exact rd, hT, by
    intro ι' H'' σ' Gw Sm hE
    cases sim_is_nil Sm
    rw [show (gx N env γ.X γ.pv γ.H γ.s).K = K from e3] at hE
    exact ⟨Gw.sub, hE⟩⟩
  have key2 : wpAny (model γ.X.prog γ.X.w) (γ.X.A.in1.deeper env) (assign tg env u) _ _ s := key
  rw [e1, e2] at key2
  refine wpAny_mono key2 (fun _ s' ⟨⟨σ', H'', I', hk, hE⟩, kp⟩ => ?_) fun x s' z => z.1.elim
  refine h s' ⟨⟨σ', H'', I', fun a o z => hk a o (G a o z), hE, hfl.trans fun a u _ z => hk a u z⟩, t1, ips, fun q hq => ?_, gone.trans kp.gone⟩
  obtain ⟨z1, z2⟩ := igs q hq
  exact ⟨kp.gen _ _ z1 z2, z2⟩
/-- the source's items, read off the frame -/
def rdPm (K : PySem.W.Frag) (Pm : St → Hp → Prop) (ds : List D) : TI := fun σ H Rr => Pm σ H ∧ ∀ J H', (∀ a o, H a = some o → H' a = some o) → ItT K J H' ds → Rr J H'
structure GRunP (K : PySem.W.Frag) (N : List Str) (env : Env) (Pm : St → Hp → Prop) (γ : Rs) (ip : List (Addr × Obj)) (ig : List (Nat × GenState)) (ρ : Ev) (Ht : Hp) (s' : Shared) : Prop where
  ex : ∃ σg H', Inv (gx N env γ.X γ.pv γ.H γ.s) ip σg H' s' ∧ (∀ a o, gmark env.locals γ.pv γ.H γ.s.heap a = some o → H' a = some o) ∧ RepE K [] H' σg ρ ∧ Tx Ht H' ∧ Pm σg H'
  tt : ttE ρ
  ips : ∀ p ∈ ip, p.1 ∈ γ.pv ∨ γ.s.heap.objs.size ≤ p.1
  igs : ∀ q ∈ ig, s'.gens[q.1]? = some q.2 ∧ asleep q.2 = true
  gone : Gone γ.s s'
theorem gs_forP {tg iter : Expr} {body : List Stmt} {Pm : St → Hp → Prop} {ds : List D} {T : Tg} {B : GM} {pos : Pos} (hi : ∀ (X : Cx) (pv : List Addr) (H : Hp) (s : Shared), OfP P w K mg base X → Room k (X.A.in1.deeper env) → PI (gx N env X pv H s) tg iter (rdPm K Pm ds)) (hg : GDG P w K mg base k N env tg T) (hb : GSs P w K mg base k N env ga body B)
    (hs : ∀ x, foldedSetIterable iter env x = pure x)
    (γ : Rs) (ip : List (Addr × Obj)) (ig : List (Nat × GenState)) (ρ : Ev) (ys : List D) (ρ' : Ev) (Ht : Hp) (rest : List D) (c : Code) (fs : List Frame) (kk : Flow → Sem PySem.Fin) (jj : Value → Sem PySem.Fin) (gd : Bool → Bool) (lv : List Value → List Value) (s : Shared)
    (hγ : RsOk P w K mg base k env γ) (hga : GaOk ga ip ig) (hp : GPos env c fs gd) (hr : GRunP K N env Pm γ ip ig ρ Ht s) (hL : gLoop T B ds ρ ys ρ')
    (h : ∀ γ' s', RsOk P w K mg base k env γ' → GRun K N env γ' ip ig ρ' Ht s' → Sg (model P w) γ'.X.A.in1 (Goal P w K mg base k env ga rest γ') c (kk .next) fs s') :
    Sg (model P w) γ.X.A.in1 (Goal P w K mg base k env ga (ys ++ rest) γ) c ((exec (.For tg iter body [] pos) env).wrap kk jj gd lv) fs s := by
  obtain ⟨σg, H', I, G, rE, hfl, hPm⟩ := hr.ex
  have hof := hγ.of
  obtain ⟨e1, e2, e3, e4, e5⟩ := hγ.of
  rw [exec_For]
  refine sg_bindw (wpAny_standAt ?_)
  refine sg_bindw ?_
  rw [hp.over]
  have key := wpAny_kept2 (fun _ => True) (Q := fun _ => PIE (gx N env γ.X γ.pv γ.H γ.s) ip σg tg fun J H'' => (∀ a o, H' a = some o → H'' a = some o) ∧ ItT K J H'' ds) (fun _ => calm_pie) calm_no (thn ((hi γ.X γ.pv γ.H γ.s hof hγ.inner).run ip (still s) σg H' _ (inv_still I) ⟨hPm, fun J H'' hk hJ => ⟨hk, hJ⟩⟩) fun _ _ z => ⟨trivial, z⟩)
  have key2 : wpAny (model γ.X.prog γ.X.w) (γ.X.A.in1.deeper env) (eval iter env) (fun a s1 => True ∧ wpAny (model γ.X.prog γ.X.w) (γ.X.A.in1.deeper env) (pyIter a) _ _ s1) _ s := key
  rw [e1, e2] at key2
  refine wpAny_mono key2 (fun v s1 ⟨_, h1⟩ => ?_) fun _ _ z => z.1.elim
  refine sg_bindw (wpAny_of_eq (hs v) ?_)
  refine sg_bindw (wpAny_standAt ?_)
  refine sg_bindw (wpAny_holding ?_)
  rw [hp.over]
  refine wpAny_mono h1 (fun itv s2 h2 => ?_) fun _ _ z => z.1.elim
  obtain ⟨⟨it, fp, tn, J, H2, rfl, I2, T2, st2, fp2, hk2, hJ2⟩, kp2⟩ := h2
  have TT : Turn P w K tg J fp it tn := by
    have z : Turn γ.X.prog γ.X.w γ.X.K tg J fp it tn := T2
    rw [e1, e2, e3] at z; exact z
  refine sg_call fun p => ?_
  have hsz : ∀ {γ' : Rs}, RsOk P w K mg base k env γ' → (hcut γ'.s.heap env.locals).objs.size = env.locals := fun {γ'} hγ' => by
    rw [hcut_size]
    exact Nat.min_eq_left (Nat.le_of_lt hγ'.lt)
  have hst : ∀ b ∈ fp, env.locals ≤ b ∧ ∀ p ∈ ip, p.1 ≠ b := fun b hb => by
    obtain ⟨_, _, _, z4, _, z6⟩ := fp2 b hb
    refine ⟨?_, fun p hp => z6 p (List.mem_append_right _ hp)⟩
    rcases z4 with z | z
    · cases z
    · have z' : (hcut γ.s.heap env.locals).objs.size ≤ b := z
      rw [hsz hγ] at z'; exact z'
  have hgp := fun (kr : Result → Sem PySem.Fin) => gpos_loop (env := env) (kr := kr) (c' := .forLoop tg (.ref it) body [] env) (l := lv []) (kp := []) (p := p) hp rfl rfl
  -- a turn's iterator is the generator's own
  have own : ∀ {γ' : Rs} {H3 : Hp} {s3 : Shared}, RsOk P w K mg base k env γ' → (∀ a o, gmark env.locals γ'.pv γ'.H γ'.s.heap a = some o → H3 a = some o) → Gone γ'.s s3 → ∀ b ∈ fp, H3 b = none → (∃ o, s3.heap.get? b = some o) → b ∈ γ'.pv ∨ γ'.s.heap.objs.size ≤ b := fun {γ' H3 s3} hγ' hm hgo b hb hn ho => by
    by_cases hlt : b < γ'.s.heap.objs.size
    · by_cases hpv : b ∈ γ'.pv
      · exact .inl hpv
      · exfalso
        cases hq : γ'.s.heap.get? b with
        | none =>
          obtain ⟨o, ho⟩ := ho
          rw [hgo.none b hlt hq] at ho; cases ho
        | some o =>
          cases hH : γ'.H b with
          | some u => rw [hm b u (gmark_some hH)] at hn; cases hn
          | none => rw [hm b _ (gmark_ext hH (hst b hb).1 hpv hq)] at hn; cases hn
    · exact .inr (Nat.le_of_not_lt hlt)
  have loop : ∀ (l : List D) (i : Nat) (ρ : Ev) (ys : List D) (γ : Rs) (s : Shared) (σg : St) (H1 : Hp), l = ds.drop i → RsOk P w K mg base k env γ → Inv (gx N env γ.X γ.pv γ.H γ.s) ip σg H1 s → (∀ a o, gmark env.locals γ.pv γ.H γ.s.heap a = some o → H1 a = some o) → RepE K [] H1 σg ρ → Tx H2 H1 → ttE ρ →
      (∀ p ∈ ip, p.1 ∈ γ.pv ∨ γ.s.heap.objs.size ≤ p.1) → (∀ q ∈ ig, s.gens[q.1]? = some q.2 ∧ asleep q.2 = true) → Gone γ.s s → tn i s.heap → (∀ b ∈ fp, FpOk (gx N env γ.X γ.pv γ.H γ.s) ip H1 b) → gLoop T B l ρ ys ρ' →
      Sg (model P w) γ.X.A.in1 (Goal P w K mg base k env ga (ys ++ rest) γ) (.forLoop tg (.ref it) body [] env) ((model P w).den (.forLoop tg (.ref it) body [] env))
        (.ret (fun r => ((match r with | .ok f => (.pure f : Sem Flow) | .error e => .raise e).onRaise (cameBack env)).wrap kk jj gd lv) none (gd false) (lv []) c p [] :: fs) s := by
    intro l
    induction l with
    | nil =>
      intro i ρ ys γ s σg H1 hl hγ I G rE hfl2 tρ ips igs gone st ff hL
      obtain ⟨rfl, rfl⟩ := hL
      obtain ⟨e1, e2, e3, e4, e5⟩ := hγ.of
      have hle : ds.length ≤ i := by
        have := congrArg List.length hl
        rw [List.length_drop] at this
        simp at this
        omega
      refine sg_forLoop ?_
      rw [(hgp _).over]
      have key := wpAny_kept (Q := fun r s1 => r = none ∧ Inv (gx N env γ.X γ.pv γ.H γ.s) ip σg H1 s1) (fun G b s a l ⟨z1, z2⟩ => ⟨z1, inv_lk z2 l⟩) calm_no (TT.done (gx N env γ.X γ.pv γ.H γ.s) e1 e2 e3 rfl i ip (still s) σg H1 (fun _ _ => False) (inv_still I) ff st ((hJ2.tx hfl2 H1 (Tx.refl _)).1 i hle))
      refine wpAny_mono key (fun r s1 ⟨⟨hr, I1⟩, kp⟩ => ?_) fun _ _ z => z.1
      subst hr
      refine sg_again rfl ?_
      show Sg _ _ _ _ (leafOf (.ok .next)) _ _
      refine sg_leaf (.ok .next) ?_
      refine h γ s1 hγ ⟨⟨σg, H1, I1, G, rE, hfl.trans (fun a u f z => hfl2 a u f (hk2 a _ z))⟩, tρ, ips, fun q hq => ?_, gone.trans kp.gone⟩
      obtain ⟨z1, z2⟩ := igs q hq
      exact ⟨kp.gen _ _ z1 z2, z2⟩
    | cons d l ih =>
      intro i ρ ys γ s σg H1 hl hγ I G rE hfl2 tρ ips igs gone st ff hL
      obtain ⟨ρ1, y1, ρ2, y2, hT, t1, b1, b2, rfl⟩ := hL
      obtain ⟨e1, e2, e3, e4, e5⟩ := hγ.of
      have hd : ds[i]? = some d := by
        have := congrArg List.head? hl
        rw [List.head?_drop] at this
        exact this.symm
      have hl' : l = ds.drop (i + 1) := by
        have := congrArg List.tail hl
        rw [List.tail_drop] at this
        exact this
      obtain ⟨go, yl⟩ := (hJ2.tx hfl2 H1 (Tx.refl _)).2 i d hd
      refine sg_forLoop ?_
      rw [(hgp _).over, List.append_assoc]
      have key := wpAny_kept2 (fun r => ∃ u, r = some u) (u := fun r => match r with | some v => letOwnedTupleGo tg (.ref it) v | none => (.unsupported "" : Sem Unit))
        (Q := fun r _ s2 => ∃ u, r = some u ∧ ∃ x H'', Inv (gx N env γ.X γ.pv γ.H γ.s) ip σg H'' s2 ∧ RelV x u ∧ J.yld i H1 x H'' ∧ tn (i + 1) s2.heap ∧ ∀ b ∈ fp, H'' b = none)
        (fun r G b s a l ⟨u, z0, x, H'', z1, z2, z3, z4, z5⟩ => ⟨u, z0, x, H'', inv_lk z1 l, z2, z3, by rw [l.heap]; exact z4, z5⟩) calm_no
        (wpAny_mono (TT.item (gx N env γ.X γ.pv γ.H γ.s) e1 e2 e3 rfl i ip (still s) σg H1 (fun _ _ => False) (inv_still I) ff st go) (fun r s1 ⟨u, hr, hu⟩ => by
          subst hr
          exact ⟨⟨u, rfl⟩, wpAny_mono hu (fun _ s2 z => ⟨u, rfl, z⟩) fun _ _ z => z⟩) fun _ _ z => z)
      refine wpAny_mono key (fun r s1 ⟨⟨u, hr⟩, h1⟩ => ?_) fun _ _ z => z.1
      subst hr
      ·
        refine wpAny_mono h1 (fun _ s5 ⟨⟨u', hu', x, H5, I5, r5, y5, st5, fr5⟩, kp⟩ => ?_) fun _ _ z => z.1
        cases hu'
        obtain ⟨hk5, rd5⟩ := yl x H5 y5
        have ff5 : ∀ b ∈ fp, FpOk (gx N env γ.X γ.pv γ.H γ.s) ip H5 b := fun b hb => ⟨fr5 b hb, (ff b hb).2⟩
        have I5' := I5.pinned ff5 (TT.obj _ _ st5)
        have gone5 : Gone γ.s s5 := gone.trans kp.gone
        have G5 : ∀ a o, gmark env.locals γ.pv γ.H γ.s.heap a = some o → H5 a = some o := fun a o z => hk5 a o (G a o z)
        have ips5 : ∀ p ∈ ip ++ pinsAt fp s5.heap, p.1 ∈ γ.pv ∨ γ.s.heap.objs.size ≤ p.1 := fun p hp => by
          rcases List.mem_append.mp hp with hp | hp
          · exact ips p hp
          · obtain ⟨hb, he⟩ := of_pinsAt hp
            exact own hγ G5 gone5 p.1 hb (fr5 _ hb) ⟨_, he⟩
        refine gdg_run (Ht := H2) (ig := ig) hg hγ I5' G5 (rE.tx tρ fun a u _ z => hk5 a u z) (hfl2.trans fun a u _ z => hk5 a u z) (fun q hq => ?_) gone5 ips5 r5 rd5 hT t1 fun s6 hr6 => ?_
        · obtain ⟨z1, z2⟩ := igs q hq
          exact ⟨kp.gen _ _ z1 z2, z2⟩
        intro kk2 jj2 hkk
        refine hb γ (ip ++ pinsAt fp s5.heap) ig ρ1 y1 ρ2 H2 (y2 ++ rest) _ _ kk2 jj2 id id s6 hγ ⟨List.mem_append_left _ hga.1, hga.2⟩ (hgp _) hr6 b1 fun γ' s7 hγ' hr7 => ?_
        rw [hkk]
        refine sg_again rfl ?_
        obtain ⟨σ7, H7, I7, G7, rE7, hfl7⟩ := hr7.ex
        have pin7 : ∀ b ∈ fp, ∀ o, s5.heap.get? b = some o → s7.heap.get? b = some o ∧ H7 b = none ∧ b ≠ env.locals ∧ b ∉ frs γ'.X.stack := fun b hb o e => by
          obtain ⟨z1, z2, z3, z4, _⟩ := I7.pin (b, o) (List.mem_append_right _ (List.mem_append_right _ (mem_pinsAt hb e)))
          exact ⟨z1, z2, z3, z4⟩
        refine ih (i + 1) ρ2 y2 γ' s7 σ7 H7 hl' hγ' I7.unpinned G7 rE7 hfl7 hr7.tt (fun p hp => hr7.ips p (List.mem_append_left _ hp)) hr7.igs hr7.gone (TT.keep _ _ _ st5 fun b hb o e => (pin7 b hb o e).1) (fun b hb => ?_) b2
        obtain ⟨o, e, _⟩ := TT.obj _ _ st5 b hb
        obtain ⟨_, z2, z3, z4⟩ := pin7 b hb o e
        refine ⟨z2, z3, z4, .inr ?_, fun x d e => ?_, fun q hq => ?_⟩
        · show (hcut γ'.s.heap env.locals).objs.size ≤ b
          rw [hsz hγ']; exact (hst b hb).1
        · have z := (ff b hb).2.2.2.2.1 x d e
          exact z
        · rcases List.mem_append.mp hq with z | z
          · cases z
          · exact (hst b hb).2 q z
  exact loop ds 0 ρ ys γ s2 σg H2 rfl hγ I2 (fun a o z => hk2 a o (G a o z)) (rE.tx hr.tt fun a u _ z => hk2 a u z) (Tx.refl _) hr.tt hr.ips (fun q hq => ⟨kp2.gen _ _ (hr.igs q hq).1 (hr.igs q hq).2, (hr.igs q hq).2⟩) (hr.gone.trans kp2.gone) st2 fp2 hL
theorem gs_forJ {tg iter : Expr} {body : List Stmt} {f : GSrc} {T : Tg} {B : GM} {pos : Pos} (hi : GDJ P w K mg base k N env tg iter f) (hg : GDG P w K mg base k N env tg T) (hb : GSs P w K mg base k N env ga body B)
    (hs : ∀ x, foldedSetIterable iter env x = pure x := by intro _; rfl) : GS P w K mg base k N env ga (.For tg iter body [] pos) (gForJ f T B) := by
  intro γ ip ig ρ ys ρ' Ht rest c fs kk jj gd lv s hγ hga hp hr hB h
  obtain ⟨ds, hf, hL⟩ := hB
  obtain ⟨σg, H', I, G, rE, hfl⟩ := hr.ex
  exact gs_forP (Pm := fun σ H => RepE K [] H σ ρ) (ds := ds) (fun X pv H s of room => PI.imp (hi X pv H s of room) fun σ H Rr ⟨rE, q⟩ => ⟨ρ, ds, rE, hf, q⟩) hg hb hs γ ip ig ρ ys ρ' Ht rest c fs kk jj gd lv s hγ hga hp ⟨⟨σg, H', I, G, rE, hfl, rE⟩, hr.tt, hr.ips, hr.igs, hr.gone⟩ hL h
end
end DL
namespace DL
open PySem L2
open PyProof.Rows hiding St
open Sem (wp)
/-- how a generator goes on from here -/
def SgOf (M : Model) (A : Around) (Φ : End → Shared → Prop) (st : GenState) (s : Shared) : Prop := match st with
  | .fresh c => Sg M A Φ c (M.den c) [] s
  | .suspended kk _ c _ fs _ => Sg M A Φ c (kk (.send .none)) fs s
  | _ => False
theorem wpAny_resumeS {M : Model} {A : Around} {Φ : End → Shared → Prop} {g : Nat} {st : GenState} {l : List Value} {α : Type} {kr : GenResult → Sem α} {Q : α → Shared → Prop} {E : Value → Shared → Prop} {s : Shared} (hg : s.gens[g]? = some st) (hgo : SgOf M A Φ st (s.setGen g .running))
    (hΦ : ∀ e s1, Φ e s1 → s.gens.size ≤ s1.gens.size → e.quiet = true ∧ wpAny M A (kr e.result) Q E (s1.setGen g e.genState)) : wpAny M A (.resume g (.send .none) l kr) Q E s := by
  intro Γ p hΓ
  rw [Sem.wp_resume]
  have fin : ∀ c p0 t fs, Sg M A Φ c t fs (s.setGen g .running) → ∃ e s1, Runs M (Γ.wake c p) p0 t fs (s.setGen g .running) e s1 ∧ e.quiet = true ∧ wp M Γ (kr e.result) (fun a _ z => Q a z) (fun a _ z => E a z) p (s1.setGen g e.genState) := by
    intro c p0 t fs h
    obtain ⟨e, s1, r, z⟩ := h (Γ.wake c p) p0 rfl (hΓ.wake c p)
    have hz := GenW.runs_gsz r
    rw [GenW.setGen_size] at hz
    obtain ⟨z1, z2⟩ := hΦ e s1 z hz
    exact ⟨e, s1, r, z1, z2 Γ p hΓ⟩
  cases st with
  | fresh c =>
    obtain ⟨e, s1, r, z1, z2⟩ := fin c p _ _ hgo
    exact ⟨_, _, by unfold Wakes; rw [hg]; exact ⟨e, s1, r, z1, rfl, rfl⟩, z2⟩
  | suspended kk l0 c p0 fs cl =>
    obtain ⟨e, s1, r, z1, z2⟩ := fin c p0 _ _ hgo
    exact ⟨_, _, by unfold Wakes; rw [hg]; exact ⟨e, s1, r, z1, rfl, rfl⟩, z2⟩
  | running => exact hgo.elim
  | finished => exact hgo.elim
section
variable (P : Program) (w : World) (K : PySem.W.Frag) (mg : Str → Option Value) (base : Heap) (k : Nat) (env : Env) (ga : (Addr × Obj) × Nat)
/-- asleep: xs will come -/
structure Slp (xs : List D) (st : GenState) (pvp : List (Addr × Obj)) (gs : List (Nat × GenState)) (pl : Option (Addr × HO)) (H : Hp) : Prop where
  bare : st.bare = true
  mem : ga.1 ∈ pvp
  ne : ∀ q ∈ gs, q.1 ≠ ga.2
  loc : env.locals ∈ pvp.map (·.1)
  go : ∀ γ : Rs, RsOk P w K mg base k env γ → Tx H γ.H → (∀ a u, pl = some (a, u) → γ.H a = some u) → γ.pv = pvp.map (·.1) → (∀ p ∈ pvp, γ.s.heap.get? p.1 = some p.2) → (∀ q ∈ gs, γ.s.gens[q.1]? = some q.2) →
    SgOf (model P w) γ.X.A.in1 (Goal P w K mg base k env ga xs γ) st γ.s
/-- the generator, seen by a consumer: it stands in the state -/
structure GAt (X : Cx) (pins : List (Addr × Obj)) (xs : List D) (st : GenState) (pvp : List (Addr × Obj)) (gs : List (Nat × GenState)) (H : Hp) (s : Shared) : Prop where
  slp : ∃ H0 pl, Tx H0 H ∧ (∀ a u, pl = some (a, u) → H a = some u) ∧ (pl = none ∨ ∃ c, st = .fresh c) ∧ Slp P w K mg base k env ga xs st pvp gs pl H0
  own : s.gens[ga.2]? = some st
  obj : ∀ p ∈ pvp, s.heap.get? p.1 = some p.2 ∧ (∀ v, p.2.data ≠ .cell v) ∧ FpOk X pins H p.1
  gen : ∀ q ∈ gs, s.gens[q.1]? = some q.2 ∧ asleep q.2 = true
end
section
variable {P : Program} {w : World} {K : PySem.W.Frag} {mg : Str → Option Value} {base : Heap} {k : Nat} {env : Env} {ga : (Addr × Obj) × Nat}
theorem allBare_set {s : Shared} {g : Nat} {x : GenState} (h : AllBare s.gens) (hx : x.bare = true) : AllBare (s.setGen g x).gens := L2.allBare_setGen h hx
theorem inv_gens {X : Cx} {pins : List (Addr × Obj)} {σ : St} {H : Hp} {s : Shared} {g : Nat} {x : GenState} (I : Inv X pins σ H s) (hx : x.bare = true) : Inv X pins σ H (s.setGen g x) :=
  ⟨I.ok, I.os, allBare_set I.bare hx, I.base, I.loc, I.cell, I.free, I.freeC, I.pin, I.hok, I.len⟩
theorem quiet_bare {e : End} (h : e.quiet = true) : e.genState.bare = true := End.bare_of_quiet h
def isGenO (ga : (Addr × Obj) × Nat) : Prop := ∃ nm qn, ga.1.2.cls = .type "generator" ∧ ga.1.2.data = .fields #[.int ga.2 0, nm, qn] ∧ ga.1.2.slots = #[]
theorem isGen_of {h : Heap} (z : isGenO ga) (e : h.get? ga.1.1 = some ga.1.2) : h.IsGen ga.1.1 ga.2 := by
  obtain ⟨nm, qn, h1, h2, h3⟩ := z
  exact ⟨_, nm, qn, e, h1, h2, h3⟩
/-- next(g) -/
theorem gnext {X : Cx} {pins : List (Addr × Obj)} {σ : St} {H : Hp} {s : Shared} {xs : List D} {st : GenState} {pvp : List (Addr × Obj)} {gs : List (Nat × GenState)} (zo : isGenO ga) (of : OfP P w K mg base X) (room : Room (k + 2) X.A) (cons : Cons env.locals X) (I : Inv X pins σ H s) (G : GAt P w K mg base k env ga X pins xs st pvp gs H s) :
    wpAny (model P w) X.A (pyNext (.ref ga.1.1)) (fun r s2 => (xs = [] ∧ r = none ∧ ∃ H2, Inv X pins σ H2 s2 ∧ ∀ a o, H a = some o → H2 a = some o) ∨
      ∃ x xs' u vv H2 st2 pvp2 gs2, xs = x :: xs' ∧ r = some u ∧ RelV vv u ∧ Inv X pins σ H2 s2 ∧ (∀ a o, H a = some o → H2 a = some o) ∧ tt x = true ∧ RepV K [] H2 x vv ∧ asleep st2 = true ∧ (∀ c, st2 ≠ .fresh c) ∧ GAt P w K mg base k env ga X pins xs' st2 pvp2 gs2 H2 s2) (fun _ _ => False) s := by
  obtain ⟨⟨H0, pl, tx0, hpl, _, sl⟩, own, obj, gen⟩ := G
  have hgo := isGen_of zo (obj ga.1 sl.mem).1
  have hlt : env.locals < s.heap.objs.size := by
    obtain ⟨p, hp, e⟩ := List.mem_map.mp sl.loc
    rw [← e]
    exact Heap.lt_size (obj p hp).1
  let γ : Rs := ⟨X, pins, σ, H, s.setGen ga.2 .running, pvp.map (·.1)⟩
  have hγ : RsOk P w K mg base k env γ := ⟨of, room, cons, inv_gens I rfl, fun b hb => by
    obtain ⟨p, hp, rfl⟩ := List.mem_map.mp hb
    exact (obj p hp).2.2, sl.loc, hlt⟩
  have run := sl.go γ hγ tx0 hpl rfl (fun p hp => (obj p hp).1) fun q hq => by
    show (s.gens.setIfInBounds ga.2 .running)[q.1]? = _
    rw [Array.getElem?_setIfInBounds_ne (Ne.symm (sl.ne q hq))]
    exact (gen q hq).1
  have hh : X.A.handled = none := room.hd
  have hd : X.A.depth < recursionLimit := room.depth
  have gsz : ga.2 < s.gens.size := (Array.getElem?_eq_some_iff.mp own).1
  unfold pyNext
  refine wpAny_bind (wpAny_attempt (wpAny_callSpecial?_slot (name := Str.ofString "__next__") hgo.typeIs slot_gen_next (wpAny_call_entry slot_gen_next hgo.typeIs entry_gen_next ?_ (args_gen_next _))))
  show wpAny _ X.A.in1 (Builtin.Generator.genWake (.ref ga.1.1) (.send .none)) _ _ s
  unfold Builtin.Generator.genWake
  refine wpAny_bind (wpAny_holding (wpAny_genNumber hgo (wpAny_bind (wpAny_genState own ?_))))
  cases st with
  | running => exact run.elim
  | finished => exact run.elim
  | _ =>
    refine wpAny_bind (wpAny_roomToWake I.nolimit hd ?_)
    show wpAny _ X.A.in1 (.resume ga.2 (.send .none) [] _) _ _ s
    refine wpAny_resumeS own run fun e s1 hΦ hsz => ?_
    cases xs with
    | nil =>
      cases e with
      | susp v gd l kk c p fs => exact hΦ.elim
      | ret r =>
        obtain ⟨rfl, H2, I2, sub⟩ := hΦ
        refine ⟨rfl, ?_⟩
        have I3 : Inv X pins σ H2 (s1.setGen ga.2 .finished) := inv_gens I2 rfl
        show wpAny _ X.A.in1 (newExc (.type "StopIteration") [] >>= fun _ => _) _ _ (s1.setGen ga.2 .finished)
        refine wpAny_bind ?_
        simp only [newExc, newTuple]
        refine wpAny_bind (wpAny_newObj_type (hd := by size_fits) ?_)
        refine wpAny_bind (m := firstArgMember _ _) (wpAny_of_eq (a := Value.none) (by first | (simp only [firstArgMember]; rfl) | rfl) ?_)
        refine wpAny_newObj_type (hd := by size_fits) ?_
        simp only [raiseNew]
        refine wpAny_bind (wpAny_bind (wpAny_handled ?_))
        rw [show X.A.in1.handled = none from hh]
        refine wpAny_throw ?_
        refine wpAny_bind (wpAny_isInstance (b := true) (T := "StopIteration") ⟨_, Heap.get?_push_size _ rfl, rfl⟩ isSubtype_stop ?_)
        refine wpAny_pure (.inl ⟨by trivial, by trivial, H2, ?_, sub⟩)
        exact I3.kept fun b o z => Heap.get?_push_of_some _ (Heap.get?_push_of_some _ z)
    | cons x xs =>
      cases e with
      | ret r => exact hΦ.elim
      | susp v gd l kk c p fs =>
        obtain ⟨hq, tx, vv, H2, pvp2, gs2, rv, I2, sub, rd, pk, ⟨hm, hne⟩, cont⟩ := hΦ
        refine ⟨hq, wpAny_pure ⟨v, rfl, wpAny_pure (.inr ⟨x, xs, v, vv, H2, (End.susp v gd l kk c p fs).genState, pvp2, gs2, rfl, rfl, rv, inv_gens I2 (quiet_bare hq), sub, tx, rd, ?_, (fun c z => by cases z), ?_⟩)⟩⟩
        · rfl
        · refine ⟨⟨H2, none, Tx.refl _, (fun _ _ z => by cases z), .inl rfl, ⟨quiet_bare hq, hm, hne, pk.loc, fun γ' h1 h2 _ h3 h4 h5 => cont γ' h1 h2 h3 h4 h5⟩⟩, ?_, pk.obj, fun q hq => ?_⟩
          · exact L2.setGen_at (Nat.lt_of_lt_of_le gsz hsz)
          · show (s1.gens.setIfInBounds ga.2 _)[q.1]? = _ ∧ _
            rw [Array.getElem?_setIfInBounds_ne (Ne.symm (hne q hq))]
            exact pk.gen q hq
theorem GAt.mem {X : Cx} {pins : List (Addr × Obj)} {xs : List D} {st : GenState} {pvp : List (Addr × Obj)} {gs : List (Nat × GenState)} {H : Hp} {s : Shared} (G : GAt P w K mg base k env ga X pins xs st pvp gs H s) : ga.1 ∈ pvp := let ⟨_, _, _, _, _, sl⟩ := G.slp; sl.mem
end
end DL
namespace DL
open PySem L2
open PyProof.Rows hiding St
open Sem (wp)
/-- what a call of a generator def gives -/
def GMk (P : Program) (w : World) (K : PySem.W.Frag) (mg : Str → Option Value) (base : Heap) (k : Nat) (X : Cx) (pins : List (Addr × Obj)) (σ : St) (H : Hp) (xs : List D) (u : Value) (s' : Shared) : Prop :=
  ∃ env ga c pvp, u = .ref ga.1.1 ∧ isGenO ga ∧ Inv X pins σ H s' ∧ Cons env.locals X ∧ GAt P w K mg base k env ga X pins xs (.fresh c) pvp [] H s'
/-- the generator def at f hands out what G says -/
def GnD (P : Program) (w : World) (K : PySem.W.Frag) (mg : Str → Option Value) (base : Heap) (k : Nat) (f : Addr) (G : List D → Option (List D)) : Prop :=
  ∀ (X : Cx) (pins : List (Addr × Obj)) (s : Shared) (σ : St) (H : Hp) (us : List Value) (vs : List V) (ds xs : List D), OfP P w K mg base X → Room (k + 2) X.A → X.calm = true → Inv X pins σ H s → Vals vs us → RepL K [] H ds vs → ttL ds = true → G ds = some xs →
    wpAny (model P w) X.A (call (.ref f) us) (GMk P w K mg base k X pins σ H xs) (fun _ _ => False) s
theorem cellsFrom_no : ∀ (names : List (Str × NameKind)) (n : Nat) (acc : List (Str × Addr)), (∀ y ∈ names, y.2 ≠ .cell) → cellsFrom n names acc = acc
  | [], _, _, _ => rfl
  | (x, kd) :: r, n, acc, h => by
    have h1 := h (x, kd) List.mem_cons_self
    have h2 : (kd == NameKind.cell) = false := by
      cases kd <;> first | rfl | exact absurd rfl h1
    unfold cellsFrom
    rw [h2]
    exact cellsFrom_no r n acc fun y hy => h y (List.mem_cons_of_mem _ hy)
theorem genv_of {N : List Str} {qual : Str} {sc : Scope} {L f : Addr} {cdv : Value} (hk : sc.kind = .function) (hn : ∀ y ∈ sc.names, y.2 ≠ .cell ∧ y.2 ≠ .free) : GEnv N (envOfC qual sc L f cdv) where
  kind := hk
  glob := rfl
  blt := rfl
  cells := fun x => by
    show (cellsFrom (L + 1) sc.names []).lookup x = none
    rw [cellsFrom_no _ _ _ fun y hy => (hn y hy).1]; rfl
  nocell := fun x => ⟨fun e => (hn _ (PySem.mem_of_lookup (show sc.names.lookup x = some .cell from e))).1 rfl, fun e => (hn _ (PySem.mem_of_lookup (show sc.names.lookup x = some .free from e))).2 rfl⟩
  frame := rfl
theorem startD_tt {n : Nat} {ds : List D} (h : ttL ds = true) : ttE (startD n ds) := by
  have get : ∀ (l : List D), ttL l = true → ∀ (i : Nat) d, l[i]? = some d → tt d = true := by
    intro l
    induction l with
    | nil => intro _ i d e; simp at e
    | cons x l ih =>
      intro h i d e
      rw [ttL, Bool.and_eq_true] at h
      cases i with
      | zero => simp at e; subst e; exact h.1
      | succ i => exact ih h.2 i d (by simpa using e)
  intro i d e
  unfold startD at e
  by_cases hi : i < ds.length
  · rw [List.getElem?_append_left (by simpa using hi), List.getElem?_map] at e
    cases q : ds[i]? with
    | none => rw [q] at e; cases e
    | some x => rw [q] at e; cases e; exact get ds h i _ q
  · rw [List.getElem?_append_right (by simpa using hi), List.getElem?_replicate] at e
    split at e <;> cases e
/-- the frame's code -/
theorem sg_func {P : Program} {w : World} {A : Around} {Φ : End → Shared → Prop} {body : List Stmt} {env : Env} {s : Shared}
    (h : ∀ kk jj, kk .next = .pure (.done (.ret .none)) → Sg (model P w) A Φ (.func body env) ((execs body env).wrap kk jj id id) [] s) : Sg (model P w) A Φ (.func body env) ((model P w).den (.func body env)) [] s := by
  show Sg _ A Φ _ (.point [] fun _ => ((execs body env).onRaise (leaving env)) >>= _) [] s
  refine sg_wrap (m := point) (k := fun _ => ((execs body env).onRaise (leaving env)) >>= _) (j := .raise) (gd := id) (lv := fun _ => []) (wpAny_point ?_)
  rw [Sem.onRaise_eq_wrap, Sem.bind_eq_wrap', Sem.wrap_wrap]
  exact h _ _ rfl
section
variable {P : Program} {w : World} {K : PySem.W.Frag} {mg : Str → Option Value} {base : Heap} {k : Nat} {f : Addr} {fd : FuncData} {N ps : List Str}
theorem gnD_of {x qual : Str} {st : Stmt} {B : GM} {G : List D → Option (List D)} (F : Fun K x qual st f fd) (sc : GScope N ps (defScope st)) (hn : ∀ y ∈ (defScope st).names, y.2 ≠ .cell ∧ y.2 ≠ .free) (hb : Binds K fd ps [])
    (hG : ∀ ds xs, G ds = some xs → ds.length = ps.length ∧ ∃ ρ', B (startD N.length ds) xs ρ')
    (hbody : ∀ (cdv : Value) (L : Addr) (ga : (Addr × Obj) × Nat), GSs P w K mg base k N (envOfC qual (defScope st) L f cdv) ga (defBody st) B) : GnD P w K mg base k f G := by
  intro X pins s σ H us vs ds xs of room calm I rv rl tds hxs
  obtain ⟨hlen, ρ', hB⟩ := hG ds xs hxs
  obtain ⟨oc, od, kV, doc, pm, an, cdv, ct, osl, efd, lk, hcd⟩ := F.ex
  have hof := of
  obtain ⟨e1, e2, e3, e4, e5⟩ := of
  have e0 := I.env0
  rw [e1, e2, e3, e4, e5] at e0
  have hl : vs.length = ps.length := by rw [← RepL.length _ _ rl]; exact hlen
  have hlu : us.length = ps.length := by rw [← rv.length]; exact hl
  have KX : K.In s.heap := e0.mod.kin.keeps fun b o e => (e0.bs b o e).1
  have bd := hb s us KX (by rw [List.append_nil]; exact hlu)
  rw [List.append_nil, efd] at bd
  rw [efd] at lk
  have hkind : ∀ y ∈ ps.zip us, (defScope st).names.lookup y.1 = some .local ∨ ((defScope st).names.lookup y.1 = some .cell ∧ ((cellsFrom (s.heap.objs.size + 1) (defScope st).names []).lookup y.1).isSome = true) := by
    rintro ⟨n, v⟩ hy
    exact (sc.par n (List.of_mem_zip hy).1).imp id fun q => ⟨q, PySem.W.cellsFrom_some _ _ _ (.inl q)⟩
  refine wpAny_call ?_
  refine codeAny_call_generator room.depth (KX _ _ lk) rfl sc.co sc.gen rfl (PySem.W.codeRec_of KX hcd) (bd _ _ _ _ ?_)
  refine wpAny_newFunctionEnv_cells sc.kind hkind fun env he s1 ic => ?_
  subst he
  have lim : s1.heap.NoLimit := (e0.mod.nolimit.keeps fun b o e => (e0.bs b o e).1).keeps ic.toInCall.keep
  refine ⟨lim, ?_⟩
  have I1 : Inv (gcxOf P w K mg base N qual (defScope st) f cdv X.A X.stack s H (fun _ _ _ => False) []) [] (start N vs) H s1 := inv_startG sc room.hd e0 hl rv ic
  obtain ⟨h1, tk, es1, hk1⟩ := ic.done
  have ge : GEnv N (envOfC qual (defScope st) s.heap.objs.size f cdv) := genv_of sc.kind hn
  have kp1 : ∀ b o, s.heap.get? b = some o → s1.heap.get? b = some o := ic.toInCall.keep
  have lt1 : s.heap.objs.size < s1.heap.objs.size := ic.toInCall.ns.lt
  obtain ⟨m, ⟨lo, des, dep, hlo, hld, hlk, hlm⟩, hloc⟩ := I1.loc
  have slots : Slots N (envOfC qual (defScope st) s.heap.objs.size f cdv) lo (start N vs) := by
    refine ⟨(fun v (z : lo.data = .cell v) => by rw [hld] at z; cases z), I1.len, m, fun h e => ⟨lo, des, dep, e, hld, hlk, hlm⟩, fun i y v q1 q2 q3 => ?_⟩
    obtain ⟨u, r, l⟩ := hloc i y v q1 q2 q3
    refine ⟨u, r, ?_⟩
    rcases l with l | ⟨z, _⟩
    · exact l
    · exact absurd z (fun z => z.elim (ge.nocell y).1 (ge.nocell y).2)
  have main : ∀ (go : Obj) (nm qn : Value) (tk2 : Nat), go.cls = .type "generator" → go.data = .fields #[.int s1.gens.size 0, nm, qn] → go.slots = #[] → (∀ h : Heap, (h.push go).get? h.objs.size = some go) →
      GMk P w K mg base k X pins σ H xs (.ref s1.heap.objs.size) { s1 with gens := s1.gens.push (.fresh (.func (defBody st) (envOfC qual (defScope st) s.heap.objs.size f cdv))), toks := tk2, heap := s1.heap.push go } := by
    intro go nm qn tk2 hc hdt hsl hpu
    have kp2 : ∀ b o, s.heap.get? b = some o → (s1.heap.push go).get? b = some o := fun b o e => Heap.get?_push_of_some _ (kp1 b o e)
    have os1 : s1.os = s.os := by rw [es1]
    have gn1 : s1.gens = s.gens := by rw [es1]
    have hbr : AllBare (s1.gens.push (.fresh (.func (defBody st) (envOfC qual (defScope st) s.heap.objs.size f cdv)))) := AllBare.push (by rw [gn1]; exact I.bare) rfl
    have I2 : Inv X pins σ H { s1 with gens := s1.gens.push (.fresh (.func (defBody st) (envOfC qual (defScope st) s.heap.objs.size f cdv))), toks := tk2, heap := s1.heap.push go } :=
      I.call' (ch := []) os1 (Un.kept kp2) (I.hok.kept kp2) hbr fun b z => by simp at z
    have cns : Cons s.heap.objs.size X := ⟨calm, fun b hb => by
      obtain ⟨_, o, ho, _⟩ := I.stack.mem hb
      exact Heap.lt_size ho, Nat.le_trans I.ok.bsz I.sz⟩
    have fpL : FpOk X pins H s.heap.objs.size := I.fpOk (Nat.le_refl _) (I.hok.fresh (Nat.le_refl _))
    have fpG : FpOk X pins H s1.heap.objs.size := I.fpOk (Nat.le_of_lt lt1) (I.hok.fresh (Nat.le_of_lt lt1))
    have hneL : s1.heap.objs.size ≠ s.heap.objs.size := Nat.ne_of_gt lt1
    refine ⟨envOfC qual (defScope st) s.heap.objs.size f cdv, ((s1.heap.objs.size, go), s1.gens.size), .func (defBody st) (envOfC qual (defScope st) s.heap.objs.size f cdv), [(s.heap.objs.size, lo), (s1.heap.objs.size, go)], rfl, ⟨nm, qn, hc, hdt, hsl⟩, I2, cns, ⟨H, none, Tx.refl _, (fun _ _ z => by cases z), .inl rfl, ⟨rfl, by simp, fun q hq => (by simp at hq), by simp [envOfC], fun γ hγ tx _ hpv hobj _ => ?_⟩⟩, ?_, fun p hp => ?_, fun q hq => (by simp at hq)⟩
    · show Sg _ _ _ _ _ _ _
      refine sg_func fun kk jj hkk => ?_
      have pos : GPos (envOfC qual (defScope st) s.heap.objs.size f cdv) (.func (defBody st) (envOfC qual (defScope st) s.heap.objs.size f cdv)) [] id := ⟨fun A => GenW.over_func, rfl, rfl, rfl⟩
      have hpvG : s1.heap.objs.size ∈ γ.pv := by rw [hpv]; simp
      have fpL' := hγ.pv _ hγ.loc
      have wk := gwake (ip := [(s1.heap.objs.size, go)]) ge hγ.cons hγ.inv (hobj (s.heap.objs.size, lo) (by simp)) slots fpL' hγ.loc (fun p hp => by
        rw [List.mem_singleton.mp hp]
        exact ⟨hobj (s1.heap.objs.size, go) (by simp), (fun v (z : go.data = .cell v) => by rw [hdt] at z; cases z), hγ.pv _ hpvG, hpvG, hneL⟩)
      have rE : RepE K [] (gmark s.heap.objs.size γ.pv γ.H γ.s.heap) (start N vs) (startD N.length ds) :=
        start_rep N (tt_moveL (ι := []) (ι' := []) (fun a ys _ z => ⟨by simp, gmark_some (tx.tup z)⟩) (fun _ _ _ z => gmark_some (tx.frz z)) ds vs tds rl)
      have key := hbody cdv s.heap.objs.size ((s1.heap.objs.size, go), s1.gens.size) γ [(s1.heap.objs.size, go)] [] (startD N.length ds) xs ρ' H [] _ [] kk jj id id γ.s hγ ⟨by simp, fun q hq => (by simp at hq)⟩ pos
        ⟨⟨start N vs, _, wk, fun _ _ z => z, rE, fun a u f z => gmark_some (tx a u f z)⟩, startD_tt tds, fun p hp => .inl (by rw [List.mem_singleton.mp hp]; exact hpvG), fun q hq => (by simp at hq), Gone.refl _⟩ hB fun γ' s' hγ' hr' => ?_
      · rw [List.append_nil] at key; exact key
      · rw [hkk]
        obtain ⟨σ', H', I', G', _, _⟩ := hr'.ex
        obtain ⟨z1, z2, _⟩ := gkeeps hγ'.inv hγ'.pv I' G' hγ'.cons.fr
        exact sg_end (.ok (.ret .none)) ⟨rfl, _, z1, z2⟩
    · exact Array.getElem?_push_size ..
    · rcases List.mem_cons.mp hp with rfl | hp
      · exact ⟨Heap.get?_push_of_some _ hlo, slots.1, fpL⟩
      · rw [List.mem_singleton.mp hp]
        exact ⟨hpu _, (fun v (z : go.data = .cell v) => by rw [hdt] at z; cases z), fpG⟩
  exact main _ _ _ _ rfl rfl rfl fun h => Heap.get?_push_size _ rfl
end
end DL
namespace DL
open PySem L2
open PyProof.Rows hiding St
open Sem (wp)
/-- an expression whose value is a generator that has not begun -/
def PGx (X : Cx) (W : WX) (k : Nat) (e : Expr) (f : Ev → Sto → R (List D)) : Prop := ∀ (pins : List (Addr × Obj)) (s : Shared) (σ : St) (H : Hp) (ι : List Addr) (ρ : Ev) (S : Sto) (Q : List D → Sto → List Addr → Hp → Prop), Inv X pins σ H s → RepE X.K ι H σ ρ → Sim X.K ι H S → Post X.K W σ ι H (f ρ S) Q →
  wpAny (model X.prog X.w) X.A (eval e X.env) (fun u s' => ∃ H1 ι1 S1 xs, Grow ι H ι1 H1 ∧ Sim X.K ι1 H1 S1 ∧ Q xs S1 ι1 H1 ∧ GMk X.prog X.w X.K X.mg X.base k X pins σ H1 xs u s') X.xe s
open Classical in
noncomputable def eGen (G : List D → Option (List D)) (g : Ev → Sto → R (List D)) : Ev → Sto → R (List D) := fun ρ S => (g ρ S).bind fun ds S1 => if ttL ds = true then (match G ds with
  | some xs => .ok xs S1
  | none => .stuck) else .stuck
section
variable {X : Cx} {W : WX} {k : Nat}
theorem pgx_call {x : Str} {f : Addr} {p pos : Pos} {e : Expr} {es : List Expr} {G : List D → Option (List D)} {g : Ev → Sto → R (List D)} (hF : GnD X.prog X.w X.K X.mg X.base k f G) (hr : Room (k + 2) X.A) (hc : X.calm = true) (hm : X.mg x = some (.ref f)) (hk : PySem.W.keepIn X.K (.ref f) = true) (ha : DA X W (e :: es) g) (hg : Gl X x := by rfl) (hdb : (x == ("__debug__" : Str)) = false := by decide)
    (he : starEach (e :: es) X.env = (false, eval e X.env) :: starEach es X.env := by rfl) (hpl : (backTo pos (starEach es X.env)).any (·.1) = false := by rfl) : PGx X W k (.Call (.Name x p) (e :: es) [] pos) (eGen G g) := by
  intro pins s σ H ι ρ S Q I hE hS h
  refine wpAny_Call_Name_kw (ld_glob I hg hm ?_ hdb)
  have rd : rdA X.K W g σ H fun vs H1 => ∃ ι1 S1 ds xs, Grow ι H ι1 H1 ∧ Sim X.K ι1 H1 S1 ∧ RepL X.K ι1 H1 ds vs ∧ ttL ds = true ∧ G ds = some xs ∧ Q xs S1 ι1 H1 := ⟨ι, ρ, S, hE, hS, by
    refine (Post.bind h).mono fun ds S1 ι1 H1 G1 s1 h1 vs rs => ?_
    split at h1
    · rename_i tds
      cases hx : G ds with
      | none => rw [hx] at h1; exact h1.elim
      | some xs => rw [hx] at h1; exact ⟨ι1, S1, ds, xs, G1, s1, rs, tds, hx, h1.here s1⟩
    · exact h1.elim⟩
  refine PySem.W.callWith_K (h₀ := X.base) I.ok.mod.kin hk (thn (ha.run pos pins s σ H _ I rd) fun us s1 ⟨vs, H1, I1, r1, ι1, S1, ds, xs, G1, s1', rs, tds, hx, hq⟩ => ⟨I1.kIn, ?_⟩) he hpl
  exact wpAny_mono (hF X pins s1 σ H1 us vs ds xs ⟨rfl, rfl, rfl, rfl, rfl⟩ hr hc I1 r1 (tt_outL tds rs) tds hx) (fun u s2 z => ⟨H1, ι1, S1, xs, G1, s1', hq, z⟩) fun _ _ z => z.elim
noncomputable def sForG (f : Ev → Sto → R (List D)) (T : Tg) (B Z : Ev → Sto → SR) : Ev → Sto → SR := fun ρ S => (f ρ S).toS ρ fun xs S1 => forD yes T B Z xs ρ S1
theorem tx_of {K : PySem.W.Frag} {ι ι' : List Addr} {H H' : Hp} {S : Sto} (s : Sim K ι H S) (g : Grow ι H ι' H') : Tx H H' := fun a u f e => by
  rcases f with ⟨xs, rfl⟩ | ⟨o, v, rfl⟩
  · exact g.keep a _ e (s.noTup e)
  · exact g.frz _ _ _ e
theorem gat_step {P : Program} {w : World} {K : PySem.W.Frag} {mg : Str → Option Value} {base : Heap} {env : Env} {ga : (Addr × Obj) × Nat} {pins : List (Addr × Obj)} {xs : List D} {st : GenState} {pvp : List (Addr × Obj)} {gs : List (Nat × GenState)} {σ' : St} {H H' : Hp} {s s' : Shared}
    (G : GAt P w K mg base k env ga X pins xs st pvp gs H s) (ha : asleep st = true) (nf : ∀ c, st ≠ .fresh c) (I : Inv X (pins ++ pvp) σ' H' s') (kp : Kept s s') (t : Tx H H') : GAt P w K mg base k env ga X pins xs st pvp gs H' s' := by
  obtain ⟨⟨H0, pl, t0, hp, hf, sl⟩, own, obj, gen⟩ := G
  obtain rfl : pl = none := hf.elim id fun ⟨c, z⟩ => absurd z (nf c)
  refine ⟨⟨H0, none, t0.trans t, (fun _ _ z => by cases z), .inl rfl, sl⟩, kp.gen _ _ own ha, fun p hp => ?_, fun q hq => ⟨kp.gen _ _ (gen q hq).1 (gen q hq).2, (gen q hq).2⟩⟩
  obtain ⟨z1, z2, _, _, _⟩ := I.pin p (List.mem_append_right _ (List.mem_append_right _ hp))
  obtain ⟨_, o2, o3⟩ := obj p hp
  exact ⟨z1, o2, z2, o3.2⟩
theorem gat_pin {P : Program} {w : World} {K : PySem.W.Frag} {mg : Str → Option Value} {base : Heap} {env : Env} {ga : (Addr × Obj) × Nat} {pins : List (Addr × Obj)} {xs : List D} {st : GenState} {pvp : List (Addr × Obj)} {gs : List (Nat × GenState)} {σ : St} {H : Hp} {s : Shared}
    (G : GAt P w K mg base k env ga X pins xs st pvp gs H s) (I : Inv X pins σ H s) : Inv X (pins ++ pvp) σ H s := I.pins_of fun p hp => by
  rcases List.mem_append.mp hp with z | z
  · exact I.pin p (List.mem_append_right _ z)
  · obtain ⟨z1, z2, z3⟩ := G.obj p z
    exact ⟨z1, z3.1, z3.2.1, z3.2.2.1, z2⟩
/-- the step ahead of the store is nothing for a generator -/
theorem go_gen {M : Model} {A : Around} {E : Value → Shared → Prop} {s : Shared} {tg : Expr} {ga : (Addr × Obj) × Nat} {u : Value} {Q : Unit → Shared → Prop} (z : isGenO ga) (ho : s.heap.get? ga.1.1 = some ga.1.2) (h : Q () s) : wpAny M A (letOwnedTupleGo tg (.ref ga.1.1) u) Q E s := by
  obtain ⟨nm, qn, h1, h2, h3⟩ := z
  exact go_of ho h1 h2 (by decide) h
theorem ds_forG {tg iter : Expr} {body orelse : List Stmt} {f : Ev → Sto → R (List D)} {T : Tg} {B Z : Ev → Sto → SR} {pos : Pos} (hp : PassesOwn (model X.prog X.w) X.A X.env X.xe) (hx : Calm X.xe) (hr : Room (k + 2) X.A) (hi : PGx X W k iter f) (hg : DG X tg T) (hb : DSs X W body B) (ho : DSs X W orelse Z)
    (hs : ∀ x, foldedSetIterable iter X.env x = pure x := by intro _; rfl) : DS X W (.For tg iter body orelse pos) (sForG f T B Z) := by
  refine ⟨fun pins s σ H E I ⟨ι, ρ, S, hE, hS, h⟩ => ?_⟩
  refine wpAny_For (thn (hi pins s σ H ι ρ S _ I hE hS (PostS.bind h hE)) fun v s1 h1 => ?_) hs
  obtain ⟨H1, ι1, S1, xs, G1, sm1, hq, env, ga, c0, pvp, rfl, zo, I1, cns, gat⟩ := h1
  refine wpAny_pyIter_gen (isGen_of zo (gat.obj ga.1 gat.mem).1) ?_
  refine codeAny_forLoop_any (fun n s' => ∃ (xs : List D) (st : GenState) (pvp : List (Addr × Obj)) (gs : List (Nat × GenState)) (ι' : List Addr) (ρ' : Ev) (S' : Sto) (σ' : St) (H' : Hp), n = xs.length ∧ Inv X pins σ' H' s' ∧ GAt X.prog X.w X.K X.mg X.base k env ga X pins xs st pvp gs H' s' ∧
    RepE X.K ι' H' σ' ρ' ∧ Sim X.K ι' H' S' ∧ PostS X.K W E ι' H' (forD yes T B Z xs ρ' S')) ?_ xs.length ⟨xs, _, pvp, [], ι1, ρ, S1, σ, H1, rfl, I1, gat, hE.grow G1, sm1, hq⟩
  rintro n s3 ⟨xs, st, pvp, gs, ι3, ρ3, S3, σ3, H3, rfl, I3, gat3, e3, sm3, h3⟩
  refine wpAny_passesOwn hp (wpAny_mono (gnext zo ⟨rfl, rfl, rfl, rfl, rfl⟩ hr cns I3 gat3) (fun r s4 h4 => ?_) fun _ _ z => z.elim)
  rcases h4 with ⟨rfl, rfl, H4, I4, sub⟩ | ⟨x, xs', u, vv, H4, st4, pvp4, gs4, rfl, rfl, rv, I4, sub, tx, rd, as4, nf4, gat4⟩
  · unfold forD at h3
    rw [if_pos (show yes S3 from trivial)] at h3
    exact wpAny_passesOwn hp (thn (ho.run pins s4 σ3 H4 E I4 ⟨ι3, ρ3, S3, e3.grow (Grow.all sub), sm3.all sub, PostS.grow h3 (Grow.all sub)⟩) fun fl s5 q5 => q5)
  · unfold forD at h3
    rw [if_pos (show yes S3 from trivial)] at h3
    have sm4 := sm3.all sub
    have e4 := e3.grow (Grow.all (ι := ι3) sub)
    refine go_gen zo (gat4.obj ga.1 gat4.mem).1 ?_
    cases hT : T x ρ3 S3 with
    | none => simp only [hT] at h3; exact h3.elim
    | some q =>
      obtain ⟨ρ1, S2⟩ := q
      simp only [hT] at h3
      refine wpAny_passesOwn hp (wpAny_mono (pg_kept (Q := fun σ' H' => ∃ ι', Grow ι3 H4 ι' H' ∧ Sim X.K ι' H' S2 ∧ RepE X.K ι' H' σ' ρ1) hx hg (gat_pin gat4 I4) rv ⟨ι3, ρ3, S3, x, ρ1, S2, e4, sm4, tt_in sm4 tx rd, hT, fun ι' H' σ' g' s' e' => ⟨ι', g', s', e'⟩⟩) (fun _ s6 h6 => ?_) fun _ _ z => z.1)
      obtain ⟨⟨σ6, H6, I6, ι6, g6, sm6, e6⟩, kp6⟩ := h6
      have gat6 := gat_step gat4 as4 nf4 I6 kp6 (tx_of sm4 g6)
      have h6 := PostS.grow (PostS.grow h3 (Grow.all sub)) g6
      have nxt : ∀ (ρ2 : Ev) (S5 : Sto), PostS X.K W E ι6 H6 (forD yes T B Z xs' ρ2 S5) → ∀ {σ7 : St} {H7 : Hp} {s7 : Shared} {ι7 : List Addr}, Inv X (pins ++ pvp4) σ7 H7 s7 → Kept s6 s7 → Grow ι6 H6 ι7 H7 → Sim X.K ι7 H7 S5 → RepE X.K ι7 H7 σ7 ρ2 →
          ∃ m, m < (x :: xs').length ∧ ∃ (xs : List D) (st : GenState) (pvp : List (Addr × Obj)) (gs : List (Nat × GenState)) (ι' : List Addr) (ρ' : Ev) (S' : Sto) (σ' : St) (H' : Hp), m = xs.length ∧ Inv X pins σ' H' s7 ∧ GAt X.prog X.w X.K X.mg X.base k env ga X pins xs st pvp gs H' s7 ∧
            RepE X.K ι' H' σ' ρ' ∧ Sim X.K ι' H' S' ∧ PostS X.K W E ι' H' (forD yes T B Z xs ρ' S') := by
        intro ρ2 S5 hps σ7 H7 s7 ι7 I7 kp7 g7 sm7 e7
        exact ⟨xs'.length, by simp, xs', st4, pvp4, gs4, ι7, ρ2, S5, σ7, H7, rfl, I7.unpinned, gat_step gat6 as4 nf4 I7 kp7 (tx_of sm6 g7), e7, sm7, PostS.grow hps g7⟩
      cases hB : B ρ1 S2 with
      | stuck => simp only [hB] at h6; exact h6.elim
      | nx ρ2 S5 =>
        simp only [hB] at h6
        refine wpAny_passesOwn hp (wpAny_mono (pss_kept (E := { nx := fun σ' H' => ∃ ι', Grow ι6 H6 ι' H' ∧ Sim X.K ι' H' S5 ∧ RepE X.K ι' H' σ' ρ2, rt := fun _ _ => False }) hx hb I6 ⟨ι6, ρ1, S2, e6, sm6, by rw [hB]; exact fun ι' H' σ' g' s' e' => ⟨ι', g', s', e'⟩⟩) (fun fl s7 h7 => ?_) fun _ _ z => z.1)
        obtain ⟨h7, kp7⟩ := h7
        cases fl with
        | next => obtain ⟨σ7, H7, I7, ι7, g7, sm7, e7⟩ := h7; exact nxt ρ2 S5 h6 I7 kp7 g7 sm7 e7
        | cont => obtain ⟨_, _, _, z⟩ := h7; exact z.elim
        | brk => obtain ⟨_, _, _, z⟩ := h7; exact z.elim
        | ret v => obtain ⟨_, _, _, _, _, z⟩ := h7; exact z.elim
      | ct ρ2 S5 =>
        simp only [hB] at h6
        refine wpAny_passesOwn hp (wpAny_mono (pss_kept (E := { nx := fun _ _ => False, rt := fun _ _ => False, ct := fun σ' H' => ∃ ι', Grow ι6 H6 ι' H' ∧ Sim X.K ι' H' S5 ∧ RepE X.K ι' H' σ' ρ2 }) hx hb I6 ⟨ι6, ρ1, S2, e6, sm6, by rw [hB]; exact fun ι' H' σ' g' s' e' => ⟨ι', g', s', e'⟩⟩) (fun fl s7 h7 => ?_) fun _ _ z => z.1)
        obtain ⟨h7, kp7⟩ := h7
        cases fl with
        | cont => obtain ⟨σ7, H7, I7, ι7, g7, sm7, e7⟩ := h7; exact nxt ρ2 S5 h6 I7 kp7 g7 sm7 e7
        | next => obtain ⟨_, _, _, z⟩ := h7; exact z.elim
        | brk => obtain ⟨_, _, _, z⟩ := h7; exact z.elim
        | ret v => obtain ⟨_, _, _, _, _, z⟩ := h7; exact z.elim
      | bk ρ2 S5 =>
        simp only [hB] at h6
        refine wpAny_passesOwn hp (thn (hb.run _ s6 σ6 H6 { nx := fun _ _ => False, rt := fun _ _ => False, bk := E.nx } I6 ⟨ι6, ρ1, S2, e6, sm6, by rw [hB]; exact h6⟩) fun fl s7 h7 => ?_)
        cases fl with
        | brk => obtain ⟨σ7, H7, I7, q7⟩ := h7; exact ⟨σ7, H7, I7.unpinned, q7⟩
        | next => obtain ⟨_, _, _, z⟩ := h7; exact z.elim
        | cont => obtain ⟨_, _, _, z⟩ := h7; exact z.elim
        | ret v => obtain ⟨_, _, _, _, _, z⟩ := h7; exact z.elim
      | rt d S5 =>
        simp only [hB] at h6
        refine wpAny_passesOwn hp (thn (hb.run _ s6 σ6 H6 { nx := fun _ _ => False, rt := E.rt } I6 ⟨ι6, ρ1, S2, e6, sm6, by rw [hB]; exact h6⟩) fun fl s7 h7 => ?_)
        cases fl with
        | ret v => obtain ⟨x7, σ7, H7, I7, r7, q7⟩ := h7; exact ⟨x7, σ7, H7, I7.unpinned, r7, q7⟩
        | next => obtain ⟨_, _, _, z⟩ := h7; exact z.elim
        | cont => obtain ⟨_, _, _, z⟩ := h7; exact z.elim
        | brk => obtain ⟨_, _, _, z⟩ := h7; exact z.elim
      | er x ρ2 S5 =>
        simp only [hB] at h6
        refine wpAny_passesOwn hp (thn (hb.run _ s6 σ6 H6 { nx := fun _ _ => False, rt := fun _ _ => False } I6 ⟨ι6, ρ1, S2, e6, sm6, by rw [hB]; exact h6⟩) fun fl s7 h7 => ?_)
        cases fl with
        | ret v => obtain ⟨_, _, _, _, _, z⟩ := h7; exact z.elim
        | next => obtain ⟨_, _, _, z⟩ := h7; exact z.elim
        | cont => obtain ⟨_, _, _, z⟩ := h7; exact z.elim
        | brk => obtain ⟨_, _, _, z⟩ := h7; exact z.elim
end
/-- a def's context looks at no generator -/
theorem calm_cx {P : Program} {w : World} {K : PySem.W.Frag} {mg : Str → Option Value} {base : Heap} {N : List Str} {qual : Str} {scope : Scope} {f : Addr} {cd : Value} {A : Around} {outer : List Env} {s : Shared} {H : Hp} {E : XK} : Calm (cxOf (L2.CX P w) P w K mg base N qual scope f cd A outer s H E).xe := by
  have hc : ∀ e, Calm (fun (_ : Unit) s'' => L2.CX P w outer H s E e s'') := fun e G b z _ l ⟨a, B, H', cls, d, z1, z2, z3, z4, z5, z6, z7, z8⟩ => ⟨a, B, H', cls, d, z1, by rw [l.heap]; exact z2, z3, by rw [l.heap]; exact z4, z5, by rw [l.os]; exact z6, l.bare z7, z8⟩
  have hd : Calm (fun e s'' => L2.CX P w outer H s E e s'') := fun G b z e l q => hc e G b z () l q
  exact calm_wpAny hc hd
end DL
namespace DL
open PySem L2
open PyProof.Rows hiding St
open Sem (wp)
end DL
namespace DL
open PySem PySem.Spec L2
open PyProof.Rows hiding St
section
variable {K : PySem.W.Frag} {ι : List Addr} {H : Hp}
def putD (f : Str) (d : D) : List (Str × D) → List (Str × D)
  | [] => [(f, d)]
  | (g, x) :: r => if g = f then (g, d) :: r else (g, x) :: putD f d r
theorem RepF.put {f : Str} {d : D} {v : V} (rv : RepV K ι H d v) : ∀ {fs : List (Str × D)} {vs : List (Str × V)}, RepF K ι H fs vs → RepF K ι H (putD f d fs) (putF f v vs)
  | [], _, r => by
    rw [RepF] at r
    subst r
    exact RepF.one rv
  | (k, x) :: fs, _, r => by
    rw [RepF] at r
    obtain ⟨u, vs, rfl, rx, rr⟩ := r
    unfold putD putF
    by_cases h : k = f
    · rw [if_pos h, if_pos h, RepF]
      exact ⟨v, vs, rfl, rv, rr⟩
    · rw [if_neg h, if_neg h, RepF]
      exact ⟨u, _, rfl, rx, RepF.put rv rr⟩
theorem RepF.len : ∀ {fs : List (Str × D)} {vs : List (Str × V)}, RepF K ι H fs vs → fs.length = vs.length
  | [], _, r => by rw [RepF] at r; subst r; rfl
  | (k, x) :: fs, _, r => by
    rw [RepF] at r
    obtain ⟨v, vs, rfl, rx, rr⟩ := r
    simp [RepF.len rr]
end
end DL
namespace DL
open PySem PySem.Spec L2
open PyProof.Rows hiding St
end DL
namespace DL
open PySem PySem.Spec L2
open PyProof.Rows hiding St
end DL
namespace DL
open PySem PySem.Spec L2
open PyProof.Rows hiding St
def keyOf : D → Option Key
  | .int i => some (.inl i)
  | .str x => some (.inr x)
  | _ => none
def putKD (kvs : List (Key × D)) (k : Key) (v : D) : List (Key × D) :=
  if (kvs.any fun kv => decide (kv.1 = k)) = true then kvs.map (fun kv => if kv.1 = k then (kv.1, v) else kv) else kvs ++ [(k, v)]
theorem RepK.any {K : PySem.W.Frag} {ι : List Addr} {H : Hp} {k : Key} : ∀ {kvs : List (Key × D)} {vs : List (Key × V)}, RepK K ι H kvs vs → (vs.any fun kv => decide (kv.1 = k)) = (kvs.any fun kv => decide (kv.1 = k))
  | [], _, h => by rw [RepK] at h; subst h; rfl
  | (j, x) :: kvs, _, h => by
    rw [RepK] at h
    obtain ⟨v, r, rfl, a, b⟩ := h
    rw [List.any_cons, List.any_cons, RepK.any b]
theorem RepK.repl {K : PySem.W.Frag} {ι : List Addr} {H : Hp} {k : Key} {d : D} {v : V} (rv : RepV K ι H d v) : ∀ {kvs : List (Key × D)} {vs : List (Key × V)}, RepK K ι H kvs vs → RepK K ι H (kvs.map fun kv => if kv.1 = k then (kv.1, d) else kv) (vs.map fun kv => if kv.1 = k then (kv.1, v) else kv)
  | [], _, h => by rw [RepK] at h; subst h; rw [List.map_nil, RepK]; rfl
  | (j, x) :: kvs, _, h => by
    rw [RepK] at h
    obtain ⟨w, r, rfl, a, b⟩ := h
    rw [List.map_cons, List.map_cons]
    by_cases hj : j = k
    · simp only [hj, if_true]
      rw [RepK]
      exact ⟨v, _, rfl, rv, RepK.repl rv b⟩
    · simp only [hj, if_false]
      rw [RepK]
      exact ⟨w, _, rfl, a, RepK.repl rv b⟩
theorem RepK.snoc {K : PySem.W.Frag} {ι : List Addr} {H : Hp} {k : Key} {d : D} {v : V} (rv : RepV K ι H d v) : ∀ {kvs : List (Key × D)} {vs : List (Key × V)}, RepK K ι H kvs vs → RepK K ι H (kvs ++ [(k, d)]) (vs ++ [(k, v)])
  | [], _, h => by rw [RepK] at h; subst h; rw [List.nil_append, RepK]; exact ⟨v, [], rfl, rv, by rw [RepK]⟩
  | (j, x) :: kvs, _, h => by
    rw [RepK] at h
    obtain ⟨w, r, rfl, a, b⟩ := h
    rw [List.cons_append, RepK]
    exact ⟨w, _, rfl, a, RepK.snoc rv b⟩
theorem RepK.put {K : PySem.W.Frag} {ι : List Addr} {H : Hp} {k : Key} {d : D} {v : V} {kvs : List (Key × D)} {vs : List (Key × V)} (h : RepK K ι H kvs vs) (rv : RepV K ι H d v) : RepK K ι H (putKD kvs k d) (putK vs k v) := by
  unfold putKD putK
  rw [RepK.any h]
  split
  · exact RepK.repl rv h
  · exact RepK.snoc rv h
theorem RepK.len {K : PySem.W.Frag} {ι : List Addr} {H : Hp} {kvs : List (Key × D)} {vs : List (Key × V)} (h : RepK K ι H kvs vs) : vs.length = kvs.length := by
  have := congrArg List.length (RepK.keys h)
  simpa using this
end DL
namespace DL
open PySem PySem.Spec L2
open PyProof.Rows hiding St
end DL
namespace DL
open PySem PySem.Spec L2
open PyProof.Rows hiding St
end DL
namespace DL
open PySem PySem.Spec L2
open PyProof.Rows hiding St
end DL
namespace DL
open PySem PySem.Spec L2
open PyProof.Rows hiding St
end DL
namespace DL
open PySem PySem.Spec L2
open PyProof.Rows hiding St
end DL
namespace DL
open PySem PySem.Spec L2 PySem.W
open PyProof.Rows hiding St
end DL
namespace DL
open PySem PySem.Spec L2 ClX
open PyProof.Rows hiding St
end DL
namespace DL
open PySem PySem.Spec L2
open PyProof.Rows hiding St
end DL
namespace DL
open PySem PySem.Spec L2 ClX
open PyProof.Rows hiding St
end DL
namespace DL
open PySem PySem.Spec L2
open PyProof.Rows hiding St
end DL
namespace DL
open PySem PySem.Spec L2
open PyProof.Rows hiding St
end DL
namespace DL
open PySem PySem.Spec L2
open PyProof.Rows hiding St
end DL
namespace DL
open PySem PySem.Spec L2
open PyProof.Rows hiding St
end DL
namespace DL
open PySem PySem.Spec L2
open PyProof.Rows hiding St
end DL
namespace DL
open PySem PySem.Spec L2
open PyProof.Rows hiding St
section
variable {X : Cx} {W : WX} {pos : Pos}
theorem RepK.at {K : PySem.W.Frag} {ι : List Addr} {H : Hp} : ∀ {kvs : List (Key × D)} {ws : List (Key × V)}, RepK K ι H kvs ws → kvs.length = ws.length ∧ ∀ (i : Nat) (q : Key × D), kvs[i]? = some q → ∃ v, ws[i]? = some (q.1, v) ∧ RepV K ι H q.2 v
  | [], _, h => by rw [RepK] at h; subst h; exact ⟨rfl, fun i q e => by simp at e⟩
  | (k, d) :: r, _, h => by
    rw [RepK] at h
    obtain ⟨v, ws, rfl, a, b⟩ := h
    obtain ⟨h1, h2⟩ := RepK.at b
    refine ⟨by simp [h1], fun i q e => ?_⟩
    cases i with
    | zero => simp at e; subst e; exact ⟨v, rfl, a⟩
    | succ i => exact h2 i q (by simpa using e)
end
end DL
namespace DL
open PySem PySem.Spec L2 PySem.W
open PyProof.Rows hiding St
end DL
namespace DL
open PySem PySem.Spec L2 GenW
open PyProof.Rows hiding St
open Sem (wp)
end DL
namespace DL
open PySem PySem.Spec L2
open PyProof.Rows hiding St
/-- the def at f does what F says, called by position -/
def FnN (gd : Bool) (P : Program) (w : World) (K : PySem.W.Frag) (mg : Str → Option Value) (base : Heap) (k : Nat) (f : Addr) (F : Fn) : Prop :=
  ∀ (A : Around) (outer : List Env) (s : Shared) (H : Hp) (us : List Value) (vs : List V) (Q : VK) (E : XK), Room k A → (gd = true → A.guards = some []) → Env0 P w K mg base A outer s H → Vals vs us → spD K F vs H Q E →
    codeAny (model P w) A (.call (.ref f) ⟨us, []⟩) (CR (L2N.CX P w) outer P w H s Q E) s
theorem FnN.mono {gd : Bool} {P : Program} {w : World} {K : PySem.W.Frag} {mg : Str → Option Value} {base : Heap} {j k : Nat} {f : Addr} {F : Fn} (h : FnN gd P w K mg base j f F) (hj : j ≤ k) : FnN gd P w K mg base k f F :=
  fun A outer s H us vs Q E hr => h A outer s H us vs Q E (hr.mono hj)
end DL
namespace G3
open PySem PySem.Spec L2 DL
open PyProof.Rows hiding St
abbrev ZF := Heap → Hp → Value → Option Addr → Obj → Prop
def XE (Z : ZF) (X : Cx) (W : WX) (u : Value) (s' : Shared) : Prop :=
  ∃ (a : Addr) (B : Heap) (sI : Shared) (pins : List (Addr × Obj)) (σ : L2.St) (H : Hp) (cls : Value) (d : Option Addr), u = .ref a ∧ Inv X pins σ H sI ∧
    (∀ b o, sI.heap.get? b = some o → b ∉ frs X.stack → B.get? b = some o) ∧ sI.heap.UpToSlots s'.heap ∧ Sky B X.stack a (Z B H cls d) X.env.locals s'.heap ∧ H a = none ∧ s'.os = sI.os ∧ AllBare s'.gens ∧ W cls d σ H
def Takes (Z : ZF) (X : Cx) (W : WX) : Prop := ∀ u s', XE Z X W u s' → X.xe u s'
def CX (Z : ZF) (P : Program) (w : World) (outer : List Env) (H : Hp) (s : Shared) (E : XK) (u : Value) (s' : Shared) : Prop :=
  ∃ (a : Addr) (B : Heap) (H' : Hp) (cls : Value) (d : Option Addr), u = .ref a ∧ HandSPX.FlyingZ B outer a (Z B H' cls d) s'.heap ∧ HOk P w H' B ∧ UB (frs outer) H H' s.heap B s'.heap ∧ H' a = none ∧ s'.os = s.os ∧ AllBare s'.gens ∧ E cls d H'
theorem sky_imp {B h : Heap} {l : List Env} {a L : Addr} {Z Z' : Obj → Prop} (z : ∀ o, Z o → Z' o) (x : Sky B l a Z L h) : Sky B l a Z' L h := by
  rcases x with ⟨h1, h2, h3, oe, vs, e, q, r⟩ | x | ⟨h1, h2, h3, x⟩
  · exact .inl ⟨h1, h2, h3, oe, vs, e, z _ q, r⟩
  · exact .inr (.inl (L2H.flyingZ_imp z x))
  · exact .inr (.inr ⟨h1, h2, h3, L2H.tracedZ_imp z x⟩)
section
variable {Z : ZF} {X : Cx} {pins : List (Addr × Obj)} {σ : L2.St} {H : Hp} {sI s s' : Shared} {W : WX} {E : XK}
theorem XE.imp {Z' : ZF} (z : ∀ B H cls d o, Z B H cls d o → Z' B H cls d o) {u : Value} (x : XE Z X W u s') : XE Z' X W u s' := by
  obtain ⟨a, B, sI, pins, σ, H, cls, d, e, I, nb, up, sky, r⟩ := x
  exact ⟨a, B, sI, pins, σ, H, cls, d, e, I, nb, up, sky_imp (z B H cls d) sky, r⟩
/-- the parts of a heap that a def of ours may see: the ground and the frames -/
theorem seen (B h : Heap) (fr : List Addr) (st : B.StaysIn h) : ∃ G : Heap, (∀ b, (B.get? b).isSome = true ∨ b ∈ fr → G.get? b = h.get? b) ∧ (∀ b o, G.get? b = some o → h.get? b = some o ∧ ((B.get? b).isSome = true ∨ b ∈ fr)) ∧ (∀ b o, B.get? b = some o → G.get? b = some o) ∧ ∀ b o, G.get? b = some o → b ∉ fr → B.get? b = some o := by
  obtain ⟨G, g1, g2⟩ := restrict h fun b => (B.get? b).isSome || decide (b ∈ fr)
  have a1 : ∀ b, (B.get? b).isSome = true ∨ b ∈ fr → G.get? b = h.get? b := fun b z => g1 b (by simpa using z)
  have a2 : ∀ b o, G.get? b = some o → h.get? b = some o ∧ ((B.get? b).isSome = true ∨ b ∈ fr) := fun b o e => by
    cases q : ((B.get? b).isSome || decide (b ∈ fr)) with
    | false => rw [g2 b q] at e; cases e
    | true => exact ⟨(g1 b q).symm.trans e, by simpa using q⟩
  refine ⟨G, a1, a2, fun b o e => (a1 b (.inl (by rw [e]; rfl))).trans (st b o e), fun b o e hb => ?_⟩
  obtain ⟨e1, z | z⟩ := a2 b o e
  · obtain ⟨o', q⟩ := Option.isSome_iff_exists.mp z
    rw [st b o' q] at e1
    cases e1
    exact q
  · exact absurd z hb
theorem XE.new {a : Addr} {oe : Obj} {vs : Array Value} {cls : Value} {d : Option Addr} (I : Inv X pins σ H sI) (k : ∀ b o, sI.heap.get? b = some o → s'.heap.get? b = some o) (hne : sI.heap.get? a = none) (he : s'.heap.get? a = some oe)
    (hz : Z (PySem.W.hideAll sI.heap (frs X.stack)) H cls d oe) (hd : oe.data = .fields vs) (h1 : vs[1]? = some .none) (na : H a = none) (os : s'.os = sI.os) (ag : AllBare s'.gens) (w : W cls d σ H) : XE Z X W (.ref a) s' := by
  have hB : ∀ b o, (PySem.W.hideAll sI.heap (frs X.stack)).get? b = some o → sI.heap.get? b = some o := fun b o e => PySem.W.of_hideAll _ e
  have nB : (PySem.W.hideAll sI.heap (frs X.stack)).get? a = none := by
    cases q : (PySem.W.hideAll sI.heap (frs X.stack)).get? a with
    | none => rfl
    | some o => rw [hB a o q] at hne; cases hne
  have ff : s'.heap.FunFrames (PySem.W.hideAll sI.heap (frs X.stack)) X.stack := Heap.FunFrames.of_keeps (fun b o e _ => ⟨o, k b o e, rfl⟩) (funFrames_none I.stack fun b hb => PySem.W.hideAll_none _ hb)
  exact ⟨a, _, sI, pins, σ, H, cls, d, rfl, I, fun b o e hb => PySem.W.hideAll_get _ e hb, Heap.UpToSlots.of_keeps k, .inl ⟨fun b o e => k b o (hB b o e), nB, ff, oe, vs, he, hz, hd, h1⟩, na, os, ag, w⟩
end
/-- the error's context is none, or an error on the ground whose context is none -/
def Z3 : ZF := fun B H cls d o => Zc cls d o ∧ (PXN.CtxN o ∨ ∃ (c : Addr) (oc : Obj) (us : Array Value), (∀ vs, o.data = .fields vs → vs[2]? = some (.ref c)) ∧ B.get? c = some oc ∧ oc.data = .fields us ∧ us[2]? = some .none ∧ H c = none)
/-- the handled error and its chain, as they stand -/
def HotQ (A : Around) (h : Heap) : Prop := ∃ (x1 : Addr) (o : Obj) (vs : Array Value), A.handled = some (.ref x1) ∧ h.get? x1 = some o ∧ o.data = .fields vs ∧
  (vs[2]? = some .none ∨ ∃ (c : Addr) (oc : Obj) (us : Array Value), vs[2]? = some (.ref c) ∧ c ≠ x1 ∧ h.get? c = some oc ∧ oc.data = .fields us ∧ us[2]? = some .none)
theorem HotQ.keeps {A : Around} {h h' : Heap} (x : HotQ A h) (k : ∀ b o, h.get? b = some o → (∃ vs, o.data = .fields vs) → h'.get? b = some o) : HotQ A h' := by
  obtain ⟨x1, o, vs, h1, h2, h3, h4⟩ := x
  refine ⟨x1, o, vs, h1, k _ _ h2 ⟨vs, h3⟩, h3, h4.imp id fun ⟨c, oc, us, q1, q2, q3, q4, q5⟩ => ⟨c, oc, us, q1, q2, k _ _ q3 ⟨us, q4⟩, q4, q5⟩⟩
/-- the context bears the handled error and its chain -/
def HotZ (X : Cx) : Prop := ∃ (p : Addr × Obj) (vs : Array Value), X.A.handled = some (.ref p.1) ∧ p ∈ X.pn ∧ p.2.data = .fields vs ∧
  (vs[2]? = some .none ∨ ∃ (q : Addr × Obj) (us : Array Value), vs[2]? = some (.ref q.1) ∧ q.1 ≠ p.1 ∧ q ∈ X.pn ∧ q.2.data = .fields us ∧ us[2]? = some .none)
theorem HotZ.at {X : Cx} {pins : List (Addr × Obj)} {σ : L2.St} {H : Hp} {s : Shared} (c : HotZ X) (I : Inv X pins σ H s) : HotQ X.A s.heap := by
  obtain ⟨p, vs, h1, h2, h3, h4⟩ := c
  have at_ : ∀ q ∈ X.pn, s.heap.get? q.1 = some q.2 := fun q hq => (I.pin q (List.mem_append_left _ hq)).1
  exact ⟨p.1, p.2, vs, h1, at_ p h2, h3, h4.imp id fun ⟨q, us, q1, q2, q3, q4, q5⟩ => ⟨q.1, q.2, us, q1, q2, at_ q q3, q4, q5⟩⟩
end G3
namespace DL
open PySem PySem.Spec L2
open PyProof.Rows hiding St
/-- the def at f does what F says, called by position -/
def FnG (gd : Bool) (P : Program) (w : World) (K : PySem.W.Frag) (mg : Str → Option Value) (base : Heap) (k : Nat) (f : Addr) (F : Fn) : Prop :=
  ∀ (A : Around) (outer : List Env) (s : Shared) (H : Hp) (us : List Value) (vs : List V) (Q : VK) (E : XK), Room k A → (gd = true → A.guards = some []) → Env0 P w K mg base A outer s H → Vals vs us → spD K F vs H Q E →
    codeAny (model P w) A (.call (.ref f) ⟨us, []⟩) (CR (G3.CX G3.Z3 P w) outer P w H s Q E) s
theorem FnG.mono {gd : Bool} {P : Program} {w : World} {K : PySem.W.Frag} {mg : Str → Option Value} {base : Heap} {j k : Nat} {f : Addr} {F : Fn} (h : FnG gd P w K mg base j f F) (hj : j ≤ k) : FnG gd P w K mg base k f F :=
  fun A outer s H us vs Q E hr => h A outer s H us vs Q E (hr.mono hj)
end DL
namespace DL
open PySem PySem.Spec L2
open PyProof.Rows hiding St
end DL
namespace DL
open PySem PySem.Spec L2
open PyProof.Rows hiding St
end DL
namespace DL
open PySem PySem.Spec L2
open PyProof.Rows hiding St
end DL
namespace HotY
open PySem PySem.Spec PyProof.Rows L2 L2H HotX
abbrev St := L2.St
/-- the handled error stands in every state of the context, its context None, and is none of fp -/
def HotI (X : Cx) (fp : List Addr) : Prop := ∀ (pins : List (Addr × Obj)) (σ : St) (H : Hp) (s : Shared), Inv X pins σ H s → ∃ x1, HotAt X.A x1 s.heap ∧ x1 ∉ fp
/-- it is pinned -/
def HotP (X : Cx) : Prop := ∃ p : Addr × Obj, Hot1 X.A p ∧ p ∈ X.pn
theorem HotP.blk {X : Cx} {pins : List (Addr × Obj)} {σ : St} {H : Hp} {s : Shared} {scope : Scope} {env : Env} {fp : List Addr} (h : HotP X) (I : Inv X pins σ H s) (hf : ∀ b ∈ fp, FpOk X pins H b) : HotI (X.blk s H scope env fp) fp := fun pins' σ' H' s' I' => by
  obtain ⟨p, ⟨hh, v1, e1, c1⟩, hp⟩ := h
  obtain ⟨p1, p2, p3, p4, p5⟩ := I.pin p (List.mem_append_left _ hp)
  have nf : p.1 ∉ fp := fun hm => (hf p.1 hm).2.2.2.2.2 p (List.mem_append_left _ hp) rfl
  have ns : p.1 ∉ frs X.stack := fun hm => (List.mem_cons.mp (I.stkSub p.1 hm)).elim p3 p4
  exact ⟨p.1, ⟨hh, p.2, v1, I'.base.keep p.1 p.2 p1 p2 ns nf, e1, c1⟩, nf⟩
theorem HotI.nil {X : Cx} {fp : List Addr} (h : HotI X fp) : HotI X [] := fun pins σ H s I => by
  obtain ⟨x1, a, _⟩ := h pins σ H s I
  exact ⟨x1, a, by simp⟩
structure TurnQ (P : Program) (w : World) (K : PySem.W.Frag) (tg : Expr) (J : It) (fp : List Addr) (it : Addr) (tn : Nat → Heap → Prop) : Prop where
  mem : it ∈ fp
  obj : ∀ i h, tn i h → ∀ b ∈ fp, ∃ o, h.get? b = some o ∧ ∀ v, o.data ≠ .cell v
  keep : ∀ i h h', tn i h → (∀ b ∈ fp, ∀ o, h.get? b = some o → h'.get? b = some o) → tn i h'
  item : ∀ (X : Cx), X.prog = P → X.w = w → X.K = K → HotI X fp → ∀ (i : Nat) (pins : List (Addr × Obj)) (s : Shared) (σ : St) (H : Hp) (E : Value → Shared → Prop), Inv X pins σ H s → (∀ b ∈ fp, FpOk X pins H b) → tn i s.heap → J.go i H →
    wpAny (model P w) X.A (pyNext (.ref it)) (fun r s1 => ∃ u, r = some u ∧
      wpAny (model P w) X.A (letOwnedTupleGo tg (.ref it) u) (fun _ s2 => ∃ x H', Inv X pins σ H' s2 ∧ RelV x u ∧ J.yld i H x H' ∧ tn (i + 1) s2.heap ∧ ∀ b ∈ fp, H' b = none) E s1) E s
  done : ∀ (X : Cx), X.prog = P → X.w = w → X.K = K → HotI X fp → ∀ (i : Nat) (pins : List (Addr × Obj)) (s : Shared) (σ : St) (H : Hp) (E : Value → Shared → Prop), Inv X pins σ H s → (∀ b ∈ fp, FpOk X pins H b) → tn i s.heap → J.stop i H →
    wpAny (model P w) X.A (pyNext (.ref it)) (fun r s1 => r = none ∧ Inv X pins σ H s1) E s
  self : ∀ (A : Around) (i : Nat) (s : Shared) (Q : Value → Shared → Prop) (E : Value → Shared → Prop), tn i s.heap → Q (.ref it) s → wpAny (model P w) A (pyIter (.ref it)) Q E s
def PIEQ (X : Cx) (pins : List (Addr × Obj)) (σ : St) (tg : Expr) (R : It → Hp → Prop) (itv : Value) (s2 : Shared) : Prop :=
  ∃ (it : Addr) (fp : List Addr) (tn : Nat → Heap → Prop) (J : It) (H' : Hp), itv = .ref it ∧ Inv X pins σ H' s2 ∧ TurnQ X.prog X.w X.K tg J fp it tn ∧ tn 0 s2.heap ∧ (∀ b ∈ fp, FpOk X pins H' b) ∧ R J H'
structure PIQ (X : Cx) (tg iter : Expr) (wi : TI) : Prop where
  run : ∀ (pins : List (Addr × Obj)) (s : Shared) (σ : St) (H : Hp) (R : It → Hp → Prop), Inv X pins σ H s → wi σ H R →
    wpAny (model X.prog X.w) X.A (eval iter X.env) (fun v s1 => wpAny (model X.prog X.w) X.A (pyIter v) (PIEQ X pins σ tg R) X.xe s1) X.xe s
end HotY
namespace DL
open PySem PySem.Spec L2 HotY
open PyProof.Rows hiding St
theorem PIQ.imp {X : Cx} {tg e : Expr} {t u : TI} (h : PIQ X tg e t) (i : ∀ σ H Q, u σ H Q → t σ H Q) : PIQ X tg e u := ⟨fun pins s σ H Q I q => h.run pins s σ H Q I (i σ H Q q)⟩
end DL
namespace DL
open PySem PySem.Spec L2 HotY
open PyProof.Rows hiding St
def DOk (H : Hp) (dd : Option Addr) : Prop := dd = none ∨ ∃ d vs, dd = some d ∧ H d = some (.xd vs)
theorem DOk.upd {H : Hp} {dd : Option Addr} {q : Addr} {o : HO} (h : DOk H dd) (hq : H q = none) : DOk (L2.upd H q o) dd := h.imp id fun ⟨d, vs, e, x⟩ => ⟨d, vs, e, by rw [upd_ne (ne_of_none x hq)]; exact x⟩
end DL
namespace DL
open PySem PySem.Spec L2 HotY
open PyProof.Rows hiding St
def FnE (P : Program) (w : World) (K : PySem.W.Frag) (mg : Str → Option Value) (base : Heap) (k : Nat) (f : Addr) (G : Cn → Option Str) : Prop :=
  ∀ (CX : CXT) (A : Around) (outer : List Env) (s : Shared) (H : Hp) (Q : VK) (E : XK) (p : Addr × Obj) (c : Cn) (w' : Str) (ι : List Addr) (S : Sto), L2H.RoomH k A → L2H.Hot1 A p → L2H.PinOk outer H s p → Env0 P w K mg base A outer s H → (∃ C, p.2.cls = .ref C ∧ RepC K c (.ref C)) → DOk H p.2.dict → G c = some w' →
    Sim K ι H S → (∀ ι' H', Grow ι H ι' H' → Sim K ι' H' S → Q (.str w') H') → codeAny (model P w) A (.call (.ref f) ⟨[.ref p.1], []⟩) (CR CX outer P w H s Q E) s
theorem FnE.mono {P : Program} {w : World} {K : PySem.W.Frag} {mg : Str → Option Value} {base : Heap} {j k : Nat} {f : Addr} {G : Cn → Option Str} (h : FnE P w K mg base j f G) (hj : j ≤ k) : FnE P w K mg base k f G :=
  fun CX A outer s H Q E p c w' ι S hr => h CX A outer s H Q E p c w' ι S (hr.mono hj)
end DL
namespace DL
open PySem PySem.Spec L2 HotY
open PyProof.Rows hiding St
end DL
namespace DL
open PySem PySem.Spec L2 HotY
open PyProof.Rows hiding St
end DL
namespace DL
open PySem PySem.Spec L2
open PyProof.Rows hiding St
def keysOf : List D → Option (List Key)
  | [] => some []
  | d :: ds => (keyOf d).bind fun k => (keysOf ds).map fun ks => k :: ks
def getT (S : Sto) (d : D) : Option (List (List Key × D)) := match d with
  | .loc n => (match S[n]? with
    | some (.dkt kvs) => some kvs
    | _ => none)
  | _ => none
def lookT (kvs : List (List Key × D)) (k : List Key) : Option D := (kvs.find? fun kv => decide (kv.1 = k)).map (·.2)
def putTD (kvs : List (List Key × D)) (k : List Key) (v : D) : List (List Key × D) :=
  if (kvs.any fun kv => decide (kv.1 = k)) = true then kvs.map (fun kv => if kv.1 = k then (kv.1, v) else kv) else kvs ++ [(k, v)]
section
variable {K : PySem.W.Frag} {ι : List Addr} {H : Hp} {k : List Key} {d : D} {v : V}
theorem RepKT.keys : ∀ {kvs : List (List Key × D)} {vs : List (List Key × V)}, RepKT K ι H kvs vs → vs.map (·.1) = kvs.map (·.1)
  | [], _, h => by rw [RepKT] at h; subst h; rfl
  | (j, x) :: kvs, _, h => by
    rw [RepKT] at h
    obtain ⟨v, r, rfl, a, b⟩ := h
    rw [List.map_cons, List.map_cons, RepKT.keys b]
theorem RepKT.any : ∀ {kvs : List (List Key × D)} {vs : List (List Key × V)}, RepKT K ι H kvs vs → (vs.any fun kv => decide (kv.1 = k)) = (kvs.any fun kv => decide (kv.1 = k))
  | [], _, h => by rw [RepKT] at h; subst h; rfl
  | (j, x) :: kvs, _, h => by
    rw [RepKT] at h
    obtain ⟨v, r, rfl, a, b⟩ := h
    rw [List.any_cons, List.any_cons, RepKT.any b]
theorem RepKT.repl (rv : RepV K ι H d v) : ∀ {kvs : List (List Key × D)} {vs : List (List Key × V)}, RepKT K ι H kvs vs → RepKT K ι H (kvs.map fun kv => if kv.1 = k then (kv.1, d) else kv) (vs.map fun kv => if kv.1 = k then (kv.1, v) else kv)
  | [], _, h => by rw [RepKT] at h; subst h; rw [List.map_nil, RepKT]; rfl
  | (j, x) :: kvs, _, h => by
    rw [RepKT] at h
    obtain ⟨w, r, rfl, a, b⟩ := h
    rw [List.map_cons, List.map_cons]
    by_cases hj : j = k
    · simp only [hj, if_true]
      rw [RepKT]
      exact ⟨v, _, rfl, rv, RepKT.repl rv b⟩
    · simp only [hj, if_false]
      rw [RepKT]
      exact ⟨w, _, rfl, a, RepKT.repl rv b⟩
theorem RepKT.snoc (rv : RepV K ι H d v) : ∀ {kvs : List (List Key × D)} {vs : List (List Key × V)}, RepKT K ι H kvs vs → RepKT K ι H (kvs ++ [(k, d)]) (vs ++ [(k, v)])
  | [], _, h => by rw [RepKT] at h; subst h; rw [List.nil_append, RepKT]; exact ⟨v, [], rfl, rv, by rw [RepKT]⟩
  | (j, x) :: kvs, _, h => by
    rw [RepKT] at h
    obtain ⟨w, r, rfl, a, b⟩ := h
    rw [List.cons_append, RepKT]
    exact ⟨w, _, rfl, a, RepKT.snoc rv b⟩
theorem RepKT.put {kvs : List (List Key × D)} {vs : List (List Key × V)} (h : RepKT K ι H kvs vs) (rv : RepV K ι H d v) : RepKT K ι H (putTD kvs k d) (putK vs k v) := by
  unfold putTD putK
  rw [RepKT.any h]
  split
  · exact RepKT.repl rv h
  · exact RepKT.snoc rv h
theorem RepKT.len {kvs : List (List Key × D)} {vs : List (List Key × V)} (h : RepKT K ι H kvs vs) : vs.length = kvs.length := by
  have := congrArg List.length (RepKT.keys h)
  simpa using this
end
end DL
namespace DL
open PySem PySem.Spec L2
open PyProof.Rows hiding St
end DL
namespace DL
open PySem PySem.Spec L2
open PyProof.Rows hiding St
end DL
namespace DL
open PySem PySem.Spec PyProof.Rows L2
open PyProof.Rows hiding St
/-- the members, ascending -/
def ins (x : Int) : List Int → List Int
  | [] => [x]
  | y :: l => if x < y then x :: y :: l else if x = y then y :: l else y :: ins x l
theorem Post.grow {α : Type} {K : PySem.W.Frag} {W : WX} {σ : L2.St} {ι ι' : List Addr} {H H' : Hp} {r : R α} {P : α → Sto → List Addr → Hp → Prop} (h : Post K W σ ι H r P) (g : Grow ι H ι' H') : Post K W σ ι' H' r P := by
  cases r with
  | stuck => exact h
  | ok a S => exact fun ι2 H2 G2 s2 => h ι2 H2 (g.trans G2) s2
  | er e S => exact fun ι2 H2 cls dd G2 s2 => h ι2 H2 cls dd (g.trans G2) s2
theorem RepL.ints {K : PySem.W.Frag} {ι : List Addr} {H : Hp} : ∀ is : List Int, RepL K ι H (is.map D.int) (is.map V.int)
  | [] => RepL.nil
  | i :: is => by
    rw [List.map_cons, List.map_cons, RepL]
    exact ⟨_, _, rfl, int_rep, RepL.ints is⟩
end DL
namespace DL
open PySem PySem.Spec L2
open PyProof.Rows hiding St
end DL
namespace DL
open PySem PySem.Spec L2
open PyProof.Rows hiding St
end DL
namespace DL
open PySem PySem.Spec L2 ClX
open PyProof.Rows hiding St
end DL
namespace DL
open PySem PySem.Spec L2 ClX
open PyProof.Rows hiding St
end DL
namespace DL
open PySem PySem.Spec L2 ClX
open PyProof.Rows hiding St
end DL
namespace DL
open PySem PySem.Spec L2 ClX
open PyProof.Rows hiding St
end DL
namespace DL
open PySem PySem.Spec L2
open PyProof.Rows hiding St
end DL
namespace DL
open PySem PySem.Spec L2 ClX
open PyProof.Rows hiding St
end DL
namespace DL
open PySem PySem.Spec L2 ClX
open PyProof.Rows hiding St
end DL
namespace DL
open PySem PySem.Spec L2
open PyProof.Rows hiding St
def repN (c z : Nat) (l : List Nat) : List Nat := l.map fun d => if d = c then z else d
def repC (c z : Nat) (w : Str) : Str := ⟨(repN c z w.cps.toList).toArray⟩
theorem replL_one (c z : Nat) : ∀ l : List Nat, PySem.StrLaws.replL [c] [z] l = repN c z l
  | [] => PySem.StrLaws.replL_nil
  | d :: l => by
    have ih := replL_one c z l
    by_cases h : d = c
    · subst h
      rw [PySem.StrLaws.replL_hit (by simp) (by simp)]
      show [z] ++ PySem.StrLaws.replL [d] [z] l = _
      rw [ih]
      simp [repN]
    · rw [PySem.StrLaws.replL_miss (by simp [h]), ih]
      simp [repN, h]
theorem str_of_list {a b : Str} (h : a.cps.toList = b.cps.toList) : a = b := by
  obtain ⟨x⟩ := a
  obtain ⟨y⟩ := b
  have : x = y := Array.toList_inj.mp h
  rw [this]
theorem repl_one (c z : Nat) (w : Str) : Txt.replace w ⟨#[c]⟩ ⟨#[z]⟩ = repC c z w := by
  refine str_of_list ?_
  rw [PySem.StrLaws.replace_list (by show 1 ≤ 1; omega)]
  show PySem.StrLaws.replL [c] [z] w.cps.toList = _
  rw [replL_one]
  simp [repC]
theorem repC_len (c z : Nat) (w : Str) : (repC c z w).length = w.length := by
  simp [repC, repN, Str.length]
def repAll (z : Nat) (cs : List Nat) (w : Str) : Str := cs.foldl (fun w c => repC c z w) w
theorem repAll_len (z : Nat) : ∀ (cs : List Nat) (w : Str), (repAll z cs w).length = w.length
  | [], _ => rfl
  | c :: cs, w => by
    show (repAll z cs (repC c z w)).length = _
    rw [repAll_len z cs, repC_len]
theorem repAll_snoc (z : Nat) (cs : List Nat) (c : Nat) (w : Str) : repAll z (cs ++ [c]) w = repC c z (repAll z cs w) := by
  unfold repAll
  rw [List.foldl_append]; rfl
section
variable {X : Cx} {pins : List (Addr × Obj)} {σ : L2.St} {H : Hp} {s : Shared}
/-- a value is stored under a plain local name: the name holds this very value -/
theorem store_raw {M : Model} {A : Around} {E : Value → Shared → Prop} {i : Nat} {x : Str} {v : V} {u : Value} {Q : Unit → Shared → Prop} (J : Inv X pins σ H s) (nd : X.N.Nodup) (at_ : X.N[i]? = some x) (lo : X.env.scope.names.lookup x = some .local) (rv : RelV v u)
    (fin : ∀ hp m', hp.Ns X.env.locals m' → m' x = some u → Heap.SameBut X.env.locals s.heap hp → Inv X pins (σ.set i (some v)) H { s with heap := hp, toks := s.toks + 1 } → Q () { s with heap := hp, toks := s.toks + 1 }) : wpAny M A (storeName X.env x u) Q E s := by
  obtain ⟨m, ns, look⟩ := id J.loc
  have kd : (X.env.scope.kind == .class || (X.env.scope.kind == .module && X.env.locals != X.env.globals)) = false := by rw [J.ok.kind]; rfl
  have ilt : i < σ.length := by rw [J.len]; exact (List.getElem?_eq_some_iff.mp at_).1
  have cn := J.cne
  obtain ⟨ol, _, _, hol, _⟩ := id ns
  refine wpAny_storeName_local lo ns (fun hp ns' sb => ?_) kd
  have up : ∀ b o, X.s_0.heap.get? b = some o → hp.get? b = s.heap.get? b := fun b o e => sb.2 b (Nat.ne_of_lt (Nat.lt_of_lt_of_le (Heap.lt_size e) J.ok.above))
  have hk : HOk X.prog X.w H hp := fun b ob e => by
    refine (J.hok b ob e).stay (fun c w' hc q => (sb.2 c fun ec => ?_).trans q) (fun _ q => q) fun _ _ q => q
    rw [ec] at hc
    rcases hc with z | z
    · rw [← z, J.free] at e; cases e
    · rw [J.free] at z; cases z
  refine fin hp _ ns' (by simp) sb ⟨J.ok, J.os, J.bare, ⟨fun b o e n hb hx => (up b o e).trans (J.base.keep b o e n hb hx), fun b o e n hb hx => ?_, J.base.free, fun b o e hx => ?_, J.base.tups, J.base.frzs, J.base.tbls⟩, ⟨_, ns', fun j y w e1 e2 e3 => ?_⟩, fun y c e => ?_, J.free, J.freeC, fun p hpp => ?_, hk, ?_⟩
  · obtain ⟨sl, q⟩ := J.base.slot b o e n hb hx
    exact ⟨sl, (up b o e).trans q⟩
  · obtain ⟨o2, q⟩ := J.base.there b o e hx
    exact ⟨o2, (up b o e).trans q⟩
  · by_cases ej : j = i
    · rw [ej] at e1 e2
      rw [at_] at e1
      rw [List.getElem?_set_self ilt] at e2
      cases e1
      cases e2
      exact ⟨u, rv, .inl ⟨lo, by simp⟩⟩
    · rw [List.getElem?_set_ne (Ne.symm ej)] at e2
      obtain ⟨u2, r2, lk⟩ := look j y w e1 e2 e3
      refine ⟨u2, r2, ?_⟩
      rcases lk with ⟨k, z⟩ | ⟨k, c, z1, z2⟩
      · have yx : y ≠ x := fun ey => ej (nodup_ix nd e1 (by rw [ey]; exact at_))
        exact .inl ⟨k, by simp [yx, z]⟩
      · exact .inr ⟨k, c, z1, z2.sameBut sb (cn y c z1)⟩
  · obtain ⟨w2, z⟩ := J.cell y c e
    exact ⟨w2, z.sameBut sb (cn y c e)⟩
  · obtain ⟨q1, q2, q3, q4, q5⟩ := J.pin p hpp
    exact ⟨(sb.2 p.1 q3).trans q1, q2, q3, q4, q5⟩
  · rw [List.length_set]; exact J.len
/-- the loop: the text at ix, the sign's name at is; zc the new sign -/
def tRepl (ix is : Nat) (cs : Str) (zc : Nat) : TS := fun D σ H => ∃ w c0, σ[ix]? = some (some (.str w)) ∧ (is < σ.length) ∧ w.length + (w.length + 1) * 1 ≤ 16777216 ∧ cs.cps.toList.getLast? = some c0 ∧ D.nx ((σ.set is (some (.str ⟨#[c0]⟩))).set ix (some (.str (repAll zc cs.cps.toList w)))) H
theorem ps_repl {ix is : Nat} {xt xs cs z : Str} {zc : Nat} {j j2 : Nat} {p1 p2 p3 p4 ap cp cp2 cpos apos pos : Pos} (hne : is ≠ ix) (hc : X.calm = true) (nd : X.N.Nodup) (ht : X.N[ix]? = some xt) (hs : X.N[is]? = some xs) (lt : X.env.scope.names.lookup xt = some .local) (ls : X.env.scope.names.lookup xs = some .local)
    (hz : z = ⟨#[zc]⟩ := by decide +kernel) (has : cs.cps.all (· < 128) = true := by decide +kernel) (hno : zc ∉ cs.cps.toList := by decide +kernel)
    (dt : (xt == ("__debug__" : Str)) = false := by decide) (ct : (xt == ("__classdict__" : Str)) = false := by decide) (ds : (xs == ("__debug__" : Str)) = false := by decide)
    (hst : starEach [.Name xs p4, .Constant (.str z) j2 cp2] X.env = [(false, eval (.Name xs p4) X.env), (false, eval (.Constant (.str z) j2 cp2) X.env)] := by rfl)
    (hb : attributeBase (.Name xt p3) "replace" X.env (eval (.Name xt p3) X.env) = eval (.Name xt p3) X.env := by rfl) (hl : (ap.endLine == cpos.line) = true := by rfl)
    (hf : ∀ x, foldedSetIterable (.Constant (.str cs) j cp) X.env x = pure x := by intro _; rfl)
    (hw : swapsWith (.Call (.Attribute (.Name xt p3) "replace" ap) [.Name xs p4, .Constant (.str z) j2 cp2] [] cpos) (some (.Name xt p2)) apos.line X.env = pure false := by rfl) :
    PS X (.For (.Name xs p1) (.Constant (.str cs) j cp) [.Assign [.Name xt p2] (.Call (.Attribute (.Name xt p3) "replace" ap) [.Name xs p4, .Constant (.str z) j2 cp2] [] cpos) apos] [] pos) (tRepl ix is cs zc) := by
  refine ⟨fun pins s σ H D I ⟨w, c0, hσ, hsl, hw2, hlast, q⟩ => ?_⟩
  have hixl : ix < σ.length := (List.getElem?_eq_some_iff.mp hσ).1
  refine wpAny_For (Calls.Constant_str (wpAny_pyIter_ascii has ?_)) hf
  -- the iterator
  obtain ⟨it, hit⟩ : ∃ it, it = s.heap.objs.size := ⟨_, rfl⟩
  have I0 : Inv X pins σ H { s with heap := s.heap.push { cls := .type "str_ascii_iterator", data := .fields #[.str cs s.toks, .int 0 0] }, toks := s.toks + 1 } := I.kept (t' := s.toks + 1) fun b o e => Heap.get?_push_of_some _ e
  have F0 : FpOk X pins H it := I.fpOk (by rw [hit]; exact Nat.le_refl _) (I.hok.fresh (by rw [hit]; exact Nat.le_refl _))
  obtain ⟨f0, f1, f2, f3, f4, f5⟩ := id F0
  have T := turn_str (P := X.prog) (w := X.w) (K := X.K) (tg := .Name xs p1) it cs s.toks "str_ascii_iterator" (.inl rfl)
  have st0 : (s.heap.push { cls := .type "str_ascii_iterator", data := .fields #[.str cs s.toks, .int 0 0] }).IsStrIter it "str_ascii_iterator" cs s.toks 0 := by
    rw [hit]
    exact ⟨_, Heap.get?_push_size _ rfl, rfl, rfl⟩
  show codeAny (model X.prog X.w) X.A (.forLoop (.Name xs p1) (.ref s.heap.objs.size) _ [] X.env) _ _
  rw [← hit]
  have nit : it ≠ X.env.locals := f1
  have hsz : cs.cps.toList.length = cs.cps.size := Array.length_toList
  refine codeAny_forLoop_any (fun n s' => ∃ i σ' g, Inv X pins σ' H s' ∧ s'.heap.IsStrIter it "str_ascii_iterator" cs s.toks i ∧ i ≤ cs.cps.size ∧ n = cs.cps.size - i ∧ 1 ≤ s'.toks ∧ σ' = (σ.set is g).set ix (some (.str (repAll zc (cs.cps.toList.take i) w))) ∧ (i = 0 → σ' = σ) ∧ (∀ c, (cs.cps.toList.take i).getLast? = some c → g = some (.str ⟨#[c]⟩))) ?_ cs.cps.size
    ⟨0, σ, σ[is], I0, st0, Nat.zero_le _, rfl, by show 1 ≤ s.toks + 1; omega, ?_, fun _ => rfl, fun c h => by simp at h⟩
  · rintro n s3 ⟨i, σ3, g, I3, st3, hi, hn, hk, e3, e0, hg⟩
    by_cases hlt : i < cs.cps.size
    · have hx : cs.cps[i]? = some cs.cps[i] := Array.getElem?_eq_getElem hlt
      have hxl : cs.cps.toList[i]? = some cs.cps[i] := by rw [Array.getElem?_toList]; exact hx
      have htk : cs.cps.toList.take (i + 1) = cs.cps.toList.take i ++ [cs.cps[i]] := by rw [List.take_succ, hxl]; rfl
      have hnz : cs.cps[i] ≠ zc := fun h => hno (h ▸ List.mem_of_getElem? hxl)
      have hσ3 : σ3[ix]? = some (some (.str (repAll zc (cs.cps.toList.take i) w))) := by
        rw [e3, List.getElem?_set_self (by rw [List.length_set]; exact hixl)]
      refine wpAny_pyNext_ascii_item st3 hx fun h4 st4 sb4 => ?_
      dsimp only
      have I4 : Inv X pins σ3 H { s3 with heap := h4, toks := s3.toks + 1 } := I3.turned (fun b o hb e => (sb4.2 b hb).trans e) f0 f1 f3 f4 f5
      obtain ⟨oi, e4, c4, d4⟩ := id st4
      refine go_of (s := { s3 with heap := h4, toks := s3.toks + 1 }) e4 c4 d4 (by decide) ?_
      refine wpAny_assign_Name (store_raw (v := .str ⟨#[cs.cps[i]]⟩) I4 nd hs ls ⟨_, rfl⟩ fun h5 m5 ns5 um sb5 I5 => ?_)
      have st5 : h5.IsStrIter it "str_ascii_iterator" cs s.toks (i + 1) := ⟨oi, (sb5.2 it nit).trans e4, c4, d4⟩
      refine wpAny_with_toks (n := s3.toks + 1 + 1) (Nat.le_refl _) ?_
      refine wpAny_execs_cons (wpAny_Assign_Name (Call_method2 hb hst hl (raw_name (σ := σ3.set is (some (.str ⟨#[cs.cps[i]]⟩))) (i := ix) (v := .str (repAll zc (cs.cps.toList.take i) w)) ht (.inl lt) I5 ?_ (fun u r => ?_) dt ct)) hw)
      · rw [List.getElem?_set_ne hne]; exact hσ3
      obtain ⟨tx, rfl⟩ := r
      refine ⟨"str", "str.replace", F.plainAttrs_str, F.slot_str_replace, F.type_str_replace, typeIs_str _ _ _, (fun _ e => nomatch e), ?_⟩
      refine Calls.callWith_builtin rfl (Calls.evalArgs_plain (Calls.spliced_cons (wpAny_Name (wpAny_loadName_local I5.ok.kind ls ns5 um ?_) ds)))
      refine Calls.spliced_cons (Calls.Constant_str (Calls.spliced_nil ?_))
      have hb16 : (repAll zc (cs.cps.toList.take i) w).length + ((repAll zc (cs.cps.toList.take i) w).length + 1) * z.length ≤ 16777216 := by
        rw [repAll_len, hz]; exact hw2
      have hyz : ((⟨#[cs.cps[i]]⟩ : Str) == z) = false := by
        rw [hz]
        simp
        exact hnz
      have hr : Txt.replace (repAll zc (cs.cps.toList.take i) w) ⟨#[cs.cps[i]]⟩ z = repAll zc (cs.cps.toList.take (i + 1)) w := by
        rw [hz, repl_one, htk, repAll_snoc]
      refine PySem.SC.replace (by show s3.toks ≠ 0; omega) (by show s3.toks + 1 + 1 ≠ 0; omega) (by show s3.toks ≠ s3.toks + 1 + 1; omega) hyz hb16 fun t' k => ?_
      rw [hr]
      refine store_ok2 (I5.tok k) nd ht (.inl lt) (v := .str (repAll zc (cs.cps.toList.take (i + 1)) w)) ⟨t', rfl⟩ (fun s6 I6 ⟨a6, sb6, ha6⟩ => ?_) (.inr lt)
      refine wpAny_execs_nil fun hk6 => ?_
      refine ⟨cs.cps.size - (i + 1), by omega, i + 1, _, some (.str ⟨#[cs.cps[i]]⟩), I6, ?_, hlt, rfl, by omega, ?_, by omega, fun c h => ?_⟩
      · have na : it ≠ a6 := by
          rcases ha6 with e | e
          · rw [e]; exact nit
          · exact fun z => f4 _ _ e z.symm
        obtain ⟨o5, g5, c5, d5⟩ := st5
        exact ⟨o5, (sb6.2 it na).trans g5, c5, d5⟩
      · rw [e3, List.set_comm _ _ (Ne.symm hne), List.set_set, List.set_set]
      · rw [htk, List.getLast?_append] at h
        simp at h
        rw [h]
    · have hi' : i = cs.cps.size := by omega
      refine thn (T.done X rfl rfl rfl hc i pins s3 σ3 H _ I3 (fun b hb => by rw [List.mem_singleton.mp hb]; exact F0) st3 (by show cs.cps.size ≤ i; omega)) fun r s4 ⟨hr, I4⟩ => ?_
      subst hr
      refine wpAny_execs_nil ⟨σ3, H, I4, ?_⟩
      have ht2 : cs.cps.toList.take i = cs.cps.toList := by rw [hi', ← hsz, List.take_length]
      rw [ht2] at e3 hg
      rw [hg c0 hlast] at e3
      rw [e3]
      exact q
  · have e1 : σ.set is σ[is] = σ := List.set_getElem_self ..
    have e2 : σ[ix] = some (.str w) := Option.some.inj ((List.getElem?_eq_getElem hixl).symm.trans hσ)
    show σ = (σ.set is σ[is]).set ix (some (.str w))
    rw [e1, ← e2, List.set_getElem_self]
end
end DL
namespace DL
open PySem PySem.Spec L2
open PyProof.Rows hiding St
def leT (a b : List Nat) : Bool := !ltCps b a
theorem leT_anti : ∀ a b : List Nat, leT a b = true → leT b a = true → a = b
  | [], [], _, _ => rfl
  | [], b :: bs, _, h => by simp [leT, ltCps] at h
  | a :: as, [], h, _ => by simp [leT, ltCps] at h
  | a :: as, b :: bs, h1, h2 => by
    simp [leT, ltCps] at h1 h2
    have e : a = b := by omega
    subst e
    have := leT_anti as bs (by simp [leT]; exact h1.2.resolve_left (fun n => n rfl)) (by simp [leT]; exact h2.2.resolve_left (fun n => n rfl))
    rw [this]
theorem leT_trans : ∀ a b c : List Nat, leT a b = true → leT b c = true → leT a c = true
  | [], _, c, _, _ => by cases c <;> simp [leT, ltCps]
  | a :: as, [], _, h, _ => by simp [leT, ltCps] at h
  | a :: as, b :: bs, [], _, h => by simp [leT, ltCps] at h
  | a :: as, b :: bs, c :: cs, h1, h2 => by
    simp [leT, ltCps] at h1 h2 ⊢
    refine ⟨by omega, ?_⟩
    by_cases e : c = a
    · have e1 : b = a := by omega
      have e2 : c = b := by omega
      have := leT_trans as bs cs (by simp [leT]; exact h1.2.resolve_left (fun n => n e1)) (by simp [leT]; exact h2.2.resolve_left (fun n => n e2))
      exact .inr (by simpa [leT] using this)
    · exact .inl e
theorem leT_total : ∀ a b : List Nat, leT a b = true ∨ leT b a = true
  | [], b => .inl (by cases b <;> simp [leT, ltCps])
  | a :: as, [] => .inr (by simp [leT, ltCps])
  | a :: as, b :: bs => by
    have ih := leT_total as bs
    simp [leT, ltCps] at ih ⊢
    by_cases h : a = b
    · subst h
      rcases ih with h | h
      · exact .inl ⟨Nat.le_refl _, .inr h⟩
      · exact .inr ⟨Nat.le_refl _, .inr h⟩
    · by_cases h2 : a < b
      · exact .inl ⟨by omega, .inl (by omega)⟩
      · exact .inr ⟨by omega, .inl (by omega)⟩
def leS (a b : Str) : Bool := leT a.cps.toList b.cps.toList
theorem leS_anti {a b : Str} (h1 : leS a b = true) (h2 : leS b a = true) : a = b := str_of_list (leT_anti _ _ h1 h2)
def sortS (l : List Str) : List Str := l.mergeSort leS
theorem sortS_perm (l : List Str) : (sortS l).Perm l := List.mergeSort_perm _ _
theorem sortS_sorted (l : List Str) : (sortS l).Pairwise (fun a b => leS a b = true) := List.pairwise_mergeSort (le := leS) (fun a b c h1 h2 => leT_trans _ _ _ h1 h2) (fun a b => by
  rcases leT_total a.cps.toList b.cps.toList with h | h
  · simp [leS, h]
  · simp [leS, h]) l
theorem sortS_unique : ∀ {l m : List Str}, l.Perm m → l.Pairwise (fun a b => leS a b = true) → m.Pairwise (fun a b => leS a b = true) → l = m
  | [], m, p, _, _ => (List.nil_perm.mp p).symm
  | a :: l, [], p, _, _ => absurd p.symm (by intro q; have := List.nil_perm.mp q; cases this)
  | a :: l, b :: m, p, h1, h2 => by
    have ha : a ∈ b :: m := p.mem_iff.mp List.mem_cons_self
    have hb : b ∈ a :: l := p.mem_iff.mpr List.mem_cons_self
    have q1 := List.pairwise_cons.mp h1
    have q2 := List.pairwise_cons.mp h2
    have e : a = b := by
      rcases List.mem_cons.mp ha with e | ha
      · exact e
      · rcases List.mem_cons.mp hb with e | hb
        · exact e.symm
        · exact leS_anti (q1.1 b hb) (q2.1 a ha)
    subst e
    rw [sortS_unique (List.Perm.cons_inv p) q1.2 q2.2]
theorem sortS_eq {l m : List Str} (p : l.Perm m) : sortS l = sortS m := sortS_unique ((sortS_perm l).trans (p.trans (sortS_perm m).symm)) (sortS_sorted l) (sortS_sorted m)
theorem rising_all : ∀ (r : List Str) (p : Str), risingS p r = true → (p :: r).Pairwise (fun a b => leS a b = true)
  | [], p, _ => by simp
  | x :: r, p, h => by
    simp only [risingS, Bool.and_eq_true] at h
    have ih := rising_all r x h.2
    refine List.pairwise_cons.mpr ⟨fun y hy => ?_, ih⟩
    have hx : leS p x = true := h.1
    rcases List.mem_cons.mp hy with rfl | hy
    · exact hx
    · exact leT_trans _ _ _ hx ((List.pairwise_cons.mp ih).1 y hy)
theorem sortedS_all {l : List Str} (h : sortedS l = true) : l.Pairwise (fun a b => leS a b = true) := by
  cases l with
  | nil => exact .nil
  | cons x r => exact rising_all r x h
noncomputable def sRepl (ix is : Nat) (cs : Str) (zc : Nat) : Ev → Sto → SR := fun ρ S => match ρ[ix]?, cs.cps.toList.getLast? with
  | some (some (.str w)), some c0 => ifp (is < ρ.length ∧ w.length + (w.length + 1) * 1 ≤ 16777216) (.nx ((ρ.set is (some (.str ⟨#[c0]⟩))).set ix (some (.str (repAll zc cs.cps.toList w)))) S) .stuck
  | _, _ => .stuck
theorem repl_read {K : PySem.W.Frag} {W : WX} {ix is : Nat} {cs : Str} {zc : Nat} : ∀ E σ H, rdS K W (sRepl ix is cs zc) E σ H → tRepl ix is cs zc E σ H := fun E σ H ⟨ι, ρ, S, hE, hS, h⟩ => by
  unfold sRepl at h
  split at h
  · rename_i w c0 e1 e2
    unfold ifp at h
    split at h
    · rename_i hz
      obtain ⟨v, hv, rv⟩ := hE.get e1
      rw [str_at rv] at hv
      exact ⟨w, c0, hv, by rw [hE.1]; exact hz.1, hz.2, e2, h ι H _ (Grow.refl _ _) hS ((hE.set str_rep is).set str_rep ix)⟩
    · exact h.elim
  · exact h.elim
section
variable {X : Cx} {W : WX}
theorem ds_repl (ix is : Nat) (zc : Nat) {xt xs cs z : Str} {j j2 : Nat} {p1 p2 p3 p4 ap cp cp2 cpos apos pos : Pos} (hc : X.calm = true) (nd : X.N.Nodup) (hne : is ≠ ix := by decide) (ht : X.N[ix]? = some xt := by rfl) (hs : X.N[is]? = some xs := by rfl) (lt : X.env.scope.names.lookup xt = some .local := by rfl) (ls : X.env.scope.names.lookup xs = some .local := by rfl)
    (hz : z = ⟨#[zc]⟩ := by decide +kernel) (has : cs.cps.all (· < 128) = true := by decide +kernel) (hno : zc ∉ cs.cps.toList := by decide +kernel)
    (dt : (xt == ("__debug__" : Str)) = false := by decide) (ct : (xt == ("__classdict__" : Str)) = false := by decide) (ds : (xs == ("__debug__" : Str)) = false := by decide)
    (hst : starEach [.Name xs p4, .Constant (.str z) j2 cp2] X.env = [(false, eval (.Name xs p4) X.env), (false, eval (.Constant (.str z) j2 cp2) X.env)] := by rfl)
    (hb : attributeBase (.Name xt p3) "replace" X.env (eval (.Name xt p3) X.env) = eval (.Name xt p3) X.env := by rfl) (hl : (ap.endLine == cpos.line) = true := by rfl)
    (hf : ∀ x, foldedSetIterable (.Constant (.str cs) j cp) X.env x = pure x := by intro _; rfl)
    (hw : swapsWith (.Call (.Attribute (.Name xt p3) "replace" ap) [.Name xs p4, .Constant (.str z) j2 cp2] [] cpos) (some (.Name xt p2)) apos.line X.env = pure false := by rfl) :
    DS X W (.For (.Name xs p1) (.Constant (.str cs) j cp) [.Assign [.Name xt p2] (.Call (.Attribute (.Name xt p3) "replace" ap) [.Name xs p4, .Constant (.str z) j2 cp2] [] cpos) apos] [] pos) (sRepl ix is cs zc) :=
  PS.imp (ps_repl hne hc nd ht hs lt ls hz has hno dt ct ds hst hb hl hf hw) repl_read
end
end DL
namespace PyProof.Rows
open PySem
section
variable {prog : Program} {w : World} {A : Around} {E : Value → Shared → Prop} {s : Shared}
theorem colTup {t : Addr} {vs : List Value} {R : List Value → Shared → Prop} (tp : s.heap.IsTuple t vs.toArray) (fit : vs.length ≤ sizeLine)
    (go : R vs { s with heap := (s.heap.push (seqObj "list" #[] 0)).update s.heap.objs.size (Obj.mapSeq (· ++ vs.toArray)) }) : wpAny (model prog w) A (collect (.ref t)) R E s := by
  obtain ⟨o, e1, e2, n, e3⟩ := id tp
  unfold collect
  refine wpAny_bind (wpAny_runValue (codeAny_builtin (R := _) entry_proto_collect' ?_))
  show wpAny _ _ (do again (.builtin "list.__iadd__" ⟨[← newList [], .ref t], []⟩)) _ _ s
  refine wpAny_bind (wpAny_newList (wpAny_pure ⟨Code.quiet_builtin (_) (by decide +kernel), codeAny_builtin entry_list_iadd' ?_⟩))
  show wpAny _ _ (Builtin.List.listExtendWith (.ref s.heap.objs.size) (.ref t) (.ref s.heap.objs.size)) _ _ { s with heap := s.heap.push (seqObj "list" #[] 0) }
  unfold Builtin.List.listExtendWith
  have e1' : (s.heap.push (seqObj "list" #[] 0)).get? t = some o := Heap.get?_push_of_some _ e1
  refine wpAny_bind (wpAny_typeOf (T := "tuple") ⟨o, e1', e2⟩ ?_)
  have tt : (Value.type "tuple" == Value.type "tuple") = true := by rfl
  rw [if_pos (by rw [tt]; simp)]
  refine wpAny_bind (listItems_at e1' e3 ?_)
  refine wpAny_bind (listItems_at (xs := #[]) (n := 0) (Heap.get?_push_size (_) rfl) rfl ?_)
  rw [if_neg (by simp)]
  have fit2 : (#[] ++ vs.toArray).size ≤ sizeLine + 1 := by simp only [Array.size_append, List.size_toArray, List.length_nil]; omega
  refine wpAny_bind (listUpdate_at (xs := #[]) (n := 0) (Heap.get?_push_size _ rfl) rfl ?_ (Nat.zero_le _) fit2)
  refine wpAny_pure ?_
  show wpAny (model prog w) A (do
      let o ← load s.heap.objs.size
      match o.data with
      | .seq ys _ => pure ys.toList
      | _ => unsupported "internal:collect") R E { s with heap := (s.heap.push (seqObj "list" #[] 0)).update s.heap.objs.size (Obj.mapSeq (· ++ vs.toArray)) }
  refine wpAny_bind (wpAny_load (get?_update_seq (Heap.get?_push_size (_) rfl) _) ?_)
  show wpAny _ _ (pure ((#[] : Array Value) ++ vs.toArray).toList) R E _
  have el : ((#[] : Array Value) ++ vs.toArray).toList = vs := by simp
  rw [el]
  exact wpAny_pure go
theorem sortedTupS {t : Addr} {vs : List Value} {ss : List Str} {R : Value → Shared → Prop} (tp : s.heap.IsTuple t vs.toArray) (hS : StrsAre vs ss) (h64 : vs.length < 64)
    (go : ∀ (out : Array Value) (zs : List Str), StrsAre out.toList zs → zs.Perm ss → sortedS zs = true → R (.ref (s.heap.objs.size + 1)) { s with heap := sortedAll s.heap vs out }) :
    wpAny (model prog w) A (call (.builtin "sorted") [.ref t]) R E s := by
  refine Calls.call_function_entry kind_sorted plain_sorted entry_sorted (args_sorted1 (_)) ?_
  unfold Builtin.«sorted»
  refine wpAny_bind (m := checkCount "sorted" 1 1 (_)) (wpAny_pure ?_)
  refine wpAny_bind (colTup tp (by rw [sizeLine_eq]; omega) ?_)
  refine wpAny_bind (wpAny_newList ?_)
  obtain ⟨h1, e1⟩ : ∃ h1, h1 = (s.heap.push (seqObj "list" #[] 0)).update s.heap.objs.size (Obj.mapSeq (· ++ vs.toArray)) := ⟨_, rfl⟩
  have sz : h1.objs.size = s.heap.objs.size + 1 := by
    rw [e1, Heap.size_update, size_push']
  have new : (h1.push (seqObj "list" vs.toArray 0)).get? (s.heap.objs.size + 1) = some (seqObj "list" vs.toArray 0) := by
    rw [← sz]; exact Heap.get?_push_size _ rfl
  have fin : ∀ st : SortSt, (arrOf st).Perm (pairsOf vs) → SortedToK strKind (arrOf st) (pairsOf vs).size → R (.ref (s.heap.objs.size + 1)) { s with heap := sortedAll s.heap vs ((arrOf st).map (·.2)) } := fun st p q => by
    obtain ⟨zs, z1, z2, z3⟩ := sorted_out_str hS p q
    exact go _ zs z1 z2 z3
  rw [← e1]
  show wpAny _ _ _ _ _ { s with heap := h1.push (seqObj "list" vs.toArray 0) }
  rw [sz]
  unfold sortedAll at fin
  rw [← e1] at fin
  refine wpAny_bind (wpAny_holding (wpAny_call_entry slot_list_sort ⟨_, new, rfl⟩ entry_list_sort (list_sort_treeK strKind_oneLt new hS.keysOf (fun v₁ v₂ rest e => keyKind_strs (by rw [← e]; exact hS)) h64 fun st p q => ⟨_, rfl, ?_⟩) (args_list_sort (_))))
  exact wpAny_pure ⟨_, rfl, fin st p q⟩
end
end PyProof.Rows
namespace DL
open PySem PySem.Spec L2
open PyProof.Rows hiding St
def rSortedT (K : PySem.W.Frag) : List V → Hp → VK → Prop := fun vs H Q => ∃ (a : Addr) (xs : List Str), vs = [V.ref a] ∧ SqT K H a (xs.map V.str) ∧ xs.length < 64 ∧
  ∀ (ys : List Str) (p : Addr), ys.Perm xs → sortedS ys = true → H p = none → Q (.ref p) (upd H p (.lst (ys.map V.str)))
theorem cr_sortedT {X : Cx} : CallR X (.builtin "sorted") (rSortedT X.K) := by
  intro pins s σ H vs us Q I r ⟨a, xs, e0, hs, h64, q⟩
  subst e0
  obtain ⟨its, rv, p, _⟩ := I.tuple hs
  rw [Vals.ref1 r]
  have len := rv.length
  rw [List.length_map] at len
  refine sortedTupS p rv.strs (by rw [← len]; exact h64) fun out ys h1 h2 h3 => ?_
  obtain ⟨ep, at_⟩ := PyProof.Rows.sortedAll_at s.heap its out
  have fit : (ys.map V.str).length ≤ sizeLine := by rw [List.length_map, h2.length_eq]; exact small64 h64
  exact ⟨.ref _, upd H (s.heap.objs.size + 1) (.lst (ys.map V.str)), I.laid (t' := s.toks) (fun _ _ => PyProof.Rows.sortedAll_old) (Nat.le_succ (_)) ⟨fit, out.toList, ep, vals_of_strs h1, at_⟩, rfl, q ys _ h2 h3 (I.hok.fresh (Nat.le_succ (_)))⟩
/-- sorted, a list or tuple of texts -/
noncomputable def bSortT : Fn := fun ds S => match ds with
  | [d] => (match (seqOf S d).bind strsOf with
    | some ys => ifp (ys.length < 64) (.ok (.fl ((sortS ys).map D.str)) S) .stuck
    | none => .stuck)
  | _ => .stuck
theorem k_sortT {K : PySem.W.Frag} : CallK K (fun vs H Q => rSortedS K vs H Q ∨ rSortedT K vs H Q) bSortT := by
  intro W σ ι H S vs ds Q s rl h
  unfold bSortT at h
  split at h
  · obtain ⟨v, rfl, rv⟩ := RepL.one_inv rl
    split at h
    · rename_i ys hy
      obtain ⟨ds', e1, e2⟩ := Option.bind_eq_some_iff.mp hy
      unfold ifp at h
      split at h
      · rename_i hz
        obtain ⟨p, us, rfl, q, rq⟩ := seq_at s rv e1
        rw [strsOf_rep _ _ _ rq e2] at q
        have fin : ∀ (zs : List Str) (p' : Addr), zs.Perm ys → sortedS zs = true → H p' = none → Q (.ref p') (upd H p' (.lst (zs.map V.str))) := fun zs p' hp hs hn => by
          have e : zs = sortS ys := sortS_unique (hp.trans (sortS_perm ys).symm) (sortedS_all hs) (sortS_sorted ys)
          subst e
          exact new_fl h s (strs_repL _) p' hn
        rcases q with q | q
        · exact .inl ⟨p, ys, rfl, q, hz, fin⟩
        · exact .inr ⟨p, ys, rfl, q, hz, fin⟩
      · exact h.elim
    · exact h.elim
  · exact h.elim
theorem cr_sortT {X : Cx} : CallR X (.builtin "sorted") (fun vs H Q => rSortedS X.K vs H Q ∨ rSortedT X.K vs H Q) := CallR.or cr_sortedS cr_sortedT
end DL
namespace DL
open PySem PySem.Spec L2
open PyProof.Rows hiding St
noncomputable def B_check_place : Ev → Sto → SR :=
  (sIf (eNot (eT (eCall F_is_integer (aCons (eVar 1) (aCons (eC (.int 0)) (aCons (eOp dSub (eCall bLen (aCons (eVar 0) aNil)) (eC (.int 1))) aNil)))))) (sRaise1 "NoPlace" "value" (aCons (eVar 1) aNil)) sNil)
noncomputable def F_check_place : Fn := fnC close 2 2 B_check_place
noncomputable def B_turned : Ev → Sto → SR :=
  (sSeq (sExp (eCall F_check_place (aCons (eVar 0) (aCons (eVar 1) aNil))))
    (sRet (eTup (aStar (eSl mkFl (eVar 0) (oSome (eVar 1)) oNone) (aStar (eSl mkFl (eVar 0) oNone (oSome (eVar 1))) aNil)))))
noncomputable def F_turned : Fn := fnC close 2 2 B_turned
noncomputable def B_need : Ev → Sto → SR :=
  (sRet (eCall F_need_of (aCons (eCall F_turned (aCons (eVar 0) (aCons (eVar 1) aNil))) aNil)))
noncomputable def F_need : Fn := fnC close 2 2 B_need
noncomputable def E1_beginnings (ρ : Ev) (S : Sto) : R D :=
  (eVar 1) ρ S
noncomputable def Q1_beginnings (ρ : Ev) (S : Sto) : R Bool :=
  (eT (eOp (dEq false) (eCall F_need (aCons (eVar 0) (aCons (eVar 1) aNil))) (eC (.int 0)))) ρ S
noncomputable def B_beginnings : Ev → Sto → SR :=
  (sRet (eCall bTuple (aCons (eLc finFl (iRange1 (aCons (eCall bLen (aCons (eVar 0) aNil)) aNil)) (tN 1) [1] Q1_beginnings E1_beginnings) aNil)))
noncomputable def F_beginnings : Fn := fnC close 2 1 B_beginnings
theorem srcOf_tup (ds : List D) (S : Sto) : srcOf (.tup ds) S = .ok (ds, yes) S := rfl
theorem srcOf_fl (ds : List D) (S : Sto) : srcOf (.fl ds) S = .ok (ds, yes) S := rfl
theorem srcOf_kl (ds : List D) (S : Sto) : srcOf (.kl ds) S = .ok (ds, yes) S := rfl
theorem srcOf_ti (l : List Int) (S : Sto) : srcOf (ti l) S = .ok (l.map D.int, yes) S := rfl
theorem forD_strm {T : Tg} {B Z : Ev → Sto → SR} {rest : Sto} (I : Ev → Prop) (cost : Nat) : ∀ (ds : List D) (ρ : Ev) (S : Sto) (n : Nat), I ρ → Strm S n rest → n + ds.length * cost < 2 ^ 60 →
    (∀ d ∈ ds, ∀ ρ S n, I ρ → Strm S n rest → n + cost < 2 ^ 60 → ∃ ρ1 ρ2 S2, T d ρ S = some (ρ1, S) ∧ (B ρ1 S = .nx ρ2 S2 ∨ B ρ1 S = .ct ρ2 S2) ∧ I ρ2 ∧ Strm S2 (n + cost) rest) →
    ∃ ρ' S', I ρ' ∧ Strm S' (n + ds.length * cost) rest ∧ forD yes T B Z ds ρ S = Z ρ' S'
  | [], ρ, S, n, h, hs, _, _ => ⟨ρ, S, h, by simpa using hs, forD_nil trivial⟩
  | d :: ds, ρ, S, n, h, hs, hn, step => by
    have e1 : n + (d :: ds).length * cost = n + cost + ds.length * cost := by simp [Nat.add_mul]; omega
    rw [e1] at hn ⊢
    obtain ⟨ρ1, ρ2, S2, hT, hB, h2, s2⟩ := step d List.mem_cons_self ρ S n h hs (by omega)
    obtain ⟨ρ', S', h3, s3, e⟩ := forD_strm I cost ds ρ2 S2 (n + cost) h2 s2 hn fun d' hd => step d' (List.mem_cons_of_mem _ hd)
    refine ⟨ρ', S', h3, s3, ?_⟩
    rw [forD, if_pos (show yes S from trivial), hT]
    rcases hB with hB | hB <;> (simp only [hB]; exact e)
theorem fnC_er {n m : Nat} {B : Ev → Sto → SR} {ds : List D} {S S' : Sto} {ρ : Ev} {e : Ex} (hm : ds.length = m) (h : B (startD n ds) S = .er e ρ S') (hc : S'.length = S.length) : fnC close n m B ds S = .er e S' := by
  unfold fnC
  rw [if_pos hm, h]
  show closeE S e S' = _
  unfold closeE
  rw [if_pos hc]
theorem fnC_nx {n m : Nat} {B : Ev → Sto → SR} {ds : List D} {S S' : Sto} {ρ : Ev} (hm : ds.length = m) (h : B (startD n ds) S = .nx ρ S') (hc : S'.length = S.length) : fnC close n m B ds S = .ok .non S' := by
  unfold fnC
  rw [if_pos hm, h]
  exact close_same hc
def pl : D → Bool
  | .non => true
  | .bl _ => true
  | .int _ => true
  | .str _ => true
  | .tup _ => true
  | .fl _ => true
  | .fd _ => true
  | _ => false
def isI (v : D) (lo hi : Int) : Bool := match v with
  | .int i => decide (lo ≤ i ∧ i ≤ hi)
  | _ => false
theorem kt1 : kitB "NoneType" "int" = some false := by decide +kernel
theorem kt2 : kitB "bool" "int" = some true := by decide +kernel
theorem kt3 : kitB "int" "int" = some true := by decide +kernel
theorem kt4 : kitB "str" "int" = some false := by decide +kernel
theorem kt5 : kitB "tuple" "int" = some false := by decide +kernel
theorem kt6 : kitB "list" "int" = some false := by decide +kernel
theorem kt7 : kitB "dict" "int" = some false := by decide +kernel
theorem ku2 : kitB "bool" "bool" = some true := by decide +kernel
theorem ku3 : kitB "int" "bool" = some false := by decide +kernel
theorem kv1 : kitB "NoneType" "tuple" = some false := by decide +kernel
theorem kv2 : kitB "bool" "tuple" = some false := by decide +kernel
theorem kv3 : kitB "int" "tuple" = some false := by decide +kernel
theorem kv4 : kitB "str" "tuple" = some false := by decide +kernel
theorem kv5 : kitB "tuple" "tuple" = some true := by decide +kernel
theorem kv6 : kitB "list" "tuple" = some false := by decide +kernel
theorem kv7 : kitB "dict" "tuple" = some false := by decide +kernel
def isInt0 : D → Bool
  | .int _ => true
  | .bl _ => true
  | _ => false
def isBl : D → Bool
  | .bl _ => true
  | _ => false
def isTup : D → Bool
  | .tup _ => true
  | _ => false
theorem isi_int {v : D} (h : pl v = true) (S : Sto) : bIsi [v, .ty "int"] S = .ok (.bl (isInt0 v)) S := by
  cases v <;> first | (simp [pl] at h; done) | (simp only [bIsi, tyOf, kt1, kt2, kt3, kt4, kt5, kt6, kt7, isInt0])
theorem isi_bool {v : D} (h : isInt0 v = true) (S : Sto) : bIsi [v, .ty "bool"] S = .ok (.bl (isBl v)) S := by
  cases v <;> first | (simp [isInt0] at h; done) | (simp only [bIsi, tyOf, ku2, ku3, isBl])
theorem isi_tup {v : D} (h : pl v = true) (S : Sto) : bIsi [v, .ty "tuple"] S = .ok (.bl (isTup v)) S := by
  cases v <;> first | (simp [pl] at h; done) | (simp only [bIsi, tyOf, kv1, kv2, kv3, kv4, kv5, kv6, kv7, isTup])
theorem is_int_any {v : D} (h : pl v = true) (lo hi : Int) (S : Sto) : F_is_integer [v, .int lo, .int hi] S = .ok (.bl (isI v lo hi)) S := by
  refine fnC_rt rfl ?_ rfl
  unfold B_is_integer
  cases v with
  | int i =>
    have h1 := isi_int (v := .int i) rfl S
    have h2 := isi_bool (v := .int i) rfl S
    by_cases h3 : lo ≤ i
    · by_cases h4 : i ≤ hi
      · simp only [eVar, eC, eOp, eT, eAnd, eOr, eNot, eIf, eAndV, eOrV, eNotV, eCall, aNil, aCons, aStar, sOf, eTup, eFl, eLoc, eSl, oNone, oSome, iOf, eNeg, eChain, eMt, bOf, eDict0, eRev, eListRg, iZipD, sRaise1, sRaise0, eCallV, List.lookup, R.bind_ok, R.bind_er, R.bind_stuck, R.toS_ok, R.toS_er, R.toS_stuck, SR.next_nx, SR.next_rt, SR.next_er, SR.next_bk, SR.next_ct, SR.next_stuck, sNil, sSeq, sBrk, sCnt, sExp, sRet, sRetN, sIf, sSet, sAsg, sAug, sPar2, sPar3, tN, DL.tTup, DL.tNil, DL.tCons, DL.tSub, iSeq, srcOf, iRange1, iRange2, sFor, startD, List.map_cons, List.map_nil, List.length_cons, List.length_nil, List.replicate, List.cons_append, List.nil_append, List.getElem?_cons_zero, List.getElem?_cons_succ, List.set_cons_zero, List.set_cons_succ, dSub_int, dFdiv_int, dMod_int, dLt_int, dLe_int, dGt_int, dGe_int, dAddI_int, dSubI_int, dIsN_non, isN, dAdd_int, ll0, ll1, ll2, ll3, ll4, ll5, ll6, ll7, ll8, ll9, ll10, ll11, ll12, ll13, ll14, ll15, ll16, ll17, ll18, ll19, ll20, ll21, ll22, ll23, ll24, ll25, ll26, ll27, ll28, ll29, ll30, ll31, ll32, ll33, ll34, ll35, ll36, ll37, ll38, ll39, ll40, Nat.reduceSub, Nat.reduceAdd, Nat.reduceEqDiff, if_true, if_false, ifp_t, ifp_f, reduceIte, Bool.true_eq_false, Bool.false_eq_true, Option.map_some, Option.map_none, Option.bind_some, Option.bind_none, h1, h2, isInt0, isBl, h3, h4, decide_true, Bool.not_false, isI, and_self]
      · simp only [eVar, eC, eOp, eT, eAnd, eOr, eNot, eIf, eAndV, eOrV, eNotV, eCall, aNil, aCons, aStar, sOf, eTup, eFl, eLoc, eSl, oNone, oSome, iOf, eNeg, eChain, eMt, bOf, eDict0, eRev, eListRg, iZipD, sRaise1, sRaise0, eCallV, List.lookup, R.bind_ok, R.bind_er, R.bind_stuck, R.toS_ok, R.toS_er, R.toS_stuck, SR.next_nx, SR.next_rt, SR.next_er, SR.next_bk, SR.next_ct, SR.next_stuck, sNil, sSeq, sBrk, sCnt, sExp, sRet, sRetN, sIf, sSet, sAsg, sAug, sPar2, sPar3, tN, DL.tTup, DL.tNil, DL.tCons, DL.tSub, iSeq, srcOf, iRange1, iRange2, sFor, startD, List.map_cons, List.map_nil, List.length_cons, List.length_nil, List.replicate, List.cons_append, List.nil_append, List.getElem?_cons_zero, List.getElem?_cons_succ, List.set_cons_zero, List.set_cons_succ, dSub_int, dFdiv_int, dMod_int, dLt_int, dLe_int, dGt_int, dGe_int, dAddI_int, dSubI_int, dIsN_non, isN, dAdd_int, ll0, ll1, ll2, ll3, ll4, ll5, ll6, ll7, ll8, ll9, ll10, ll11, ll12, ll13, ll14, ll15, ll16, ll17, ll18, ll19, ll20, ll21, ll22, ll23, ll24, ll25, ll26, ll27, ll28, ll29, ll30, ll31, ll32, ll33, ll34, ll35, ll36, ll37, ll38, ll39, ll40, Nat.reduceSub, Nat.reduceAdd, Nat.reduceEqDiff, if_true, if_false, ifp_t, ifp_f, reduceIte, Bool.true_eq_false, Bool.false_eq_true, Option.map_some, Option.map_none, Option.bind_some, Option.bind_none, h1, h2, isInt0, isBl, h3, h4, decide_true, decide_false, Bool.not_false, isI, and_false]
    · simp only [eVar, eC, eOp, eT, eAnd, eOr, eNot, eIf, eAndV, eOrV, eNotV, eCall, aNil, aCons, aStar, sOf, eTup, eFl, eLoc, eSl, oNone, oSome, iOf, eNeg, eChain, eMt, bOf, eDict0, eRev, eListRg, iZipD, sRaise1, sRaise0, eCallV, List.lookup, R.bind_ok, R.bind_er, R.bind_stuck, R.toS_ok, R.toS_er, R.toS_stuck, SR.next_nx, SR.next_rt, SR.next_er, SR.next_bk, SR.next_ct, SR.next_stuck, sNil, sSeq, sBrk, sCnt, sExp, sRet, sRetN, sIf, sSet, sAsg, sAug, sPar2, sPar3, tN, DL.tTup, DL.tNil, DL.tCons, DL.tSub, iSeq, srcOf, iRange1, iRange2, sFor, startD, List.map_cons, List.map_nil, List.length_cons, List.length_nil, List.replicate, List.cons_append, List.nil_append, List.getElem?_cons_zero, List.getElem?_cons_succ, List.set_cons_zero, List.set_cons_succ, dSub_int, dFdiv_int, dMod_int, dLt_int, dLe_int, dGt_int, dGe_int, dAddI_int, dSubI_int, dIsN_non, isN, dAdd_int, ll0, ll1, ll2, ll3, ll4, ll5, ll6, ll7, ll8, ll9, ll10, ll11, ll12, ll13, ll14, ll15, ll16, ll17, ll18, ll19, ll20, ll21, ll22, ll23, ll24, ll25, ll26, ll27, ll28, ll29, ll30, ll31, ll32, ll33, ll34, ll35, ll36, ll37, ll38, ll39, ll40, Nat.reduceSub, Nat.reduceAdd, Nat.reduceEqDiff, if_true, if_false, ifp_t, ifp_f, reduceIte, Bool.true_eq_false, Bool.false_eq_true, Option.map_some, Option.map_none, Option.bind_some, Option.bind_none, h1, h2, isInt0, isBl, h3, decide_false, Bool.not_false, isI, false_and]
  | bl b =>
    have h1 := isi_int (v := .bl b) rfl S
    have h2 := isi_bool (v := .bl b) rfl S
    simp only [eVar, eC, eOp, eT, eAnd, eOr, eNot, eIf, eAndV, eOrV, eNotV, eCall, aNil, aCons, aStar, sOf, eTup, eFl, eLoc, eSl, oNone, oSome, iOf, eNeg, eChain, eMt, bOf, eDict0, eRev, eListRg, iZipD, sRaise1, sRaise0, eCallV, List.lookup, R.bind_ok, R.bind_er, R.bind_stuck, R.toS_ok, R.toS_er, R.toS_stuck, SR.next_nx, SR.next_rt, SR.next_er, SR.next_bk, SR.next_ct, SR.next_stuck, sNil, sSeq, sBrk, sCnt, sExp, sRet, sRetN, sIf, sSet, sAsg, sAug, sPar2, sPar3, tN, DL.tTup, DL.tNil, DL.tCons, DL.tSub, iSeq, srcOf, iRange1, iRange2, sFor, startD, List.map_cons, List.map_nil, List.length_cons, List.length_nil, List.replicate, List.cons_append, List.nil_append, List.getElem?_cons_zero, List.getElem?_cons_succ, List.set_cons_zero, List.set_cons_succ, dSub_int, dFdiv_int, dMod_int, dLt_int, dLe_int, dGt_int, dGe_int, dAddI_int, dSubI_int, dIsN_non, isN, dAdd_int, ll0, ll1, ll2, ll3, ll4, ll5, ll6, ll7, ll8, ll9, ll10, ll11, ll12, ll13, ll14, ll15, ll16, ll17, ll18, ll19, ll20, ll21, ll22, ll23, ll24, ll25, ll26, ll27, ll28, ll29, ll30, ll31, ll32, ll33, ll34, ll35, ll36, ll37, ll38, ll39, ll40, Nat.reduceSub, Nat.reduceAdd, Nat.reduceEqDiff, if_true, if_false, ifp_t, ifp_f, reduceIte, Bool.true_eq_false, Bool.false_eq_true, Option.map_some, Option.map_none, Option.bind_some, Option.bind_none, h1, h2, isInt0, isBl, Bool.not_true, isI]
  | non => simp only [eVar, eC, eOp, eT, eAnd, eOr, eNot, eIf, eAndV, eOrV, eNotV, eCall, aNil, aCons, aStar, sOf, eTup, eFl, eLoc, eSl, oNone, oSome, iOf, eNeg, eChain, eMt, bOf, eDict0, eRev, eListRg, iZipD, sRaise1, sRaise0, eCallV, List.lookup, R.bind_ok, R.bind_er, R.bind_stuck, R.toS_ok, R.toS_er, R.toS_stuck, SR.next_nx, SR.next_rt, SR.next_er, SR.next_bk, SR.next_ct, SR.next_stuck, sNil, sSeq, sBrk, sCnt, sExp, sRet, sRetN, sIf, sSet, sAsg, sAug, sPar2, sPar3, tN, DL.tTup, DL.tNil, DL.tCons, DL.tSub, iSeq, srcOf, iRange1, iRange2, sFor, startD, List.map_cons, List.map_nil, List.length_cons, List.length_nil, List.replicate, List.cons_append, List.nil_append, List.getElem?_cons_zero, List.getElem?_cons_succ, List.set_cons_zero, List.set_cons_succ, dSub_int, dFdiv_int, dMod_int, dLt_int, dLe_int, dGt_int, dGe_int, dAddI_int, dSubI_int, dIsN_non, isN, dAdd_int, ll0, ll1, ll2, ll3, ll4, ll5, ll6, ll7, ll8, ll9, ll10, ll11, ll12, ll13, ll14, ll15, ll16, ll17, ll18, ll19, ll20, ll21, ll22, ll23, ll24, ll25, ll26, ll27, ll28, ll29, ll30, ll31, ll32, ll33, ll34, ll35, ll36, ll37, ll38, ll39, ll40, Nat.reduceSub, Nat.reduceAdd, Nat.reduceEqDiff, if_true, if_false, ifp_t, ifp_f, reduceIte, Bool.true_eq_false, Bool.false_eq_true, Option.map_some, Option.map_none, Option.bind_some, Option.bind_none, isi_int (v := .non) rfl, isInt0, isI]
  | str x => simp only [eVar, eC, eOp, eT, eAnd, eOr, eNot, eIf, eAndV, eOrV, eNotV, eCall, aNil, aCons, aStar, sOf, eTup, eFl, eLoc, eSl, oNone, oSome, iOf, eNeg, eChain, eMt, bOf, eDict0, eRev, eListRg, iZipD, sRaise1, sRaise0, eCallV, List.lookup, R.bind_ok, R.bind_er, R.bind_stuck, R.toS_ok, R.toS_er, R.toS_stuck, SR.next_nx, SR.next_rt, SR.next_er, SR.next_bk, SR.next_ct, SR.next_stuck, sNil, sSeq, sBrk, sCnt, sExp, sRet, sRetN, sIf, sSet, sAsg, sAug, sPar2, sPar3, tN, DL.tTup, DL.tNil, DL.tCons, DL.tSub, iSeq, srcOf, iRange1, iRange2, sFor, startD, List.map_cons, List.map_nil, List.length_cons, List.length_nil, List.replicate, List.cons_append, List.nil_append, List.getElem?_cons_zero, List.getElem?_cons_succ, List.set_cons_zero, List.set_cons_succ, dSub_int, dFdiv_int, dMod_int, dLt_int, dLe_int, dGt_int, dGe_int, dAddI_int, dSubI_int, dIsN_non, isN, dAdd_int, ll0, ll1, ll2, ll3, ll4, ll5, ll6, ll7, ll8, ll9, ll10, ll11, ll12, ll13, ll14, ll15, ll16, ll17, ll18, ll19, ll20, ll21, ll22, ll23, ll24, ll25, ll26, ll27, ll28, ll29, ll30, ll31, ll32, ll33, ll34, ll35, ll36, ll37, ll38, ll39, ll40, Nat.reduceSub, Nat.reduceAdd, Nat.reduceEqDiff, if_true, if_false, ifp_t, ifp_f, reduceIte, Bool.true_eq_false, Bool.false_eq_true, Option.map_some, Option.map_none, Option.bind_some, Option.bind_none, isi_int (v := .str x) rfl, isInt0, isI]
  | tup x => simp only [eVar, eC, eOp, eT, eAnd, eOr, eNot, eIf, eAndV, eOrV, eNotV, eCall, aNil, aCons, aStar, sOf, eTup, eFl, eLoc, eSl, oNone, oSome, iOf, eNeg, eChain, eMt, bOf, eDict0, eRev, eListRg, iZipD, sRaise1, sRaise0, eCallV, List.lookup, R.bind_ok, R.bind_er, R.bind_stuck, R.toS_ok, R.toS_er, R.toS_stuck, SR.next_nx, SR.next_rt, SR.next_er, SR.next_bk, SR.next_ct, SR.next_stuck, sNil, sSeq, sBrk, sCnt, sExp, sRet, sRetN, sIf, sSet, sAsg, sAug, sPar2, sPar3, tN, DL.tTup, DL.tNil, DL.tCons, DL.tSub, iSeq, srcOf, iRange1, iRange2, sFor, startD, List.map_cons, List.map_nil, List.length_cons, List.length_nil, List.replicate, List.cons_append, List.nil_append, List.getElem?_cons_zero, List.getElem?_cons_succ, List.set_cons_zero, List.set_cons_succ, dSub_int, dFdiv_int, dMod_int, dLt_int, dLe_int, dGt_int, dGe_int, dAddI_int, dSubI_int, dIsN_non, isN, dAdd_int, ll0, ll1, ll2, ll3, ll4, ll5, ll6, ll7, ll8, ll9, ll10, ll11, ll12, ll13, ll14, ll15, ll16, ll17, ll18, ll19, ll20, ll21, ll22, ll23, ll24, ll25, ll26, ll27, ll28, ll29, ll30, ll31, ll32, ll33, ll34, ll35, ll36, ll37, ll38, ll39, ll40, Nat.reduceSub, Nat.reduceAdd, Nat.reduceEqDiff, if_true, if_false, ifp_t, ifp_f, reduceIte, Bool.true_eq_false, Bool.false_eq_true, Option.map_some, Option.map_none, Option.bind_some, Option.bind_none, isi_int (v := .tup x) rfl, isInt0, isI]
  | fl x => simp only [eVar, eC, eOp, eT, eAnd, eOr, eNot, eIf, eAndV, eOrV, eNotV, eCall, aNil, aCons, aStar, sOf, eTup, eFl, eLoc, eSl, oNone, oSome, iOf, eNeg, eChain, eMt, bOf, eDict0, eRev, eListRg, iZipD, sRaise1, sRaise0, eCallV, List.lookup, R.bind_ok, R.bind_er, R.bind_stuck, R.toS_ok, R.toS_er, R.toS_stuck, SR.next_nx, SR.next_rt, SR.next_er, SR.next_bk, SR.next_ct, SR.next_stuck, sNil, sSeq, sBrk, sCnt, sExp, sRet, sRetN, sIf, sSet, sAsg, sAug, sPar2, sPar3, tN, DL.tTup, DL.tNil, DL.tCons, DL.tSub, iSeq, srcOf, iRange1, iRange2, sFor, startD, List.map_cons, List.map_nil, List.length_cons, List.length_nil, List.replicate, List.cons_append, List.nil_append, List.getElem?_cons_zero, List.getElem?_cons_succ, List.set_cons_zero, List.set_cons_succ, dSub_int, dFdiv_int, dMod_int, dLt_int, dLe_int, dGt_int, dGe_int, dAddI_int, dSubI_int, dIsN_non, isN, dAdd_int, ll0, ll1, ll2, ll3, ll4, ll5, ll6, ll7, ll8, ll9, ll10, ll11, ll12, ll13, ll14, ll15, ll16, ll17, ll18, ll19, ll20, ll21, ll22, ll23, ll24, ll25, ll26, ll27, ll28, ll29, ll30, ll31, ll32, ll33, ll34, ll35, ll36, ll37, ll38, ll39, ll40, Nat.reduceSub, Nat.reduceAdd, Nat.reduceEqDiff, if_true, if_false, ifp_t, ifp_f, reduceIte, Bool.true_eq_false, Bool.false_eq_true, Option.map_some, Option.map_none, Option.bind_some, Option.bind_none, isi_int (v := .fl x) rfl, isInt0, isI]
  | fd x => simp only [eVar, eC, eOp, eT, eAnd, eOr, eNot, eIf, eAndV, eOrV, eNotV, eCall, aNil, aCons, aStar, sOf, eTup, eFl, eLoc, eSl, oNone, oSome, iOf, eNeg, eChain, eMt, bOf, eDict0, eRev, eListRg, iZipD, sRaise1, sRaise0, eCallV, List.lookup, R.bind_ok, R.bind_er, R.bind_stuck, R.toS_ok, R.toS_er, R.toS_stuck, SR.next_nx, SR.next_rt, SR.next_er, SR.next_bk, SR.next_ct, SR.next_stuck, sNil, sSeq, sBrk, sCnt, sExp, sRet, sRetN, sIf, sSet, sAsg, sAug, sPar2, sPar3, tN, DL.tTup, DL.tNil, DL.tCons, DL.tSub, iSeq, srcOf, iRange1, iRange2, sFor, startD, List.map_cons, List.map_nil, List.length_cons, List.length_nil, List.replicate, List.cons_append, List.nil_append, List.getElem?_cons_zero, List.getElem?_cons_succ, List.set_cons_zero, List.set_cons_succ, dSub_int, dFdiv_int, dMod_int, dLt_int, dLe_int, dGt_int, dGe_int, dAddI_int, dSubI_int, dIsN_non, isN, dAdd_int, ll0, ll1, ll2, ll3, ll4, ll5, ll6, ll7, ll8, ll9, ll10, ll11, ll12, ll13, ll14, ll15, ll16, ll17, ll18, ll19, ll20, ll21, ll22, ll23, ll24, ll25, ll26, ll27, ll28, ll29, ll30, ll31, ll32, ll33, ll34, ll35, ll36, ll37, ll38, ll39, ll40, Nat.reduceSub, Nat.reduceAdd, Nat.reduceEqDiff, if_true, if_false, ifp_t, ifp_f, reduceIte, Bool.true_eq_false, Bool.false_eq_true, Option.map_some, Option.map_none, Option.bind_some, Option.bind_none, isi_int (v := .fd x) rfl, isInt0, isI]
  | _ => simp [pl] at h
/-- the place that a value is -/
def plc (n : Nat) (v : D) : Option Nat := match v with
  | .int i => if 0 ≤ i ∧ i < n then some i.toNat else none
  | _ => none
def noPlace (v : D) : Ex := ⟨.own "NoPlace", [("value", v)]⟩
theorem plc_int {n p : Nat} (h : p < n) : plc n (.int p) = some p := by
  show (if 0 ≤ (p : Int) ∧ (p : Int) < n then some (p : Int).toNat else none) = some p
  rw [if_pos (by omega)]
  simp
theorem plc_some {n : Nat} {v : D} {p : Nat} (h : plc n v = some p) : v = .int p ∧ p < n := by
  cases v with
  | int i =>
    simp only [plc] at h
    split at h
    · rename_i hh
      cases h
      refine ⟨?_, by omega⟩
      congr 1
      omega
    · cases h
  | _ => cases h
theorem isI_plc (n : Nat) (v : D) : isI v 0 ((n : Int) - 1) = (plc n v).isSome := by
  cases v with
  | int i =>
    simp only [isI, plc]
    by_cases h : 0 ≤ i ∧ i < n
    · rw [if_pos h, decide_eq_true (by omega)]; rfl
    · rw [if_neg h, decide_eq_false (by omega)]; rfl
  | _ => rfl
theorem check_any (l : List Int) {v : D} (h : pl v = true) (S : Sto) : F_check_place [ti l, v] S = (match plc l.length v with
    | some _ => .ok .non S
    | none => .er (noPlace v) S) := by
  have hi := is_int_any h 0 ((l.length : Int) - 1) S
  rw [isI_plc] at hi
  cases e : plc l.length v with
  | some p =>
    rw [e] at hi
    refine fnC_nx rfl (ρ := [some (ti l), some v]) ?_ rfl
    unfold B_check_place
    simp only [eVar, eC, eOp, eT, eAnd, eOr, eNot, eIf, eAndV, eOrV, eNotV, eCall, aNil, aCons, aStar, sOf, eTup, eFl, eLoc, eSl, oNone, oSome, iOf, eNeg, eChain, eMt, bOf, eDict0, eRev, eListRg, iZipD, sRaise1, sRaise0, eCallV, List.lookup, R.bind_ok, R.bind_er, R.bind_stuck, R.toS_ok, R.toS_er, R.toS_stuck, SR.next_nx, SR.next_rt, SR.next_er, SR.next_bk, SR.next_ct, SR.next_stuck, sNil, sSeq, sBrk, sCnt, sExp, sRet, sRetN, sIf, sSet, sAsg, sAug, sPar2, sPar3, tN, DL.tTup, DL.tNil, DL.tCons, DL.tSub, iSeq, srcOf, iRange1, iRange2, sFor, startD, List.map_cons, List.map_nil, List.length_cons, List.length_nil, List.replicate, List.cons_append, List.nil_append, List.getElem?_cons_zero, List.getElem?_cons_succ, List.set_cons_zero, List.set_cons_succ, dSub_int, dFdiv_int, dMod_int, dLt_int, dLe_int, dGt_int, dGe_int, dAddI_int, dSubI_int, dIsN_non, isN, dAdd_int, ll0, ll1, ll2, ll3, ll4, ll5, ll6, ll7, ll8, ll9, ll10, ll11, ll12, ll13, ll14, ll15, ll16, ll17, ll18, ll19, ll20, ll21, ll22, ll23, ll24, ll25, ll26, ll27, ll28, ll29, ll30, ll31, ll32, ll33, ll34, ll35, ll36, ll37, ll38, ll39, ll40, Nat.reduceSub, Nat.reduceAdd, Nat.reduceEqDiff, if_true, if_false, ifp_t, ifp_f, reduceIte, Bool.true_eq_false, Bool.false_eq_true, Option.map_some, Option.map_none, Option.bind_some, Option.bind_none, ti_len, hi, Option.isSome_some, Bool.not_true]
  | none =>
    rw [e] at hi
    refine fnC_er rfl (ρ := [some (ti l), some v]) ?_ rfl
    unfold B_check_place
    simp only [eVar, eC, eOp, eT, eAnd, eOr, eNot, eIf, eAndV, eOrV, eNotV, eCall, aNil, aCons, aStar, sOf, eTup, eFl, eLoc, eSl, oNone, oSome, iOf, eNeg, eChain, eMt, bOf, eDict0, eRev, eListRg, iZipD, sRaise1, sRaise0, eCallV, List.lookup, R.bind_ok, R.bind_er, R.bind_stuck, R.toS_ok, R.toS_er, R.toS_stuck, SR.next_nx, SR.next_rt, SR.next_er, SR.next_bk, SR.next_ct, SR.next_stuck, sNil, sSeq, sBrk, sCnt, sExp, sRet, sRetN, sIf, sSet, sAsg, sAug, sPar2, sPar3, tN, DL.tTup, DL.tNil, DL.tCons, DL.tSub, iSeq, srcOf, iRange1, iRange2, sFor, startD, List.map_cons, List.map_nil, List.length_cons, List.length_nil, List.replicate, List.cons_append, List.nil_append, List.getElem?_cons_zero, List.getElem?_cons_succ, List.set_cons_zero, List.set_cons_succ, dSub_int, dFdiv_int, dMod_int, dLt_int, dLe_int, dGt_int, dGe_int, dAddI_int, dSubI_int, dIsN_non, isN, dAdd_int, ll0, ll1, ll2, ll3, ll4, ll5, ll6, ll7, ll8, ll9, ll10, ll11, ll12, ll13, ll14, ll15, ll16, ll17, ll18, ll19, ll20, ll21, ll22, ll23, ll24, ll25, ll26, ll27, ll28, ll29, ll30, ll31, ll32, ll33, ll34, ll35, ll36, ll37, ll38, ll39, ll40, Nat.reduceSub, Nat.reduceAdd, Nat.reduceEqDiff, if_true, if_false, ifp_t, ifp_f, reduceIte, Bool.true_eq_false, Bool.false_eq_true, Option.map_some, Option.map_none, Option.bind_some, Option.bind_none, ti_len, hi, Option.isSome_none, Bool.not_false]
    rfl
theorem turned_any (l : List Int) {v : D} (h : pl v = true) (hl : l.length < 10 ^ 6) (S : Sto) : F_turned [ti l, v] S = (match plc l.length v with
    | some p => .ok (ti (rot l p)) S
    | none => .er (noPlace v) S) := by
  have hc := check_any l h S
  cases e : plc l.length v with
  | some p =>
    rw [e] at hc
    obtain ⟨rfl, hp⟩ := plc_some e
    refine fnC_rt rfl ?_ rfl
    unfold B_turned
    have so : ∀ (l : List Int) S, seqOf S (ti l) = some (l.map D.int) := fun l S => rfl
    have hlen : ((l.drop p).map D.int ++ (l.take p).map D.int).length ≤ sizeLine := by
      rw [List.length_append, List.length_map, List.length_map, List.length_drop, List.length_take]
      exact Nat.le_trans (show l.length - p + min p l.length ≤ 10 ^ 6 by omega) (by decide)
    simp only [eVar, eC, eOp, eT, eAnd, eOr, eNot, eIf, eAndV, eOrV, eNotV, eCall, aNil, aCons, aStar, sOf, eTup, eFl, eLoc, eSl, oNone, oSome, iOf, eNeg, eChain, eMt, bOf, eDict0, eRev, eListRg, iZipD, sRaise1, sRaise0, eCallV, List.lookup, R.bind_ok, R.bind_er, R.bind_stuck, R.toS_ok, R.toS_er, R.toS_stuck, SR.next_nx, SR.next_rt, SR.next_er, SR.next_bk, SR.next_ct, SR.next_stuck, sNil, sSeq, sBrk, sCnt, sExp, sRet, sRetN, sIf, sSet, sAsg, sAug, sPar2, sPar3, tN, DL.tTup, DL.tNil, DL.tCons, DL.tSub, iSeq, srcOf, iRange1, iRange2, sFor, startD, List.map_cons, List.map_nil, List.length_cons, List.length_nil, List.replicate, List.cons_append, List.nil_append, List.getElem?_cons_zero, List.getElem?_cons_succ, List.set_cons_zero, List.set_cons_succ, dSub_int, dFdiv_int, dMod_int, dLt_int, dLe_int, dGt_int, dGe_int, dAddI_int, dSubI_int, dIsN_non, isN, dAdd_int, ll0, ll1, ll2, ll3, ll4, ll5, ll6, ll7, ll8, ll9, ll10, ll11, ll12, ll13, ll14, ll15, ll16, ll17, ll18, ll19, ll20, ll21, ll22, ll23, ll24, ll25, ll26, ll27, ll28, ll29, ll30, ll31, ll32, ll33, ll34, ll35, ll36, ll37, ll38, ll39, ll40, Nat.reduceSub, Nat.reduceAdd, Nat.reduceEqDiff, if_true, if_false, ifp_t, ifp_f, reduceIte, Bool.true_eq_false, Bool.false_eq_true, Option.map_some, Option.map_none, Option.bind_some, Option.bind_none, hc, sl_from, sl_to, so, List.append_nil]
    rw [ifp_pos hlen, R.toS_ok, ← List.map_append]
    rfl
  | none =>
    rw [e] at hc
    refine fnC_er rfl (ρ := [some (ti l), some v]) ?_ rfl
    unfold B_turned
    simp only [eVar, eC, eOp, eT, eAnd, eOr, eNot, eIf, eAndV, eOrV, eNotV, eCall, aNil, aCons, aStar, sOf, eTup, eFl, eLoc, eSl, oNone, oSome, iOf, eNeg, eChain, eMt, bOf, eDict0, eRev, eListRg, iZipD, sRaise1, sRaise0, eCallV, List.lookup, R.bind_ok, R.bind_er, R.bind_stuck, R.toS_ok, R.toS_er, R.toS_stuck, SR.next_nx, SR.next_rt, SR.next_er, SR.next_bk, SR.next_ct, SR.next_stuck, sNil, sSeq, sBrk, sCnt, sExp, sRet, sRetN, sIf, sSet, sAsg, sAug, sPar2, sPar3, tN, DL.tTup, DL.tNil, DL.tCons, DL.tSub, iSeq, srcOf, iRange1, iRange2, sFor, startD, List.map_cons, List.map_nil, List.length_cons, List.length_nil, List.replicate, List.cons_append, List.nil_append, List.getElem?_cons_zero, List.getElem?_cons_succ, List.set_cons_zero, List.set_cons_succ, dSub_int, dFdiv_int, dMod_int, dLt_int, dLe_int, dGt_int, dGe_int, dAddI_int, dSubI_int, dIsN_non, isN, dAdd_int, ll0, ll1, ll2, ll3, ll4, ll5, ll6, ll7, ll8, ll9, ll10, ll11, ll12, ll13, ll14, ll15, ll16, ll17, ll18, ll19, ll20, ll21, ll22, ll23, ll24, ll25, ll26, ll27, ll28, ll29, ll30, ll31, ll32, ll33, ll34, ll35, ll36, ll37, ll38, ll39, ll40, Nat.reduceSub, Nat.reduceAdd, Nat.reduceEqDiff, if_true, if_false, ifp_t, ifp_f, reduceIte, Bool.true_eq_false, Bool.false_eq_true, Option.map_some, Option.map_none, Option.bind_some, Option.bind_none, hc]
theorem turned_ok (l : List Int) (p : Nat) (hp : p < l.length) (hl : l.length < 10 ^ 6) (S : Sto) : F_turned [ti l, .int p] S = .ok (ti (rot l p)) S := by
  have := turned_any l (v := .int p) rfl hl S
  rw [plc_int hp] at this
  exact this
theorem need_any (l : List Int) {v : D} (h : pl v = true) (hl : l.length < 10 ^ 6) (S : Sto) : F_need [ti l, v] S = (match plc l.length v with
    | some p => .ok (.int (ne (rot l p))) S
    | none => .er (noPlace v) S) := by
  have hc := turned_any l h hl S
  cases e : plc l.length v with
  | some p =>
    rw [e] at hc
    obtain ⟨rfl, hp⟩ := plc_some e
    refine fnC_rt rfl ?_ rfl
    unfold B_need
    simp only [eVar, eC, eOp, eT, eAnd, eOr, eNot, eIf, eAndV, eOrV, eNotV, eCall, aNil, aCons, aStar, sOf, eTup, eFl, eLoc, eSl, oNone, oSome, iOf, eNeg, eChain, eMt, bOf, eDict0, eRev, eListRg, iZipD, sRaise1, sRaise0, eCallV, List.lookup, R.bind_ok, R.bind_er, R.bind_stuck, R.toS_ok, R.toS_er, R.toS_stuck, SR.next_nx, SR.next_rt, SR.next_er, SR.next_bk, SR.next_ct, SR.next_stuck, sNil, sSeq, sBrk, sCnt, sExp, sRet, sRetN, sIf, sSet, sAsg, sAug, sPar2, sPar3, tN, DL.tTup, DL.tNil, DL.tCons, DL.tSub, iSeq, srcOf, iRange1, iRange2, sFor, startD, List.map_cons, List.map_nil, List.length_cons, List.length_nil, List.replicate, List.cons_append, List.nil_append, List.getElem?_cons_zero, List.getElem?_cons_succ, List.set_cons_zero, List.set_cons_succ, dSub_int, dFdiv_int, dMod_int, dLt_int, dLe_int, dGt_int, dGe_int, dAddI_int, dSubI_int, dIsN_non, isN, dAdd_int, ll0, ll1, ll2, ll3, ll4, ll5, ll6, ll7, ll8, ll9, ll10, ll11, ll12, ll13, ll14, ll15, ll16, ll17, ll18, ll19, ll20, ll21, ll22, ll23, ll24, ll25, ll26, ll27, ll28, ll29, ll30, ll31, ll32, ll33, ll34, ll35, ll36, ll37, ll38, ll39, ll40, Nat.reduceSub, Nat.reduceAdd, Nat.reduceEqDiff, if_true, if_false, ifp_t, ifp_f, reduceIte, Bool.true_eq_false, Bool.false_eq_true, Option.map_some, Option.map_none, Option.bind_some, Option.bind_none, hc, need_of_ok (rot l p) (by rw [DL.rot_length l p (by omega)]; exact hl)]
  | none =>
    rw [e] at hc
    refine fnC_er rfl (ρ := [some (ti l), some v]) ?_ rfl
    unfold B_need
    simp only [eVar, eC, eOp, eT, eAnd, eOr, eNot, eIf, eAndV, eOrV, eNotV, eCall, aNil, aCons, aStar, sOf, eTup, eFl, eLoc, eSl, oNone, oSome, iOf, eNeg, eChain, eMt, bOf, eDict0, eRev, eListRg, iZipD, sRaise1, sRaise0, eCallV, List.lookup, R.bind_ok, R.bind_er, R.bind_stuck, R.toS_ok, R.toS_er, R.toS_stuck, SR.next_nx, SR.next_rt, SR.next_er, SR.next_bk, SR.next_ct, SR.next_stuck, sNil, sSeq, sBrk, sCnt, sExp, sRet, sRetN, sIf, sSet, sAsg, sAug, sPar2, sPar3, tN, DL.tTup, DL.tNil, DL.tCons, DL.tSub, iSeq, srcOf, iRange1, iRange2, sFor, startD, List.map_cons, List.map_nil, List.length_cons, List.length_nil, List.replicate, List.cons_append, List.nil_append, List.getElem?_cons_zero, List.getElem?_cons_succ, List.set_cons_zero, List.set_cons_succ, dSub_int, dFdiv_int, dMod_int, dLt_int, dLe_int, dGt_int, dGe_int, dAddI_int, dSubI_int, dIsN_non, isN, dAdd_int, ll0, ll1, ll2, ll3, ll4, ll5, ll6, ll7, ll8, ll9, ll10, ll11, ll12, ll13, ll14, ll15, ll16, ll17, ll18, ll19, ll20, ll21, ll22, ll23, ll24, ll25, ll26, ll27, ll28, ll29, ll30, ll31, ll32, ll33, ll34, ll35, ll36, ll37, ll38, ll39, ll40, Nat.reduceSub, Nat.reduceAdd, Nat.reduceEqDiff, if_true, if_false, ifp_t, ifp_f, reduceIte, Bool.true_eq_false, Bool.false_eq_true, Option.map_some, Option.map_none, Option.bind_some, Option.bind_none, hc]
theorem need_ok (l : List Int) (p : Nat) (hp : p < l.length) (hl : l.length < 10 ^ 6) (S : Sto) : F_need [ti l, .int p] S = .ok (.int (ne (rot l p))) S := by
  have := need_any l (v := .int p) rfl hl S
  rw [plc_int hp] at this
  exact this
theorem beginnings_ok (l : List Int) (hl : l.length < 10 ^ 6) (S : Sto) : F_beginnings [ti l] S = .ok (.tup (ni (begs l))) S := by
  refine fnC_rt rfl ?_ rfl
  unfold B_beginnings
  have key := eLc_keep (src := iRange1 (aCons (eCall bLen (aCons (eVar 0) aNil)) aNil)) (T := tN 1) (vs := [1]) (c := Q1_beginnings) (f := E1_beginnings) (ρ := [some (ti l), none]) (S := S) l.length (fun d => [some (ti l), some d]) (fun p => decide (ne (rot l p) = 0)) ?_ ?_ hl
  · have hst : startD 2 [ti l] = [some (ti l), none] := rfl
    rw [hst]
    simp only [eVar, eC, eOp, eT, eAnd, eOr, eNot, eIf, eAndV, eOrV, eNotV, eCall, aNil, aCons, aStar, sOf, eTup, eFl, eLoc, eSl, oNone, oSome, iOf, eNeg, eChain, eMt, bOf, eDict0, eRev, eListRg, iZipD, sRaise1, sRaise0, eCallV, List.lookup, R.bind_ok, R.bind_er, R.bind_stuck, R.toS_ok, R.toS_er, R.toS_stuck, SR.next_nx, SR.next_rt, SR.next_er, SR.next_bk, SR.next_ct, SR.next_stuck, sNil, sSeq, sBrk, sCnt, sExp, sRet, sRetN, sIf, sSet, sAsg, sAug, sPar2, sPar3, tN, DL.tTup, DL.tNil, DL.tCons, DL.tSub, iSeq, srcOf, iRange1, iRange2, sFor, startD, List.map_cons, List.map_nil, List.length_cons, List.length_nil, List.replicate, List.cons_append, List.nil_append, List.getElem?_cons_zero, List.getElem?_cons_succ, List.set_cons_zero, List.set_cons_succ, dSub_int, dFdiv_int, dMod_int, dLt_int, dLe_int, dGt_int, dGe_int, dAddI_int, dSubI_int, dIsN_non, isN, dAdd_int, ll0, ll1, ll2, ll3, ll4, ll5, ll6, ll7, ll8, ll9, ll10, ll11, ll12, ll13, ll14, ll15, ll16, ll17, ll18, ll19, ll20, ll21, ll22, ll23, ll24, ll25, ll26, ll27, ll28, ll29, ll30, ll31, ll32, ll33, ll34, ll35, ll36, ll37, ll38, ll39, ll40, Nat.reduceSub, Nat.reduceAdd, Nat.reduceEqDiff, if_true, if_false, ifp_t, ifp_f, reduceIte, Bool.true_eq_false, Bool.false_eq_true, Option.map_some, Option.map_none, Option.bind_some, Option.bind_none, key, bTuple_fl]
    rfl
  · have hr : ((-(2 ^ 62) : Int) ≤ (l.length : Int) ∧ (l.length : Int) < 2 ^ 62) = True := by simp; omega
    simp only [eVar, eC, eOp, eT, eAnd, eOr, eNot, eIf, eAndV, eOrV, eNotV, eCall, aNil, aCons, aStar, sOf, eTup, eFl, eLoc, eSl, oNone, oSome, iOf, eNeg, eChain, eMt, bOf, eDict0, eRev, eListRg, iZipD, sRaise1, sRaise0, eCallV, List.lookup, R.bind_ok, R.bind_er, R.bind_stuck, R.toS_ok, R.toS_er, R.toS_stuck, SR.next_nx, SR.next_rt, SR.next_er, SR.next_bk, SR.next_ct, SR.next_stuck, sNil, sSeq, sBrk, sCnt, sExp, sRet, sRetN, sIf, sSet, sAsg, sAug, sPar2, sPar3, tN, DL.tTup, DL.tNil, DL.tCons, DL.tSub, iSeq, srcOf, iRange1, iRange2, sFor, startD, List.map_cons, List.map_nil, List.length_cons, List.length_nil, List.replicate, List.cons_append, List.nil_append, List.getElem?_cons_zero, List.getElem?_cons_succ, List.set_cons_zero, List.set_cons_succ, dSub_int, dFdiv_int, dMod_int, dLt_int, dLe_int, dGt_int, dGe_int, dAddI_int, dSubI_int, dIsN_non, isN, dAdd_int, ll0, ll1, ll2, ll3, ll4, ll5, ll6, ll7, ll8, ll9, ll10, ll11, ll12, ll13, ll14, ll15, ll16, ll17, ll18, ll19, ll20, ll21, ll22, ll23, ll24, ll25, ll26, ll27, ll28, ll29, ll30, ll31, ll32, ll33, ll34, ll35, ll36, ll37, ll38, ll39, ll40, Nat.reduceSub, Nat.reduceAdd, Nat.reduceEqDiff, if_true, if_false, ifp_t, ifp_f, reduceIte, Bool.true_eq_false, Bool.false_eq_true, Option.map_some, Option.map_none, Option.bind_some, Option.bind_none, ti_len, hr, Int.toNat_natCast]
  · intro k hk S'
    refine ⟨rfl, ?_, rfl⟩
    simp only [eVar, eC, eOp, eT, eAnd, eOr, eNot, eIf, eAndV, eOrV, eNotV, eCall, aNil, aCons, aStar, sOf, eTup, eFl, eLoc, eSl, oNone, oSome, iOf, eNeg, eChain, eMt, bOf, eDict0, eRev, eListRg, iZipD, sRaise1, sRaise0, eCallV, List.lookup, R.bind_ok, R.bind_er, R.bind_stuck, R.toS_ok, R.toS_er, R.toS_stuck, SR.next_nx, SR.next_rt, SR.next_er, SR.next_bk, SR.next_ct, SR.next_stuck, sNil, sSeq, sBrk, sCnt, sExp, sRet, sRetN, sIf, sSet, sAsg, sAug, sPar2, sPar3, tN, DL.tTup, DL.tNil, DL.tCons, DL.tSub, iSeq, srcOf, iRange1, iRange2, sFor, startD, List.map_cons, List.map_nil, List.length_cons, List.length_nil, List.replicate, List.cons_append, List.nil_append, List.getElem?_cons_zero, List.getElem?_cons_succ, List.set_cons_zero, List.set_cons_succ, dSub_int, dFdiv_int, dMod_int, dLt_int, dLe_int, dGt_int, dGe_int, dAddI_int, dSubI_int, dIsN_non, isN, dAdd_int, ll0, ll1, ll2, ll3, ll4, ll5, ll6, ll7, ll8, ll9, ll10, ll11, ll12, ll13, ll14, ll15, ll16, ll17, ll18, ll19, ll20, ll21, ll22, ll23, ll24, ll25, ll26, ll27, ll28, ll29, ll30, ll31, ll32, ll33, ll34, ll35, ll36, ll37, ll38, ll39, ll40, Nat.reduceSub, Nat.reduceAdd, Nat.reduceEqDiff, if_true, if_false, ifp_t, ifp_f, reduceIte, Bool.true_eq_false, Bool.false_eq_true, Option.map_some, Option.map_none, Option.bind_some, Option.bind_none, Q1_beginnings, need_ok l k hk hl, dEq_int]
    rfl
structure Shw (b k : Nat) (d : D) : Prop where
  ok : rok d = true
  bulk : bulkD d ≤ b
  dep : depD d ≤ k
theorem Shw.mono {b b' k k' : Nat} {d : D} (h : Shw b k d) (hb : b ≤ b') (hk : k ≤ k') : Shw b' k' d := ⟨h.ok, Nat.le_trans h.bulk hb, Nat.le_trans h.dep hk⟩
end DL
namespace DL
open PySem PySem.Spec L2
open PyProof.Rows hiding St
theorem mem_begs {l : List Int} {x : Nat} : x ∈ begs l ↔ x < l.length ∧ ne (rot l x) = 0 := by
  unfold begs
  rw [List.mem_filter, List.mem_range]
  simp
theorem atI_zero {α : Type} (x : α) (xs : List α) : atI (x :: xs) 0 = some x := by
  rw [atI_nn (by omega) (by simp)]; rfl
end DL
namespace DL
open PySem PySem.Spec L2
open PyProof.Rows hiding St
def jn (s e : Int × Int) : Int × Int := (s.1 + max 0 (e.1 - s.2), e.2 + max 0 (s.2 - e.1))
def rp (e : Int × Int) (n : Int) : Int × Int := if n = 0 then (0, 0) else if 0 ≤ (n - 1) * (e.2 - e.1) then (e.1, e.2 + (n - 1) * (e.2 - e.1)) else (e.1 - (n - 1) * (e.2 - e.1), e.2)
def dp (e : Int × Int) : D := .tup [.int e.1, .int e.2]
def wh (v : D) : Bool := match v with
  | .int i => decide (0 ≤ i)
  | _ => false
end DL
namespace DL
open PySem PySem.Spec L2
open PyProof.Rows hiding St
theorem rot_rot {α : Type} (l : List α) (p q : Nat) (hp : p < l.length) (hq : q < l.length) : rot (rot l p) q = rot l ((p + q) % l.length) := by
  have hlen : (rot l p).length = l.length := rot_length l p (by omega)
  have hm : (p + q) % l.length < l.length := Nat.mod_lt _ (by omega)
  apply List.ext_getElem?
  intro k
  by_cases hk : k < l.length
  · rw [rot_get (rot l p) q k (by omega) (by omega), hlen, rot_get l p _ (by omega) (Nat.mod_lt _ (by omega)), rot_get l _ k (by omega) hk]
    congr 1
    simp only [Nat.add_mod_mod, Nat.mod_add_mod, Nat.add_assoc]
  · rw [List.getElem?_eq_none (by rw [rot_length _ q (by omega)]; omega), List.getElem?_eq_none (by rw [rot_length l _ (by omega)]; omega)]
theorem begs_lt (l : List Int) : (begs l).Pairwise (· < ·) := by
  unfold begs
  exact List.Pairwise.filter _ List.pairwise_lt_range
/-- the beginnings of a turned row -/
theorem begs_rot (l : List Int) (p : Nat) (hp : p < l.length) : (begs (rot l p)).map (fun k : Nat => (k : Int)) = sortI ((begs l).map fun b : Nat => ((b : Int) - p) % (l.length : Int)) := by
  have hlen : (rot l p).length = l.length := rot_length l p (by omega)
  have key : ∀ b : Nat, b < l.length → ∃ q : Nat, q < l.length ∧ (q : Int) = ((b : Int) - p) % (l.length : Int) ∧ (p + q) % l.length = b := by
    intro b hb
    by_cases h : p ≤ b
    · refine ⟨b - p, by omega, ?_, ?_⟩
      · rw [Int.emod_eq_of_lt (by omega) (by omega)]; omega
      · rw [Nat.mod_eq_of_lt (by omega)]; omega
    · refine ⟨b + l.length - p, by omega, ?_, ?_⟩
      · have : ((b : Int) - p) % (l.length : Int) = ((b : Int) - p + l.length) % (l.length : Int) := by rw [Int.add_emod_right]
        rw [this, Int.emod_eq_of_lt (by omega) (by omega)]; omega
      · have : p + (b + l.length - p) = b + l.length := by omega
        rw [this, Nat.add_mod_right, Nat.mod_eq_of_lt hb]
  refine sorted_unique ?_ ?_ (sortI_sorted _)
  · refine List.Perm.trans ?_ (sortI_perm _).symm
    refine (List.perm_ext_iff_of_nodup ?_ ?_).mpr ?_
    · refine List.Pairwise.map _ (fun a b h => ?_) (begs_lt _)
      have : a < b := h
      omega
    · refine List.pairwise_map.mpr ((begs_lt l).imp_of_mem ?_)
      intro a b ha hb hab e
      obtain ⟨q, q1, q2, q3⟩ := key a (mem_begs.mp ha).1
      obtain ⟨r, r1, r2, r3⟩ := key b (mem_begs.mp hb).1
      have : q = r := by omega
      subst this
      omega
    · intro x
      simp only [List.mem_map]
      constructor
      · rintro ⟨q, hq, rfl⟩
        obtain ⟨h1, h2⟩ := mem_begs.mp hq
        rw [hlen] at h1
        rw [rot_rot l p q hp h1] at h2
        have hm : (p + q) % l.length < l.length := Nat.mod_lt _ (by omega)
        refine ⟨(p + q) % l.length, mem_begs.mpr ⟨hm, h2⟩, ?_⟩
        obtain ⟨r, r1, r2, r3⟩ := key _ hm
        rw [← r2]
        have e : r = q := by
          have a1 : (p + r) % l.length = (p + q) % l.length := r3
          by_cases x1 : p + r < l.length <;> by_cases x2 : p + q < l.length
          · rw [Nat.mod_eq_of_lt x1, Nat.mod_eq_of_lt x2] at a1; omega
          · rw [Nat.mod_eq_of_lt x1, Nat.mod_eq_sub_mod (by omega), Nat.mod_eq_of_lt (by omega)] at a1; omega
          · rw [Nat.mod_eq_of_lt x2, Nat.mod_eq_sub_mod (by omega), Nat.mod_eq_of_lt (by omega)] at a1; omega
          · rw [Nat.mod_eq_sub_mod (by omega), Nat.mod_eq_of_lt (by omega), Nat.mod_eq_sub_mod (a := p + q) (by omega), Nat.mod_eq_of_lt (by omega)] at a1; omega
        rw [e]
      · rintro ⟨b, hb, rfl⟩
        obtain ⟨h1, h2⟩ := mem_begs.mp hb
        obtain ⟨q, q1, q2, q3⟩ := key b h1
        refine ⟨q, mem_begs.mpr ⟨by rw [hlen]; exact q1, ?_⟩, q2⟩
        rw [rot_rot l p q hp q1, q3]; exact h2
  · refine List.Pairwise.map _ (fun a b h => ?_) (begs_lt _)
    have : a < b := h
    omega
end DL
namespace DL
open PySem PySem.Spec L2
open PyProof.Rows hiding St
/-- beginnings with their gaps; f is the first of all -/
def un (n f : Nat) : List Nat → List (Nat × Nat)
  | [] => []
  | [b] => [(b, n + f - b)]
  | b :: c :: r => (b, c - b) :: un n f (c :: r)
end DL
namespace DL
open PySem PySem.Spec L2
open PyProof.Rows hiding St
theorem stp_max : ∀ (b : List Int) (h m c : Int), (b.foldl stp (h, max m c)).2 = max c (b.foldl stp (h, m)).2
  | [], h, m, c => by simp; omega
  | t :: b, h, m, c => by
    rw [List.foldl_cons, List.foldl_cons]
    have e : stp (h, max m c) t = ((stp (h, m) t).1, max (stp (h, m) t).2 c) := by
      simp only [stp, Prod.mk.injEq, true_and]
      omega
    rw [e, stp_max b]
theorem stp_shift : ∀ (b : List Int) (h m k : Int), (b.foldl stp (h + k, m - k)).2 = (b.foldl stp (h, m)).2 - k
  | [], h, m, k => rfl
  | t :: b, h, m, k => by
    rw [List.foldl_cons, List.foldl_cons]
    have e : stp (h + k, m - k) t = ((stp (h, m) t).1 + k, (stp (h, m) t).2 - k) := by
      simp only [stp, Prod.mk.injEq]
      constructor <;> omega
    rw [e, stp_shift b]
theorem ne_app (a b : List Int) : ne (a ++ b) = max (ne a) (ne b - ht a) := by
  have e1 : ne (a ++ b) = (b.foldl stp (ht a, ne a)).2 := by
    unfold ne ht; rw [List.foldl_append]
  have e2 : (b.foldl stp (ht a, 0 - ht a)).2 = ne b - ht a := by
    have := stp_shift b 0 0 (ht a)
    rw [Int.zero_add] at this
    exact this
  rw [e1, ← e2]
  by_cases h : 0 - ht a ≤ ne a
  · have := stp_max b (ht a) (0 - ht a) (ne a)
    rw [show max (0 - ht a) (ne a) = ne a by omega] at this
    exact this
  · cases a with
    | nil => exfalso; exact h (by decide)
    | cons t a =>
      have := ne_ge (t :: a) (0, 0) (by simp)
      exfalso
      apply h
      show 0 - ht (t :: a) ≤ ne (t :: a)
      unfold ht ne
      omega
def toks (fs : List (Int × Int)) : List Int := (fs.map fun e => List.replicate e.2.toNat e.1).flatten
def len (fs : List (Int × Int)) : Int := (fs.map fun e => e.2).sum
end DL
namespace DL
open PySem PySem.Spec L2
open PyProof.Rows hiding St
theorem append_at {S : Sto} {n : Nat} {ds : List D} {d : D} (h : getL S n = some ds) (hl : ds.length < 10 ^ 6) : mAppend (.loc n) [d] S = .ok .non (S.set n (.lst (ds ++ [d]))) := by
  show (match getL S n with
    | some xs => ifp (xs.length < sizeLine) (R.ok D.non (S.set n (.lst (xs ++ [d])))) .stuck
    | none => .stuck) = _
  rw [h]
  exact ifp_pos (Nat.lt_of_lt_of_le hl (by decide))
theorem isLst_at {S : Sto} {n : Nat} {ds : List D} (h : getL S n = some ds) : isLst S (.loc n) = true := by
  unfold isLst
  rw [show lstOf S (.loc n) = some ds from h]; rfl
def two (S : Sto) (b a : List D) : Sto := S ++ [.lst b, .lst a]
end DL
namespace DL
open PySem PySem.Spec L2
open PyProof.Rows hiding St
theorem lc_range {i : Nat} {E : Ev → Sto → R D} {ρ : Ev} {S : Sto} {src : Ev → Sto → R Src} (n : Nat) (g : Nat → D) (ρd : D → Ev) (hs : src ρ S = .ok (rangeD 0 n, yes) S)
    (h : ∀ k, k < n → ∀ S', tN i (.int (k : Int)) (wipeD ρ [i]) S' = some (ρd (.int (k : Int)), S') ∧ E (ρd (.int (k : Int))) S' = .ok (g k) S') (hn : n ≤ 10 ^ 6) (hlow : ∀ k m, low m (g k) = true) :
    eLc finFl src (tN i) [i] cYes E ρ S = .ok (.fl ((List.range n).map g)) S := by
  let un : D → D := fun d => match d with
    | .int k => g k.toNat
    | _ => .non
  rw [eLc_pure (src := src) (rangeD 0 n) ρd (fun _ => true) un hs (by
    intro d hd S'
    obtain ⟨k, hk⟩ := List.mem_iff_getElem?.mp hd
    obtain ⟨h1, rfl⟩ := rangeD_get hk
    rw [Int.zero_add]
    obtain ⟨h2, h3⟩ := h k h1 S'
    exact ⟨h2, rfl, fun _ => h3⟩) (by rw [rangeD_len]; exact Nat.le_trans hn (by decide)) (by
    intro d hd _
    obtain ⟨k, hk⟩ := List.mem_iff_getElem?.mp hd
    obtain ⟨h1, rfl⟩ := rangeD_get hk
    exact hlow _ _)]
  congr 2
  rw [List.filter_eq_self.mpr (fun _ _ => rfl)]
  unfold rangeD
  rw [List.map_map]
  apply List.map_congr_left
  intro k _
  show g ((0 : Int) + (k : Int)).toNat = g k
  rw [Int.zero_add, Int.toNat_natCast]
theorem fnC_strm {n m : Nat} {B : Ev → Sto → SR} {ds : List D} {S S6 : Sto} {d : D} {n0 k : Nat} {rest l : Sto} (h : Strm S n0 rest) (h6 : Strm S6 k (rest ++ l)) (hl : l ≠ []) (hm : ds.length = m) (hB : B (startD n ds) S = .rt d S6) (hd : low S.length d = true) :
    fnC close n m B ds S = .ok d (S6.take S.length) ∧ Strm (S6.take S.length) k rest := by
  obtain ⟨q1, q2⟩ := h.trunc h6
  refine ⟨?_, q2⟩
  unfold fnC
  rw [if_pos hm, hB]
  show close S d S6 = _
  unfold close
  have : 0 < l.length := List.length_pos_iff.mpr hl
  rw [if_neg (by rw [h6.len, h.len, List.length_append]; omega), if_pos ⟨q1, hd⟩]
end DL
namespace DL
open PySem PySem.Spec L2
open PyProof.Rows hiding St
def lo : Int → Int → List (Int × Int) → Int
  | _, m, [] => m
  | h, m, e :: r => lo (h + (1 - e.1) * e.2) (min m (h + (1 - e.1) * e.2)) r
def addR (f : List (Int × Int)) (s m : Int) : List (Int × Int) := if 0 < m then (match f.getLast? with
    | some q => if q.2 = s - 1 then f.dropLast ++ [(q.1, s + m - 1)] else f ++ [(s, s + m - 1)]
    | none => [(s, s + m - 1)]) else f
def rg (ps : List Nat) : List (Int × Int) := ps.foldl (fun f (p : Nat) => addR f (p : Int) 1) []
theorem add_tup (a b : List D) (h : a.length + b.length ≤ 10 ^ 6) (S : Sto) : dAdd (.tup a) (.tup b) S = .ok (.tup (a ++ b)) S := by
  show ifp (a.length + b.length ≤ sizeLine) (R.ok (D.tup (a ++ b)) S) .stuck = _
  exact ifp_pos (Nat.le_trans h (by decide))
theorem at_last {α : Type} (xs : List α) (x : α) : atI (xs ++ [x]) (-1) = some x := by
  unfold atI ixN
  rw [if_neg (by omega), if_pos (by simp; omega)]
  simp
  have : (-1 + ((xs.length : Int) + 1)).toNat = xs.length := by omega
  rw [this]
  simp
end DL
namespace DL
open PySem PySem.Spec L2
open PyProof.Rows hiding St
def spr (e : Int × Int) : List Int := (List.range (e.2 - e.1 + 1).toNat).map fun (k : Nat) => e.1 + (k : Int)
theorem mem_spr {e : Int × Int} {x : Int} : x ∈ spr e ↔ e.1 ≤ x ∧ x ≤ e.2 := by
  unfold spr
  rw [List.mem_map]
  constructor
  · rintro ⟨k, hk, rfl⟩
    have := List.mem_range.mp hk
    omega
  · rintro ⟨h1, h2⟩
    exact ⟨(x - e.1).toNat, List.mem_range.mpr (by omega), by omega⟩
theorem spr_len (e : Int × Int) : (spr e).length = (e.2 - e.1 + 1).toNat := by unfold spr; simp
structure Rgs (f : List (Int × Int)) (ps : List Int) : Prop where
  sp : f.flatMap spr = ps
  le : ∀ e ∈ f, e.1 ≤ e.2
  gap : f.Pairwise fun a b => a.2 + 2 ≤ b.1
theorem Rgs.mem {f : List (Int × Int)} {ps : List Int} (h : Rgs f ps) {x : Int} : x ∈ ps ↔ ∃ e ∈ f, e.1 ≤ x ∧ x ≤ e.2 := by
  rw [← h.sp, List.mem_flatMap]
  simp only [mem_spr]
theorem Rgs.len {f : List (Int × Int)} {ps : List Int} (h : Rgs f ps) : (f.map fun e => e.2 - e.1 + 1).sum = (ps.length : Int) := by
  obtain ⟨sp, le, gap⟩ := h
  subst sp
  clear gap
  induction f with
  | nil => rfl
  | cons e f ih =>
    have he := le e List.mem_cons_self
    have := ih fun x hx => le x (List.mem_cons_of_mem _ hx)
    rw [List.map_cons, List.sum_cons, List.flatMap_cons, List.length_append, spr_len, Int.natCast_add, this]
    omega
end DL
namespace DL
open PySem PySem.Spec L2
open PyProof.Rows hiding St
/-- how many tokens are read until the height is not positive -/
def fstT : Int → List Int → Option Nat
  | _, [] => none
  | h, t :: r => if h + (1 - t) ≤ 0 then some 1 else (fstT (h + (1 - t)) r).map (· + 1)
theorem ht_cons (t : Int) (r : List Int) : ht (t :: r) = (1 - t) + ht r := by rw [ht_eq, ht_eq]; simp; omega
theorem ht_app (a b : List Int) : ht (a ++ b) = ht a + ht b := by rw [ht_eq, ht_eq, ht_eq]; simp [List.sum_append]; omega
theorem fst_some : ∀ {l : List Int} {h : Int} {s : Nat}, fstT h l = some s → 1 ≤ s ∧ s ≤ l.length ∧ h + ht (l.take s) ≤ 0 ∧ ∀ s', 1 ≤ s' → s' < s → 0 < h + ht (l.take s')
  | [], h, s, e => by simp [fstT] at e
  | t :: r, h, s, e => by
    rw [fstT] at e
    by_cases hc : h + (1 - t) ≤ 0
    · rw [if_pos hc] at e; cases e
      refine ⟨by omega, by simp, ?_, fun s' h1 h2 => by omega⟩
      rw [List.take_succ_cons, List.take_zero, ht_cons]
      have : ht [] = 0 := rfl
      omega
    · rw [if_neg hc] at e
      obtain ⟨k, hk, rfl⟩ := Option.map_eq_some_iff.mp e
      obtain ⟨i1, i2, i3, i4⟩ := fst_some hk
      refine ⟨by omega, by simp; omega, ?_, fun s' h1 h2 => ?_⟩
      · rw [List.take_succ_cons, ht_cons]; omega
      · obtain ⟨j, rfl⟩ : ∃ j, s' = j + 1 := ⟨s' - 1, by omega⟩
        rw [List.take_succ_cons, ht_cons]
        by_cases hj : j = 0
        · subst hj
          rw [List.take_zero]
          have : ht [] = 0 := rfl
          omega
        · have := i4 j (by omega) (by omega)
          omega
theorem fst_none : ∀ {l : List Int} {h : Int}, fstT h l = none → ∀ s', 1 ≤ s' → s' ≤ l.length → 0 < h + ht (l.take s')
  | [], h, e, s', h1, h2 => by simp at h2; omega
  | t :: r, h, e, s', h1, h2 => by
    rw [fstT] at e
    by_cases hc : h + (1 - t) ≤ 0
    · rw [if_pos hc] at e; cases e
    · rw [if_neg hc] at e
      have hr := Option.map_eq_none_iff.mp e
      obtain ⟨j, rfl⟩ : ∃ j, s' = j + 1 := ⟨s' - 1, by omega⟩
      rw [List.take_succ_cons, ht_cons]
      by_cases hj : j = 0
      · subst hj
        rw [List.take_zero]
        have : ht [] = 0 := rfl
        omega
      · have := fst_none hr j (by omega) (by simpa using h2)
        omega
theorem fst_no {l : List Int} {h : Int} (h4 : ∀ s', 1 ≤ s' → s' ≤ l.length → 0 < h + ht (l.take s')) : fstT h l = none := by
  cases e : fstT h l with
  | none => rfl
  | some k =>
    obtain ⟨i1, i2, i3, i4⟩ := fst_some e
    have := h4 k i1 i2; omega
/-- no token of a list reaches the ground: the need is 0 -/
theorem fst_ne (l : List Int) : fstT 0 l = none ↔ ne l = 0 := by
  have hz := ne_zero_iff l (0, 0) rfl
  have hp : ∀ k, ((l.take k).foldl stp (0, 0)).1 = ht (l.take k) := fun k => rfl
  constructor
  · intro e
    refine hz.mpr fun k hk => ?_
    have := fst_none e (k + 1) (by omega) (by omega)
    rw [hp]; omega
  · intro e
    refine fst_no fun s' h1 h2 => ?_
    obtain ⟨k, rfl⟩ : ∃ k, s' = k + 1 := ⟨s' - 1, by omega⟩
    have := hz.mp e k (by omega)
    rw [hp] at this
    omega
/-- the taker of a place of a ring -/
def tkr (l : List Int) (p : Nat) : Option Nat := (fstT 0 (rot l ((p + 1) % l.length))).map fun s => (p + s) % l.length
def optN : Option Nat → D
  | none => .non
  | some i => .int i
end DL
namespace DL
open PySem PySem.Spec L2
open PyProof.Rows hiding St
def stk (f : List D) (a : Int) : List D := f.take (f.length - a.toNat) ++ [.tup (f.drop (f.length - a.toNat))]
def trs (l : List Int) : List D := l.foldl stk []
theorem trs_snoc (l : List Int) (a : Int) : trs (l ++ [a]) = stk (trs l) a := by unfold trs; rw [List.foldl_append]; rfl
/-- as many trees as the height, while the row can be read -/
theorem trs_len : ∀ (n : Nat) (l : List Int), (∀ t ∈ l, 0 ≤ t) → ne l = 0 → n ≤ l.length → ((trs (l.take n)).length : Int) = ht (l.take n) ∧ ∀ a, l[n]? = some a → a ≤ ht (l.take n)
  | 0, l, h0, hn, hl => by
    refine ⟨by simp [trs]; rfl, fun a ha => ?_⟩
    have hz := (ne_zero_iff l (0, 0) rfl).mp hn 0 (by have := (List.getElem?_eq_some_iff.mp ha).1; omega)
    rw [take_succ' ha, List.take_zero] at hz
    have e : (([] ++ [a] : List Int).foldl stp (0, 0)).1 = 1 - a := by simp [stp]
    rw [e] at hz
    have : ht (l.take 0) = 0 := by rw [List.take_zero]; rfl
    omega
  | n + 1, l, h0, hn, hl => by
    obtain ⟨a, ha⟩ : ∃ a, l[n]? = some a := ⟨l[n], List.getElem?_eq_getElem (by omega)⟩
    obtain ⟨i1, i2⟩ := trs_len n l h0 hn (by omega)
    have h1 := i2 a ha
    have a0 := h0 a (List.mem_of_getElem? ha)
    have e1 : ht (l.take (n + 1)) = ht (l.take n) + (1 - a) := by
      rw [take_succ' ha, ht_app]
      congr 1
      rw [ht_cons]
      have : ht [] = 0 := rfl
      omega
    refine ⟨?_, fun b hb => ?_⟩
    · rw [take_succ' ha, trs_snoc, ← take_succ' ha, e1]
      unfold stk
      rw [List.length_append, List.length_take, List.length_singleton]
      omega
    · have hz := (ne_zero_iff l (0, 0) rfl).mp hn (n + 1) (by have := (List.getElem?_eq_some_iff.mp hb).1; omega)
      have e2 : ((l.take (n + 1 + 1)).foldl stp (0, 0)).1 = ht (l.take (n + 1)) + (1 - b) := by
        show ht (l.take (n + 1 + 1)) = _
        rw [take_succ' hb, ht_app]
        congr 1
        rw [ht_cons]
        have : ht [] = 0 := rfl
        omega
      rw [e2] at hz
      omega
theorem cut_fl_to (f : List D) (k : Nat) (mk : List D → Sto → R D) (S : Sto) : dSl mk (.fl f) none (some (k : Int)) S = mk (f.take k) S := by
  show mk (cut f none (some (k : Int))) S = _
  rw [cut_to]
theorem cut_fl_from (f : List D) (k : Nat) (mk : List D → Sto → R D) (S : Sto) : dSl mk (.fl f) (some (k : Int)) none S = mk (f.drop k) S := by
  show mk (cut f (some (k : Int)) none) S = _
  rw [cut_from]
end DL
namespace DL
open PySem PySem.Spec L2
open PyProof.Rows hiding St
def okS (x : Str) : Prop := ∀ c ∈ x.cps.toList, c < 16 ^ 8
end DL
namespace DL
open PySem PySem.Spec L2
open PyProof.Rows hiding St
/-- n tokens of the ring read round and round, from a on -/
def tkn (l : List Int) (a n : Nat) : List Int := (List.range n).map fun i => (l[(a + i) % l.length]?).getD 0
theorem tkn_len (l : List Int) (a n : Nat) : (tkn l a n).length = n := by simp [tkn]
theorem tkn_get {l : List Int} {a n i : Nat} (h : i < (tkn l a n).length) : (tkn l a n)[i] = (l[(a + i) % l.length]?).getD 0 := by simp [tkn]
theorem tkn_app (l : List Int) (a : Nat) : ∀ n k, tkn l a (n + k) = tkn l a n ++ tkn l (a + n) k := fun n k => by
  refine List.ext_getElem (by simp [tkn_len]) fun i h1 h2 => ?_
  rw [tkn_get]
  rw [tkn_len] at h1
  by_cases hi : i < n
  · rw [List.getElem_append_left (by rw [tkn_len]; exact hi), tkn_get]
  · rw [List.getElem_append_right (by rw [tkn_len]; omega), tkn_get, tkn_len]
    congr 3
    omega
theorem tkn_rot (l : List Int) (a : Nat) (h : 0 < l.length) : tkn l a l.length = rot l (a % l.length) := by
  have hm := Nat.mod_lt a h
  have er : rot l (a % l.length) = l.drop (a % l.length) ++ l.take (a % l.length) := rfl
  rw [er]
  refine List.ext_getElem (by rw [tkn_len, List.length_append, List.length_drop, List.length_take]; omega) fun i h1 h2 => ?_
  rw [tkn_get]
  rw [tkn_len] at h1
  have e : (a + i) % l.length = (a % l.length + i) % l.length := by rw [Nat.mod_add_mod]
  by_cases hi : i < l.length - a % l.length
  · rw [List.getElem_append_left (by rw [List.length_drop]; exact hi), List.getElem_drop, e, Nat.mod_eq_of_lt (by omega), List.getElem?_eq_getElem (by omega)]
    rfl
  · have : (a % l.length + i) % l.length = a % l.length + i - l.length := by
      rw [Nat.mod_eq_sub_mod (by omega), Nat.mod_eq_of_lt (by omega)]
    rw [List.getElem_append_right (by rw [List.length_drop]; omega), List.getElem_take, e, this, List.getElem?_eq_getElem (by omega)]
    simp only [List.length_drop, Option.getD_some]
    congr 1
    omega
/-- what a stack keeps and gives when t are taken -/
def kept (st : List Nat) (t : Nat) : List Nat := st.take (st.length - t)
end DL
namespace DL
open PySem PySem.Spec L2
open PyProof.Rows hiding St
def on (os : List (Option Nat)) : List D := os.map optN
end DL
namespace DL
open PySem PySem.Spec L2
open PyProof.Rows hiding St
def ttB : Ev → Bool
  | [] => true
  | none :: r => ttB r
  | some d :: r => tt d && ttB r
theorem ttE_of : ∀ {ρ : Ev}, ttB ρ = true → ttE ρ
  | [], _, i, d, e => by simp at e
  | none :: r, h, 0, d, e => by simp at e
  | none :: r, h, i + 1, d, e => ttE_of (ρ := r) h i d (by simpa using e)
  | some x :: r, h, 0, d, e => by
    simp only [ttB, Bool.and_eq_true] at h
    simp at e; subst e; exact h.1
  | some x :: r, h, i + 1, d, e => by
    simp only [ttB, Bool.and_eq_true] at h
    exact ttE_of (ρ := r) h.2 i d (by simpa using e)
theorem ttL_ints (l : List Int) : ttL (l.map D.int) = true := by
  induction l with
  | nil => rfl
  | cons a l ih => rw [List.map_cons, ttL, ih, tt]; rfl
noncomputable def L1_later_places : GM :=
  (gYield (eOp dMod (eOp dAdd (eVar 1) (eVar 2)) (eCall bLen (aCons (eVar 0) aNil))))
noncomputable def B_later_places : GM :=
  (gForJ (jRng2 (aCons (eC (.int 1)) (aCons (eOp dAdd (eCall bLen (aCons (eVar 0) aNil)) (eC (.int 1))) aNil))) (tN 2) L1_later_places)
def G_later_places : List D → Option (List D) := fun ds => match ds with
  | [.tup ts, .int p] => if 0 < ts.length ∧ ts.length ≤ 10 ^ 6 ∧ ttL ts = true then some ((List.range ts.length).map fun i => .int ((p + ((1 : Int) + (i : Nat))) % (ts.length : Int))) else none
  | _ => none
theorem later_loop (ts : List D) (p : Int) (h0 : 0 < ts.length) (ht : ttL ts = true) : ∀ (ks : List Nat) (x2 : Option D), ∃ ρ', gLoop (tN 2) L1_later_places (ks.map fun (k : Nat) => .int ((1 : Int) + (k : Nat))) [some (.tup ts), some (.int p), x2] (ks.map fun (i : Nat) => .int ((p + ((1 : Int) + (i : Nat))) % (ts.length : Int))) ρ'
  | [], x2 => ⟨_, rfl, rfl⟩
  | k :: ks, x2 => by
    obtain ⟨ρ', h⟩ := later_loop ts p h0 ht ks (some (.int ((1 : Int) + (k : Nat))))
    refine ⟨ρ', [some (.tup ts), some (.int p), some (.int ((1 : Int) + (k : Nat)))], [_], _, _, rfl, ttE_of (by simp [ttB, tt, ht]), ⟨rfl, _, rfl, rfl, ?_⟩, h, rfl⟩
    have ln : ∀ S, bLen [.tup ts] S = .ok (.int ts.length) S := fun S => rfl
    have hm : ∀ i S, dMod (.int i) (.int ts.length) S = .ok (.int (i % ts.length)) S := fun i S => by
      show (if (0 : Int) < (ts.length : Int) then R.ok (D.int (i % (ts.length : Int))) S else .stuck) = _
      rw [if_pos (by omega)]
    simp only [eVar, eC, eOp, eT, eAnd, eOr, eNot, eIf, eAndV, eOrV, eNotV, eCall, aNil, aCons, aStar, sOf, eTup, eFl, eLoc, eSl, oNone, oSome, iOf, eNeg, eChain, eMt, bOf, eDict0, eRev, eListRg, iZipD, sRaise1, sRaise0, eCallV, List.lookup, R.bind_ok, R.bind_er, R.bind_stuck, R.toS_ok, R.toS_er, R.toS_stuck, SR.next_nx, SR.next_rt, SR.next_er, SR.next_bk, SR.next_ct, SR.next_stuck, sNil, sSeq, sBrk, sCnt, sExp, sRet, sRetN, sIf, sSet, sAsg, sAug, sPar2, sPar3, tN, DL.tTup, DL.tNil, DL.tCons, DL.tSub, iSeq, srcOf_tup, srcOf_fl, srcOf_kl, srcOf_ti, iRange1, iRange2, sFor, startD, List.map_cons, List.map_nil, List.length_cons, List.length_nil, List.replicate, List.cons_append, List.nil_append, List.getElem?_cons_zero, List.getElem?_cons_succ, List.set_cons_zero, List.set_cons_succ, dSub_int, dFdiv_int, dMod_int, dLt_int, dLe_int, dGt_int, dGe_int, dAddI_int, dSubI_int, dIsN_non, isN, dAdd_int, ll0, ll1, ll2, ll3, ll4, ll5, ll6, ll7, ll8, ll9, ll10, ll11, ll12, ll13, ll14, ll15, ll16, ll17, ll18, ll19, ll20, ll21, ll22, ll23, ll24, ll25, ll26, ll27, ll28, ll29, ll30, ll31, ll32, ll33, ll34, ll35, ll36, ll37, ll38, ll39, ll40, Nat.reduceSub, Nat.reduceAdd, Nat.reduceEqDiff, if_true, if_false, ifp_t, ifp_f, reduceIte, Bool.true_eq_false, Bool.false_eq_true, Option.map_some, Option.map_none, Option.bind_some, Option.bind_none, tSq, sSet2, seqOf_fl, seqOf_tup, seqOf_ti, ln, hm]
theorem gb_later_places : ∀ ds xs, G_later_places ds = some xs → ds.length = 2 ∧ ∃ ρ', B_later_places (startD 3 ds) xs ρ' := by
  intro ds xs h
  unfold G_later_places at h
  split at h
  · rename_i ts p
    split at h
    · rename_i hh
      cases h
      refine ⟨rfl, ?_⟩
      obtain ⟨ρ', hl⟩ := later_loop ts p hh.1 hh.2.2 (List.range ts.length) none
      refine ⟨ρ', rangeD 1 ts.length, ⟨1, (ts.length : Int) + 1, ?_, ?_, ?_⟩, hl⟩
      · have ln : ∀ S, bLen [.tup ts] S = .ok (.int ts.length) S := fun S => rfl
        simp only [eVar, eC, eOp, eT, eAnd, eOr, eNot, eIf, eAndV, eOrV, eNotV, eCall, aNil, aCons, aStar, sOf, eTup, eFl, eLoc, eSl, oNone, oSome, iOf, eNeg, eChain, eMt, bOf, eDict0, eRev, eListRg, iZipD, sRaise1, sRaise0, eCallV, List.lookup, R.bind_ok, R.bind_er, R.bind_stuck, R.toS_ok, R.toS_er, R.toS_stuck, SR.next_nx, SR.next_rt, SR.next_er, SR.next_bk, SR.next_ct, SR.next_stuck, sNil, sSeq, sBrk, sCnt, sExp, sRet, sRetN, sIf, sSet, sAsg, sAug, sPar2, sPar3, tN, DL.tTup, DL.tNil, DL.tCons, DL.tSub, iSeq, srcOf_tup, srcOf_fl, srcOf_kl, srcOf_ti, iRange1, iRange2, sFor, startD, List.map_cons, List.map_nil, List.length_cons, List.length_nil, List.replicate, List.cons_append, List.nil_append, List.getElem?_cons_zero, List.getElem?_cons_succ, List.set_cons_zero, List.set_cons_succ, dSub_int, dFdiv_int, dMod_int, dLt_int, dLe_int, dGt_int, dGe_int, dAddI_int, dSubI_int, dIsN_non, isN, dAdd_int, ll0, ll1, ll2, ll3, ll4, ll5, ll6, ll7, ll8, ll9, ll10, ll11, ll12, ll13, ll14, ll15, ll16, ll17, ll18, ll19, ll20, ll21, ll22, ll23, ll24, ll25, ll26, ll27, ll28, ll29, ll30, ll31, ll32, ll33, ll34, ll35, ll36, ll37, ll38, ll39, ll40, Nat.reduceSub, Nat.reduceAdd, Nat.reduceEqDiff, if_true, if_false, ifp_t, ifp_f, reduceIte, Bool.true_eq_false, Bool.false_eq_true, Option.map_some, Option.map_none, Option.bind_some, Option.bind_none, tSq, sSet2, seqOf_fl, seqOf_tup, seqOf_ti, ln]
      · have := hh.2.1
        omega
      · congr 1
        omega
    · cases h
  · cases h
theorem ix_at {r : List Int} {i : Nat} {x : Int} (h : r[i]? = some x) (S : Sto) : dIx (ti r) (.int (i : Int)) S = .ok (.int x) S := by
  have hl : i < r.length := (List.getElem?_eq_some_iff.mp h).1
  refine dIx_tup ?_
  rw [atI_nn (by omega) (by rw [List.length_map]; omega), Int.toNat_natCast, List.getElem?_map, h]
  rfl
noncomputable def L1_find_taker (ρ : Ev) (S : Sto) : SR :=
  (sSeq (sIf (eT (eOp dGt (eOp dIx (eVar 0) (eVar 3)) (eVar 2))) (sRet (eVar 3)) sNil)
    (sAug 2 dAddI (eOp dSub (eC (.int 1)) (eOp dIx (eVar 0) (eVar 3))))) ρ S
noncomputable def B_find_taker : Ev → Sto → SR :=
  (sSeq (sSet 2 (eC (.int 0)))
    (sSeq (sForG (eGen G_later_places (aCons (eVar 0) (aCons (eVar 1) aNil))) (tN 3) L1_find_taker sNil)
    (sRet (eC .non))))
noncomputable def F_find_taker : Fn := fnC close 4 2 B_find_taker
/-- the places after p, from the i-th on -/
def aft (n p i m : Nat) : List D := (List.range' i m).map fun j => .int (((p + 1 + j) % n : Nat) : Int)
theorem forD_rt {g : Sto → Prop} {T : Tg} {B Z : Ev → Sto → SR} {d x : D} {ds : List D} {ρ ρ1 : Ev} {S S1 S2 : Sto} (h : g S) (hT : T d ρ S = some (ρ1, S1)) (hB : B ρ1 S1 = .rt x S2) : forD g T B Z (d :: ds) ρ S = .rt x S2 := by
  rw [forD, if_pos h, hT]
  simp only [hB]
theorem ft_loop (l : List Int) (p : Nat) (S : Sto) (h0 : 0 < l.length) : ∀ (m i : Nat) (h : Int) (x3 : Option D),
    (∀ s, fstT h (tkn l (p + 1 + i) m) = some s → forD yes (tN 3) L1_find_taker sNil (aft l.length p i m) [some (ti l), some (.int p), some (.int h), x3] S = .rt (.int (((p + i + s) % l.length : Nat) : Int)) S) ∧
    (fstT h (tkn l (p + 1 + i) m) = none → ∃ y2 y3, forD yes (tN 3) L1_find_taker sNil (aft l.length p i m) [some (ti l), some (.int p), some (.int h), x3] S = .nx [some (ti l), some (.int p), y2, y3] S)
  | 0, i, h, x3 => by
    refine ⟨fun s e => by simp [tkn, fstT] at e, fun _ => ⟨some (.int h), x3, ?_⟩⟩
    show forD yes _ L1_find_taker sNil [] _ _ = _
    rw [forD_nil trivial]; rfl
  | m + 1, i, h, x3 => by
    have ih := fun h => ft_loop l p S h0 m (i + 1) h (some (.int (((p + 1 + i) % l.length : Nat) : Int)))
    have hlt : (p + 1 + i) % l.length < l.length := Nat.mod_lt _ h0
    obtain ⟨t, ht⟩ : ∃ t, l[(p + 1 + i) % l.length]? = some t := ⟨_, List.getElem?_eq_getElem hlt⟩
    have e1 : tkn l (p + 1 + i) (m + 1) = t :: tkn l (p + 1 + (i + 1)) m := by
      rw [Nat.add_comm m 1, tkn_app]
      have : tkn l (p + 1 + i) 1 = [t] := by simp [tkn, ht]
      rw [this]; rfl
    have e2 : aft l.length p i (m + 1) = .int (((p + 1 + i) % l.length : Nat) : Int) :: aft l.length p (i + 1) m := by
      unfold aft; rw [List.range'_succ, List.map_cons]
    have ix := ix_at ht
    rw [e1, e2, fstT]
    have hT : tN 3 (.int (((p + 1 + i) % l.length : Nat) : Int)) [some (ti l), some (.int p), some (.int h), x3] S = some ([some (ti l), some (.int p), some (.int h), some (.int (((p + 1 + i) % l.length : Nat) : Int))], S) := rfl
    generalize hq : (p + 1 + i) % l.length = q at ix hT ih
    by_cases hc : h + (1 - t) ≤ 0
    · rw [if_pos hc]
      refine ⟨fun s e => ?_, fun e => by cases e⟩
      cases e
      have hgt : (h < t) = True := by simp only [eq_iff_iff, iff_true]; omega
      refine (forD_rt (x := .int (q : Int)) (S2 := S) trivial hT ?_).trans ?_
      · simp only [eVar, eC, eOp, eT, eAnd, eOr, eNot, eIf, eAndV, eOrV, eNotV, eCall, aNil, aCons, aStar, sOf, eTup, eFl, eLoc, eSl, oNone, oSome, iOf, eNeg, eChain, eMt, bOf, eDict0, eRev, eListRg, iZipD, sRaise1, sRaise0, eCallV, List.lookup, R.bind_ok, R.bind_er, R.bind_stuck, R.toS_ok, R.toS_er, R.toS_stuck, SR.next_nx, SR.next_rt, SR.next_er, SR.next_bk, SR.next_ct, SR.next_stuck, sNil, sSeq, sBrk, sCnt, sExp, sRet, sRetN, sIf, sSet, sAsg, sAug, sPar2, sPar3, tN, DL.tTup, DL.tNil, DL.tCons, DL.tSub, iSeq, srcOf_tup, srcOf_fl, srcOf_kl, srcOf_ti, iRange1, iRange2, sFor, startD, List.map_cons, List.map_nil, List.length_cons, List.length_nil, List.replicate, List.cons_append, List.nil_append, List.getElem?_cons_zero, List.getElem?_cons_succ, List.set_cons_zero, List.set_cons_succ, dSub_int, dFdiv_int, dMod_int, dLt_int, dLe_int, dGt_int, dGe_int, dAddI_int, dSubI_int, dIsN_non, isN, dAdd_int, ll0, ll1, ll2, ll3, ll4, ll5, ll6, ll7, ll8, ll9, ll10, ll11, ll12, ll13, ll14, ll15, ll16, ll17, ll18, ll19, ll20, ll21, ll22, ll23, ll24, ll25, ll26, ll27, ll28, ll29, ll30, ll31, ll32, ll33, ll34, ll35, ll36, ll37, ll38, ll39, ll40, Nat.reduceSub, Nat.reduceAdd, Nat.reduceEqDiff, if_true, if_false, ifp_t, ifp_f, reduceIte, Bool.true_eq_false, Bool.false_eq_true, Option.map_some, Option.map_none, Option.bind_some, Option.bind_none, tSq, sSet2, seqOf_fl, seqOf_tup, seqOf_ti, L1_find_taker, ix, hgt, decide_true]
      · rw [← hq, show p + 1 + i = p + i + 1 by omega]
    · rw [if_neg hc]
      have hgt : (h < t) = False := by simp only [eq_iff_iff, iff_false]; omega
      have step : L1_find_taker [some (ti l), some (.int p), some (.int h), some (.int (q : Int))] S = .nx [some (ti l), some (.int p), some (.int (h + (1 - t))), some (.int (q : Int))] S := by
        simp only [eVar, eC, eOp, eT, eAnd, eOr, eNot, eIf, eAndV, eOrV, eNotV, eCall, aNil, aCons, aStar, sOf, eTup, eFl, eLoc, eSl, oNone, oSome, iOf, eNeg, eChain, eMt, bOf, eDict0, eRev, eListRg, iZipD, sRaise1, sRaise0, eCallV, List.lookup, R.bind_ok, R.bind_er, R.bind_stuck, R.toS_ok, R.toS_er, R.toS_stuck, SR.next_nx, SR.next_rt, SR.next_er, SR.next_bk, SR.next_ct, SR.next_stuck, sNil, sSeq, sBrk, sCnt, sExp, sRet, sRetN, sIf, sSet, sAsg, sAug, sPar2, sPar3, tN, DL.tTup, DL.tNil, DL.tCons, DL.tSub, iSeq, srcOf_tup, srcOf_fl, srcOf_kl, srcOf_ti, iRange1, iRange2, sFor, startD, List.map_cons, List.map_nil, List.length_cons, List.length_nil, List.replicate, List.cons_append, List.nil_append, List.getElem?_cons_zero, List.getElem?_cons_succ, List.set_cons_zero, List.set_cons_succ, dSub_int, dFdiv_int, dMod_int, dLt_int, dLe_int, dGt_int, dGe_int, dAddI_int, dSubI_int, dIsN_non, isN, dAdd_int, ll0, ll1, ll2, ll3, ll4, ll5, ll6, ll7, ll8, ll9, ll10, ll11, ll12, ll13, ll14, ll15, ll16, ll17, ll18, ll19, ll20, ll21, ll22, ll23, ll24, ll25, ll26, ll27, ll28, ll29, ll30, ll31, ll32, ll33, ll34, ll35, ll36, ll37, ll38, ll39, ll40, Nat.reduceSub, Nat.reduceAdd, Nat.reduceEqDiff, if_true, if_false, ifp_t, ifp_f, reduceIte, Bool.true_eq_false, Bool.false_eq_true, Option.map_some, Option.map_none, Option.bind_some, Option.bind_none, tSq, sSet2, seqOf_fl, seqOf_tup, seqOf_ti, L1_find_taker, ix, hgt, decide_false]
      rw [forD_cons trivial hT step]
      refine ⟨fun s e => ?_, fun e => ?_⟩
      · cases e3 : fstT (h + (1 - t)) (tkn l (p + 1 + (i + 1)) m) with
        | none => rw [e3] at e; cases e
        | some s' =>
          rw [e3] at e
          cases e
          rw [(ih (h + (1 - t))).1 s' e3]
          rw [show p + (i + 1) + s' = p + i + (s' + 1) by omega]
      · cases e3 : fstT (h + (1 - t)) (tkn l (p + 1 + (i + 1)) m) with
        | none => exact (ih (h + (1 - t))).2 e3
        | some s' => rw [e3] at e; cases e
theorem find_taker_ok {l : List Int} {p : Nat} (h0 : 0 < l.length) (hl : l.length ≤ 10 ^ 6) (S : Sto) : F_find_taker [ti l, .int (p : Int)] S = .ok (optN (tkr l p)) S := by
  refine fnC_rt rfl ?_ rfl
  unfold B_find_taker
  have hG : ∀ S, eGen G_later_places (aCons (eVar 0) (aCons (eVar 1) aNil)) [some (ti l), some (.int (p : Int)), some (.int 0), none] S = .ok (aft l.length p 0 l.length) S := fun S => by
    have e : aCons (eVar 0) (aCons (eVar 1) aNil) [some (ti l), some (.int (p : Int)), some (.int 0), none] S = .ok [ti l, .int (p : Int)] S := rfl
    unfold eGen
    rw [e, R.bind_ok, if_pos (by simp [ti, ttL, tt, ttL_ints])]
    have : G_later_places [ti l, .int (p : Int)] = some (aft l.length p 0 l.length) := by
      unfold G_later_places ti
      dsimp only
      rw [if_pos ⟨by rw [List.length_map]; exact h0, by rw [List.length_map]; exact hl, ttL_ints l⟩, List.length_map]
      unfold aft
      rw [List.range_eq_range']
      congr 1
      refine List.map_congr_left fun i _ => ?_
      rw [Int.natCast_emod]
      congr 2
      omega
    rw [this]
  have lp := ft_loop l p S h0 l.length 0 0 none
  rw [Nat.add_zero, Nat.add_zero, tkn_rot l (p + 1) h0] at lp
  unfold tkr
  simp only [eVar, eC, eOp, eT, eAnd, eOr, eNot, eIf, eAndV, eOrV, eNotV, eCall, aNil, aCons, aStar, sOf, eTup, eFl, eLoc, eSl, oNone, oSome, iOf, eNeg, eChain, eMt, bOf, eDict0, eRev, eListRg, iZipD, sRaise1, sRaise0, eCallV, List.lookup, R.bind_ok, R.bind_er, R.bind_stuck, R.toS_ok, R.toS_er, R.toS_stuck, SR.next_nx, SR.next_rt, SR.next_er, SR.next_bk, SR.next_ct, SR.next_stuck, sNil, sSeq, sBrk, sCnt, sExp, sRet, sRetN, sIf, sSet, sAsg, sAug, sPar2, sPar3, tN, DL.tTup, DL.tNil, DL.tCons, DL.tSub, iSeq, srcOf_tup, srcOf_fl, srcOf_kl, srcOf_ti, iRange1, iRange2, sFor, startD, List.map_cons, List.map_nil, List.length_cons, List.length_nil, List.replicate, List.cons_append, List.nil_append, List.getElem?_cons_zero, List.getElem?_cons_succ, List.set_cons_zero, List.set_cons_succ, dSub_int, dFdiv_int, dMod_int, dLt_int, dLe_int, dGt_int, dGe_int, dAddI_int, dSubI_int, dIsN_non, isN, dAdd_int, ll0, ll1, ll2, ll3, ll4, ll5, ll6, ll7, ll8, ll9, ll10, ll11, ll12, ll13, ll14, ll15, ll16, ll17, ll18, ll19, ll20, ll21, ll22, ll23, ll24, ll25, ll26, ll27, ll28, ll29, ll30, ll31, ll32, ll33, ll34, ll35, ll36, ll37, ll38, ll39, ll40, Nat.reduceSub, Nat.reduceAdd, Nat.reduceEqDiff, if_true, if_false, ifp_t, ifp_f, reduceIte, Bool.true_eq_false, Bool.false_eq_true, Option.map_some, Option.map_none, Option.bind_some, Option.bind_none, tSq, sSet2, seqOf_fl, seqOf_tup, seqOf_ti, sForG, hG]
  cases e : fstT 0 (rot l ((p + 1) % l.length)) with
  | none =>
    obtain ⟨y2, y3, lp2⟩ := lp.2 e
    rw [lp2]
    rfl
  | some s =>
    rw [lp.1 s e]
    rfl
end DL
namespace DL
open PySem PySem.Spec L2
open PyProof.Rows hiding St
noncomputable def E1_takers (ρ : Ev) (S : Sto) : R D :=
  (eCall F_find_taker (aCons (eVar 0) (aCons (eVar 1) aNil))) ρ S
noncomputable def B_takers : Ev → Sto → SR :=
  (sRet (eCall bTuple (aCons (eLc finFl (iRange1 (aCons (eCall bLen (aCons (eVar 0) aNil)) aNil)) (tN 1) [1] cYes E1_takers) aNil)))
noncomputable def F_takers : Fn := fnC close 2 1 B_takers
def tkrs (l : List Int) : List (Option Nat) := (List.range l.length).map (tkr l)
theorem low_optN (o : Option Nat) (m : Nat) : low m (optN o) = true := by cases o <;> rfl
theorem takers_ok (l : List Int) (h0 : 0 < l.length) (hl : l.length ≤ 10 ^ 5) (S : Sto) : F_takers [ti l] S = .ok (.tup (on (tkrs l))) S := by
  refine fnC_rt rfl ?_ rfl
  unfold B_takers
  have key := lc_range (i := 1) (E := E1_takers) (ρ := [some (ti l), none]) (S := S) (src := iRange1 (aCons (eCall bLen (aCons (eVar 0) aNil)) aNil)) l.length (fun k => optN (tkr l k)) (fun d => [some (ti l), some d]) ?_ ?_ (by omega) (fun k m => low_optN _ m)
  · have e : (List.range l.length).map (fun k => optN (tkr l k)) = on (tkrs l) := by simp [on, tkrs]
    rw [e] at key
    have hst : startD 2 [ti l] = [some (ti l), none] := rfl
    rw [hst]
    simp only [eVar, eC, eOp, eT, eAnd, eOr, eNot, eIf, eAndV, eOrV, eNotV, eCall, aNil, aCons, aStar, sOf, eTup, eFl, eLoc, eSl, oNone, oSome, iOf, eNeg, eChain, eMt, bOf, eDict0, eRev, eListRg, iZipD, sRaise1, sRaise0, eCallV, List.lookup, R.bind_ok, R.bind_er, R.bind_stuck, R.toS_ok, R.toS_er, R.toS_stuck, SR.next_nx, SR.next_rt, SR.next_er, SR.next_bk, SR.next_ct, SR.next_stuck, sNil, sSeq, sBrk, sCnt, sExp, sRet, sRetN, sIf, sSet, sAsg, sAug, sPar2, sPar3, tN, DL.tTup, DL.tNil, DL.tCons, DL.tSub, iSeq, srcOf_tup, srcOf_fl, srcOf_kl, srcOf_ti, iRange1, iRange2, sFor, startD, List.map_cons, List.map_nil, List.length_cons, List.length_nil, List.replicate, List.cons_append, List.nil_append, List.getElem?_cons_zero, List.getElem?_cons_succ, List.set_cons_zero, List.set_cons_succ, dSub_int, dFdiv_int, dMod_int, dLt_int, dLe_int, dGt_int, dGe_int, dAddI_int, dSubI_int, dIsN_non, isN, dAdd_int, ll0, ll1, ll2, ll3, ll4, ll5, ll6, ll7, ll8, ll9, ll10, ll11, ll12, ll13, ll14, ll15, ll16, ll17, ll18, ll19, ll20, ll21, ll22, ll23, ll24, ll25, ll26, ll27, ll28, ll29, ll30, ll31, ll32, ll33, ll34, ll35, ll36, ll37, ll38, ll39, ll40, Nat.reduceSub, Nat.reduceAdd, Nat.reduceEqDiff, if_true, if_false, ifp_t, ifp_f, reduceIte, Bool.true_eq_false, Bool.false_eq_true, Option.map_some, Option.map_none, Option.bind_some, Option.bind_none, tSq, sSet2, seqOf_fl, seqOf_tup, seqOf_ti, key, bTuple_fl]
  · have hr : ((-(2 ^ 62) : Int) ≤ (l.length : Int) ∧ (l.length : Int) < 2 ^ 62) = True := by simp; omega
    simp only [eVar, eC, eOp, eT, eAnd, eOr, eNot, eIf, eAndV, eOrV, eNotV, eCall, aNil, aCons, aStar, sOf, eTup, eFl, eLoc, eSl, oNone, oSome, iOf, eNeg, eChain, eMt, bOf, eDict0, eRev, eListRg, iZipD, sRaise1, sRaise0, eCallV, List.lookup, R.bind_ok, R.bind_er, R.bind_stuck, R.toS_ok, R.toS_er, R.toS_stuck, SR.next_nx, SR.next_rt, SR.next_er, SR.next_bk, SR.next_ct, SR.next_stuck, sNil, sSeq, sBrk, sCnt, sExp, sRet, sRetN, sIf, sSet, sAsg, sAug, sPar2, sPar3, tN, DL.tTup, DL.tNil, DL.tCons, DL.tSub, iSeq, srcOf_tup, srcOf_fl, srcOf_kl, srcOf_ti, iRange1, iRange2, sFor, startD, List.map_cons, List.map_nil, List.length_cons, List.length_nil, List.replicate, List.cons_append, List.nil_append, List.getElem?_cons_zero, List.getElem?_cons_succ, List.set_cons_zero, List.set_cons_succ, dSub_int, dFdiv_int, dMod_int, dLt_int, dLe_int, dGt_int, dGe_int, dAddI_int, dSubI_int, dIsN_non, isN, dAdd_int, ll0, ll1, ll2, ll3, ll4, ll5, ll6, ll7, ll8, ll9, ll10, ll11, ll12, ll13, ll14, ll15, ll16, ll17, ll18, ll19, ll20, ll21, ll22, ll23, ll24, ll25, ll26, ll27, ll28, ll29, ll30, ll31, ll32, ll33, ll34, ll35, ll36, ll37, ll38, ll39, ll40, Nat.reduceSub, Nat.reduceAdd, Nat.reduceEqDiff, if_true, if_false, ifp_t, ifp_f, reduceIte, Bool.true_eq_false, Bool.false_eq_true, Option.map_some, Option.map_none, Option.bind_some, Option.bind_none, tSq, sSet2, seqOf_fl, seqOf_tup, seqOf_ti, ti_len, hr, Int.toNat_natCast]
  · intro k hk S'
    refine ⟨rfl, ?_⟩
    simp only [eVar, eC, eOp, eT, eAnd, eOr, eNot, eIf, eAndV, eOrV, eNotV, eCall, aNil, aCons, aStar, sOf, eTup, eFl, eLoc, eSl, oNone, oSome, iOf, eNeg, eChain, eMt, bOf, eDict0, eRev, eListRg, iZipD, sRaise1, sRaise0, eCallV, List.lookup, R.bind_ok, R.bind_er, R.bind_stuck, R.toS_ok, R.toS_er, R.toS_stuck, SR.next_nx, SR.next_rt, SR.next_er, SR.next_bk, SR.next_ct, SR.next_stuck, sNil, sSeq, sBrk, sCnt, sExp, sRet, sRetN, sIf, sSet, sAsg, sAug, sPar2, sPar3, tN, DL.tTup, DL.tNil, DL.tCons, DL.tSub, iSeq, srcOf_tup, srcOf_fl, srcOf_kl, srcOf_ti, iRange1, iRange2, sFor, startD, List.map_cons, List.map_nil, List.length_cons, List.length_nil, List.replicate, List.cons_append, List.nil_append, List.getElem?_cons_zero, List.getElem?_cons_succ, List.set_cons_zero, List.set_cons_succ, dSub_int, dFdiv_int, dMod_int, dLt_int, dLe_int, dGt_int, dGe_int, dAddI_int, dSubI_int, dIsN_non, isN, dAdd_int, ll0, ll1, ll2, ll3, ll4, ll5, ll6, ll7, ll8, ll9, ll10, ll11, ll12, ll13, ll14, ll15, ll16, ll17, ll18, ll19, ll20, ll21, ll22, ll23, ll24, ll25, ll26, ll27, ll28, ll29, ll30, ll31, ll32, ll33, ll34, ll35, ll36, ll37, ll38, ll39, ll40, Nat.reduceSub, Nat.reduceAdd, Nat.reduceEqDiff, if_true, if_false, ifp_t, ifp_f, reduceIte, Bool.true_eq_false, Bool.false_eq_true, Option.map_some, Option.map_none, Option.bind_some, Option.bind_none, tSq, sSet2, seqOf_fl, seqOf_tup, seqOf_ti, E1_takers, find_taker_ok (p := k) h0 (by omega) S']
noncomputable def E1_free_places (ρ : Ev) (S : Sto) : R D :=
  (eVar 1) ρ S
noncomputable def Q1_free_places (ρ : Ev) (S : Sto) : R Bool :=
  (eT (eOp (dIsN false) (eVar 2) (eC .non))) ρ S
noncomputable def B_free_places : Ev → Sto → SR :=
  (sRet (eCall bTuple (aCons (eLc finFl (iEnumD (aCons (eCall F_takers (aCons (eVar 0) aNil)) aNil)) (tTup 2 (tCons (tN 1) (tCons (tN 2) tNil))) [1, 2] Q1_free_places E1_free_places) aNil)))
noncomputable def F_free_places : Fn := fnC close 3 1 B_free_places
/-- the tokens whose values are never taken -/
def frees (l : List Int) : List Nat := (List.range l.length).filter fun p => (tkr l p).isNone
theorem enumD_on : ∀ (k : Nat) (os : List (Option Nat)), enumD k (on os) = (os.zipIdx k).map fun q => .tup [.int (q.2 : Int), optN q.1]
  | _, [] => rfl
  | k, o :: os => by
    show enumD k (optN o :: on os) = _
    rw [enumD, enumD_on (k + 1) os]; rfl
theorem isN_opt (o : Option Nat) (S : Sto) : dIsN false (optN o) .non S = .ok (.bl o.isNone) S := by cases o <;> rfl
theorem free_places_ok (l : List Int) (h0 : 0 < l.length) (hl : l.length ≤ 10 ^ 5) (S : Sto) : F_free_places [ti l] S = .ok (.tup (ni (frees l))) S := by
  refine fnC_rt rfl ?_ rfl
  unfold B_free_places
  have hsrc : iEnumD (aCons (eCall F_takers (aCons (eVar 0) aNil)) aNil) [some (ti l), none, none] S = .ok (enumD 0 (on (tkrs l)), yes) S := by
    have tk := takers_ok l h0 hl S
    generalize on (tkrs l) = BL at tk
    simp only [eVar, eC, eOp, eT, eAnd, eOr, eNot, eIf, eAndV, eOrV, eNotV, eCall, aNil, aCons, aStar, sOf, eTup, eFl, eLoc, eSl, oNone, oSome, iOf, eNeg, eChain, eMt, bOf, eDict0, eRev, eListRg, iZipD, sRaise1, sRaise0, eCallV, List.lookup, R.bind_ok, R.bind_er, R.bind_stuck, R.toS_ok, R.toS_er, R.toS_stuck, SR.next_nx, SR.next_rt, SR.next_er, SR.next_bk, SR.next_ct, SR.next_stuck, sNil, sSeq, sBrk, sCnt, sExp, sRet, sRetN, sIf, sSet, sAsg, sAug, sPar2, sPar3, tN, DL.tTup, DL.tNil, DL.tCons, DL.tSub, iSeq, srcOf_tup, srcOf_fl, srcOf_kl, srcOf_ti, iRange1, iRange2, sFor, startD, List.map_cons, List.map_nil, List.length_cons, List.length_nil, List.replicate, List.cons_append, List.nil_append, List.getElem?_cons_zero, List.getElem?_cons_succ, List.set_cons_zero, List.set_cons_succ, dSub_int, dFdiv_int, dMod_int, dLt_int, dLe_int, dGt_int, dGe_int, dAddI_int, dSubI_int, dIsN_non, isN, dAdd_int, ll0, ll1, ll2, ll3, ll4, ll5, ll6, ll7, ll8, ll9, ll10, ll11, ll12, ll13, ll14, ll15, ll16, ll17, ll18, ll19, ll20, ll21, ll22, ll23, ll24, ll25, ll26, ll27, ll28, ll29, ll30, ll31, ll32, ll33, ll34, ll35, ll36, ll37, ll38, ll39, ll40, Nat.reduceSub, Nat.reduceAdd, Nat.reduceEqDiff, if_true, if_false, ifp_t, ifp_f, reduceIte, Bool.true_eq_false, Bool.false_eq_true, Option.map_some, Option.map_none, Option.bind_some, Option.bind_none, tSq, sSet2, seqOf_fl, seqOf_tup, seqOf_ti, iEnumD, tk]
  have key := eLc_pure (src := iEnumD (aCons (eCall F_takers (aCons (eVar 0) aNil)) aNil)) (T := tTup 2 (tCons (tN 1) (tCons (tN 2) tNil))) (vs := [1, 2]) (c := Q1_free_places) (f := E1_free_places) (ρ := [some (ti l), none, none]) (S := S) (enumD 0 (on (tkrs l)))
    (fun d => match d with | .tup [a, b] => [some (ti l), some a, some b] | _ => []) (fun d => match d with | .tup [_, .non] => true | _ => false) (fun d => match d with | .tup [a, _] => a | _ => .non) hsrc ?_ ?_ ?_
  · have e : ((enumD 0 (on (tkrs l))).filter (fun d => match d with | .tup [_, .non] => true | _ => false)).map (fun d => match d with | .tup [a, _] => a | _ => .non) = ni (frees l) := by
      rw [enumD_on, List.filter_map, List.map_map]
      have e2 : (tkrs l).zipIdx 0 = (List.range l.length).map fun p => (tkr l p, p) := by
        refine List.ext_getElem (by simp [tkrs]) fun i h1 h2 => ?_
        simp [tkrs]
      rw [e2, List.filter_map, List.map_map]
      unfold frees ni
      have : (List.range l.length).filter (((fun d => match d with | D.tup [_, .non] => true | _ => false) ∘ fun (q : Option Nat × Nat) => D.tup [.int (q.2 : Int), optN q.1]) ∘ fun p => (tkr l p, p)) = (List.range l.length).filter fun p => (tkr l p).isNone := by
        refine List.filter_congr fun p _ => ?_
        show (match D.tup [.int (p : Int), optN (tkr l p)] with | D.tup [_, .non] => true | _ => false) = _
        cases tkr l p <;> rfl
      rw [this]
      rfl
    rw [e] at key
    have hst : startD 3 [ti l] = [some (ti l), none, none] := rfl
    rw [hst]
    simp only [eVar, eC, eOp, eT, eAnd, eOr, eNot, eIf, eAndV, eOrV, eNotV, eCall, aNil, aCons, aStar, sOf, eTup, eFl, eLoc, eSl, oNone, oSome, iOf, eNeg, eChain, eMt, bOf, eDict0, eRev, eListRg, iZipD, sRaise1, sRaise0, eCallV, List.lookup, R.bind_ok, R.bind_er, R.bind_stuck, R.toS_ok, R.toS_er, R.toS_stuck, SR.next_nx, SR.next_rt, SR.next_er, SR.next_bk, SR.next_ct, SR.next_stuck, sNil, sSeq, sBrk, sCnt, sExp, sRet, sRetN, sIf, sSet, sAsg, sAug, sPar2, sPar3, tN, DL.tTup, DL.tNil, DL.tCons, DL.tSub, iSeq, srcOf_tup, srcOf_fl, srcOf_kl, srcOf_ti, iRange1, iRange2, sFor, startD, List.map_cons, List.map_nil, List.length_cons, List.length_nil, List.replicate, List.cons_append, List.nil_append, List.getElem?_cons_zero, List.getElem?_cons_succ, List.set_cons_zero, List.set_cons_succ, dSub_int, dFdiv_int, dMod_int, dLt_int, dLe_int, dGt_int, dGe_int, dAddI_int, dSubI_int, dIsN_non, isN, dAdd_int, ll0, ll1, ll2, ll3, ll4, ll5, ll6, ll7, ll8, ll9, ll10, ll11, ll12, ll13, ll14, ll15, ll16, ll17, ll18, ll19, ll20, ll21, ll22, ll23, ll24, ll25, ll26, ll27, ll28, ll29, ll30, ll31, ll32, ll33, ll34, ll35, ll36, ll37, ll38, ll39, ll40, Nat.reduceSub, Nat.reduceAdd, Nat.reduceEqDiff, if_true, if_false, ifp_t, ifp_f, reduceIte, Bool.true_eq_false, Bool.false_eq_true, Option.map_some, Option.map_none, Option.bind_some, Option.bind_none, tSq, sSet2, seqOf_fl, seqOf_tup, seqOf_ti, key, bTuple_fl]
  · intro d hd S'
    rw [enumD_on] at hd
    obtain ⟨⟨o, i⟩, _, rfl⟩ := List.mem_map.mp hd
    refine ⟨rfl, ?_, fun _ => rfl⟩
    have := isN_opt o
    show Q1_free_places [some (ti l), some (.int (i : Int)), some (optN o)] S' = .ok (match D.tup [.int (i : Int), optN o] with | .tup [_, .non] => true | _ => false) S'
    simp only [eVar, eC, eOp, eT, eAnd, eOr, eNot, eIf, eAndV, eOrV, eNotV, eCall, aNil, aCons, aStar, sOf, eTup, eFl, eLoc, eSl, oNone, oSome, iOf, eNeg, eChain, eMt, bOf, eDict0, eRev, eListRg, iZipD, sRaise1, sRaise0, eCallV, List.lookup, R.bind_ok, R.bind_er, R.bind_stuck, R.toS_ok, R.toS_er, R.toS_stuck, SR.next_nx, SR.next_rt, SR.next_er, SR.next_bk, SR.next_ct, SR.next_stuck, sNil, sSeq, sBrk, sCnt, sExp, sRet, sRetN, sIf, sSet, sAsg, sAug, sPar2, sPar3, tN, DL.tTup, DL.tNil, DL.tCons, DL.tSub, iSeq, srcOf_tup, srcOf_fl, srcOf_kl, srcOf_ti, iRange1, iRange2, sFor, startD, List.map_cons, List.map_nil, List.length_cons, List.length_nil, List.replicate, List.cons_append, List.nil_append, List.getElem?_cons_zero, List.getElem?_cons_succ, List.set_cons_zero, List.set_cons_succ, dSub_int, dFdiv_int, dMod_int, dLt_int, dLe_int, dGt_int, dGe_int, dAddI_int, dSubI_int, dIsN_non, isN, dAdd_int, ll0, ll1, ll2, ll3, ll4, ll5, ll6, ll7, ll8, ll9, ll10, ll11, ll12, ll13, ll14, ll15, ll16, ll17, ll18, ll19, ll20, ll21, ll22, ll23, ll24, ll25, ll26, ll27, ll28, ll29, ll30, ll31, ll32, ll33, ll34, ll35, ll36, ll37, ll38, ll39, ll40, Nat.reduceSub, Nat.reduceAdd, Nat.reduceEqDiff, if_true, if_false, ifp_t, ifp_f, reduceIte, Bool.true_eq_false, Bool.false_eq_true, Option.map_some, Option.map_none, Option.bind_some, Option.bind_none, tSq, sSet2, seqOf_fl, seqOf_tup, seqOf_ti, Q1_free_places, this]
    cases o <;> rfl
  · rw [enumD_len]
    exact Nat.le_trans (show (on (tkrs l)).length ≤ 10 ^ 5 by simp [on, tkrs]; exact hl) (by decide)
  · intro d hd _
    rw [enumD_on] at hd
    obtain ⟨⟨o, i⟩, _, rfl⟩ := List.mem_map.mp hd
    rfl
end DL
namespace DL
open PySem PySem.Spec L2
open PyProof.Rows hiding St
end DL
namespace DL
open PySem PySem.Spec L2
open PyProof.Rows hiding St
theorem tkr_none {l : List Int} {p : Nat} : tkr l p = none ↔ ne (rot l ((p + 1) % l.length)) = 0 := by
  unfold tkr
  rw [Option.map_eq_none_iff, fst_ne]
theorem mem_frees {l : List Int} {p : Nat} : p ∈ frees l ↔ p < l.length ∧ tkr l p = none := by
  unfold frees
  rw [List.mem_filter, List.mem_range, Option.isNone_iff_eq_none]
theorem frees_lt (l : List Int) : (frees l).Pairwise (· < ·) := by
  unfold frees
  exact List.Pairwise.filter _ List.pairwise_lt_range
/-- a place is a beginning exactly if the token before it is free -/
theorem begs_frees (l : List Int) : (begs l).map (fun k : Nat => (k : Int)) = sortI ((frees l).map fun p : Nat => ((p : Int) + 1) % (l.length : Int)) := by
  have en : ∀ p : Nat, ((p : Int) + 1) % (l.length : Int) = (((p + 1) % l.length : Nat) : Int) := fun p => by rw [Int.natCast_emod]; rfl
  refine sorted_unique ?_ ?_ (sortI_sorted _)
  · refine List.Perm.trans ?_ (sortI_perm _).symm
    refine (List.perm_ext_iff_of_nodup ?_ ?_).mpr ?_
    · refine List.Pairwise.map _ (fun a b h => ?_) (begs_lt _)
      have : a < b := h
      omega
    · refine List.pairwise_map.mpr ((frees_lt l).imp_of_mem ?_)
      intro a b ha hb hab e
      rw [en, en] at e
      have h1 := (mem_frees.mp ha).1
      have h2 := (mem_frees.mp hb).1
      have e' : (a + 1) % l.length = (b + 1) % l.length := by omega
      rw [Nat.mod_eq_of_lt (show a + 1 < l.length by omega)] at e'
      by_cases h3 : b + 1 < l.length
      · rw [Nat.mod_eq_of_lt h3] at e'; omega
      · rw [show b + 1 = l.length by omega, Nat.mod_self] at e'; omega
    · intro x
      simp only [List.mem_map]
      constructor
      · rintro ⟨b, hb, rfl⟩
        obtain ⟨h1, h2⟩ := mem_begs.mp hb
        refine ⟨(b + l.length - 1) % l.length, mem_frees.mpr ⟨Nat.mod_lt _ (by omega), tkr_none.mpr ?_⟩, ?_⟩
        · rw [Nat.mod_add_mod, show b + l.length - 1 + 1 = b + l.length by omega, Nat.add_mod_right, Nat.mod_eq_of_lt h1]
          exact h2
        · rw [en, Nat.mod_add_mod, show b + l.length - 1 + 1 = b + l.length by omega, Nat.add_mod_right, Nat.mod_eq_of_lt h1]
      · rintro ⟨p, hp, rfl⟩
        obtain ⟨h1, h2⟩ := mem_frees.mp hp
        refine ⟨(p + 1) % l.length, mem_begs.mpr ⟨Nat.mod_lt _ (by omega), tkr_none.mp h2⟩, (en p).symm⟩
  · refine List.Pairwise.map _ (fun a b h => ?_) (begs_lt _)
    have : a < b := h
    omega
end DL
namespace DL
open PySem PySem.Spec L2
open PyProof.Rows hiding St
def ar (l : List Int) (m : Nat) : Nat := ((l[m % l.length]?).getD 0).toNat
end DL
namespace DL
open PySem PySem.Spec L2
open PyProof.Rows hiding St
end DL
namespace DL
open PySem PySem.Spec L2
open PyProof.Rows hiding St
def tx (p : PyData) : List Nat := p.shown.cps.toList
end DL
namespace DL
open PySem PySem.Spec L2
open PyProof.Rows hiding St
noncomputable def L1__law_ready (ρ : Ev) (S : Sto) : SR :=
  (sSeq (sExp (eMt isLst mAppend (eVar 2) (aCons (eCall bMinT (aCons (eVar 3) (aCons (eCall F__law_draw (aCons (eVar 0) (aCons (eOp dAdd (eVar 4) (eC (.int 1))) aNil))) aNil))) aNil)))
    (sSet 3 (eOp dSub (eOp dAdd (eVar 3) (eC (.int 1))) (eOp dIx (eVar 2) (eNeg (eC (.int 1))))))) ρ S
noncomputable def B__law_ready : Ev → Sto → SR :=
  (sSeq (sPar3 2 3 4 (aCons (eLoc aNil) (aCons (eC (.int 0)) (aCons (eOp dAdd (eC (.int 1)) (eCall F__law_draw (aCons (eVar 0) (aCons (eC (.int 5)) aNil)))) aNil))))
    (sSeq (sFor (iRange1 (aCons (eOp dAdd (eC (.int 1)) (eCall F__law_draw (aCons (eVar 0) (aCons (eVar 1) aNil)))) aNil)) (tN 5) L1__law_ready sNil)
    (sRet (eCall bTuple (aCons (eVar 2) aNil)))))
noncomputable def F__law_ready : Fn := fnC close 6 2 B__law_ready
noncomputable def B__law_begun : Ev → Sto → SR :=
  (sSeq (sSet 2 (eCall F__law_ready (aCons (eVar 0) (aCons (eVar 1) aNil))))
    (sRet (eCall F__law_from (aCons (eVar 2) (aCons (eCall F__law_draw (aCons (eVar 0) (aCons (eCall bLen (aCons (eVar 2) aNil)) aNil))) aNil)))))
noncomputable def F__law_begun : Fn := fnC close 3 2 B__law_begun
noncomputable def B_check_beginning : Ev → Sto → SR :=
  (sSeq (sExp (eCall F_check_place (aCons (eVar 0) (aCons (eVar 1) aNil))))
    (sIf (eT (eOp dGt (eCall F_need (aCons (eVar 0) (aCons (eVar 1) aNil))) (eC (.int 0)))) (sRaise1 "NoBeginning" "value" (aCons (eVar 1) aNil)) sNil))
noncomputable def F_check_beginning : Fn := fnC close 2 2 B_check_beginning
noncomputable def B_term_of : Ev → Sto → SR :=
  (sRet (eIf (eT (eOp (dEqY true) (eVar 1) (eFl aNil))) (eJs [(eFmt (eVar 0)), (eC (.str "(")), (eFmt (eMt isStr mJoin (eC (.str ", ")) (aCons (eVar 1) aNil))), (eC (.str ")"))] Str.empty) (eVar 0)))
noncomputable def F_term_of : Fn := fnC close 2 2 B_term_of
noncomputable def L1_terms_from (ρ : Ev) (S : Sto) : SR :=
  (sSeq (sSet 6 (eOp dSub (eCall bLen (aCons (eVar 3) aNil)) (eVar 4)))
    (sSet 3 (eFl (aStar (eSl mkFl (eVar 3) oNone (oSome (eVar 6))) (aCons (eCall F_term_of (aCons (eVar 5) (aCons (eSl mkFl (eVar 3) (oSome (eVar 6)) oNone) aNil))) aNil))))) ρ S
noncomputable def B_terms_from : Ev → Sto → SR :=
  (sSeq (sExp (eCall F_check_beginning (aCons (eVar 0) (aCons (eVar 2) aNil))))
    (sSeq (sSet 3 (eFl aNil))
    (sSeq (sFor (iZipD (aCons (eCall F_turned (aCons (eVar 0) (aCons (eVar 2) aNil))) (aCons (eTup (aStar (eSl mkFl (eVar 1) (oSome (eVar 2)) oNone) (aStar (eSl mkFl (eVar 1) oNone (oSome (eVar 2))) aNil))) aNil))) (tTup 2 (tCons (tN 4) (tCons (tN 5) tNil))) L1_terms_from sNil)
    (sRet (eCall bTuple (aCons (eVar 3) aNil))))))
noncomputable def F_terms_from : Fn := fnC close 7 3 B_terms_from
def cm : Str := ", "
def po : Str := "("
def pc : Str := ")"
def totS (ws : List Str) : Nat := (ws.map fun w => w.length + 2).sum
theorem tot_app (a b : List Str) : totS (a ++ b) = totS a + totS b := by simp [totS]
theorem tot_take (a : List Str) (k : Nat) : totS (a.take k) + totS (a.drop k) = totS a := by rw [← tot_app, List.take_append_drop]
theorem tot_cons (w : Str) (ws : List Str) : totS (w :: ws) = w.length + 2 + totS ws := by simp [totS]
theorem tot_len : ∀ ws : List Str, 2 * ws.length ≤ totS ws
  | [] => by simp [totS]
  | w :: ws => by rw [tot_cons, List.length_cons]; have := tot_len ws; omega
theorem tot_sum (ws : List Str) : (ws.map (·.length)).sum + 2 * ws.length = totS ws := by
  induction ws with
  | nil => rfl
  | cons w ws ih => rw [List.map_cons, List.sum_cons, List.length_cons, tot_cons]; omega
theorem slen_app (a b : Str) : (a ++ b).length = a.length + b.length := Str.length_append a b
theorem tot_join : ∀ (ws : List Str), (Str.join cm ws).length ≤ totS ws
  | [] => by simp [totS, Str.join, Str.empty]; rfl
  | [x] => by show x.length ≤ _; rw [tot_cons]; omega
  | x :: y :: r => by
    have ih := tot_join (y :: r)
    show (x ++ cm ++ Str.join cm (y :: r)).length ≤ _
    rw [slen_app, slen_app, tot_cons]
    have : cm.length = 2 := by decide
    omega
theorem strs_of : ∀ ys : List Str, strsOf (ys.map D.str) = some ys
  | [] => rfl
  | y :: ys => by
    show (strsOf (ys.map D.str)).map (y :: ·) = _
    rw [strs_of ys]; rfl
theorem join_any {ws : List Str} (h : totS ws ≤ 10 ^ 6) (S : Sto) : mJoin (.str ", ") [.fl (ws.map D.str)] S = .ok (.str (Str.join cm ws)) S := by
  have e : mJoin (.str ", ") [.fl (ws.map D.str)] S = (match strsOf (ws.map D.str) with
    | some ys => ifp ((ys.map (·.length)).sum + ys.length * cm.length ≤ 16777216) (.ok (.str (Txt.join cm ys)) S) .stuck
    | none => .stuck) := rfl
  rw [e, strs_of]
  dsimp only
  have h1 : cm.length = 2 := by decide
  have h2 := tot_sum ws
  rw [ifp_pos (by rw [h1]; omega)]
  rw [show Txt.join cm ws = Str.join cm ws from StrLaws.glued_eq_join cm ws]
def term (nm : Str) (ps : List Str) : Str := if ps.isEmpty = true then nm else nm ++ (po ++ Str.join cm ps ++ pc)
theorem term_len (nm : Str) (ps : List Str) : (term nm ps).length ≤ nm.length + totS ps + 2 := by
  unfold term
  split
  · omega
  · rw [slen_app, slen_app, slen_app]
    have := tot_join ps
    have h1 : po.length = 1 := by decide
    have h2 : pc.length = 1 := by decide
    omega
theorem sz : 10 ^ 6 ≤ sizeLine := by decide
theorem term_of_ok {nm : Str} {ps : List Str} (hn : nm.length ≤ 1000) (hp : totS ps ≤ 10000) (S : Sto) : F_term_of [.str nm, .fl (ps.map D.str)] S = .ok (.str (term nm ps)) S := by
  refine fnC_rt rfl ?_ rfl
  unfold B_term_of
  have hst : startD 2 [D.str nm, .fl (ps.map D.str)] = [some (.str nm), some (.fl (ps.map D.str))] := rfl
  rw [hst]
  have dy : ∀ S, dEqY true (.fl (ps.map D.str)) (.fl []) S = .ok (.bl (!ps.isEmpty)) S := fun S => by
    show R.ok (D.bl (!(ps.map D.str).isEmpty)) S = _
    cases ps <;> rfl
  have jn := join_any (ws := ps) (by omega)
  have zz := sz
  have tj := tot_join ps
  have h1 : po.length = 1 := by decide
  have h2 : pc.length = 1 := by decide
  cases he : ps.isEmpty with
  | true =>
    rw [he] at dy
    have et : term nm ps = nm := by unfold term; rw [if_pos he]
    rw [et]
    generalize ps.map D.str = PS at *
    simp only [eVar, eC, eOp, eT, eAnd, eOr, eNot, eIf, eAndV, eOrV, eNotV, eCall, aNil, aCons, aStar, sOf, eTup, eFl, eLoc, eSl, oNone, oSome, iOf, eNeg, eChain, eMt, bOf, eDict0, eRev, eListRg, iZipD, sRaise1, sRaise0, eCallV, List.lookup, R.bind_ok, R.bind_er, R.bind_stuck, R.toS_ok, R.toS_er, R.toS_stuck, SR.next_nx, SR.next_rt, SR.next_er, SR.next_bk, SR.next_ct, SR.next_stuck, sNil, sSeq, sBrk, sCnt, sExp, sRet, sRetN, sIf, sSet, sAsg, sAug, sPar2, sPar3, tN, DL.tTup, DL.tNil, DL.tCons, DL.tSub, iSeq, srcOf_tup, srcOf_fl, srcOf_kl, srcOf_ti, iRange1, iRange2, sFor, startD, List.map_cons, List.map_nil, List.length_cons, List.length_nil, List.replicate, List.cons_append, List.nil_append, List.getElem?_cons_zero, List.getElem?_cons_succ, List.set_cons_zero, List.set_cons_succ, dSub_int, dFdiv_int, dMod_int, dLt_int, dLe_int, dGt_int, dGe_int, dAddI_int, dSubI_int, dIsN_non, isN, dAdd_int, ll0, ll1, ll2, ll3, ll4, ll5, ll6, ll7, ll8, ll9, ll10, ll11, ll12, ll13, ll14, ll15, ll16, ll17, ll18, ll19, ll20, ll21, ll22, ll23, ll24, ll25, ll26, ll27, ll28, ll29, ll30, ll31, ll32, ll33, ll34, ll35, ll36, ll37, ll38, ll39, ll40, Nat.reduceSub, Nat.reduceAdd, Nat.reduceEqDiff, if_true, if_false, ifp_t, ifp_f, reduceIte, Bool.true_eq_false, Bool.false_eq_true, Option.map_some, Option.map_none, Option.bind_some, Option.bind_none, tSq, sSet2, seqOf_fl, seqOf_tup, seqOf_ti, dy, Bool.not_true]
  | false =>
    rw [he] at dy
    have et : term nm ps = (((Str.empty ++ nm) ++ po) ++ Str.join cm ps) ++ pc := by
      unfold term
      rw [if_neg (by rw [he]; decide), Str.empty_append]
      simp only [Str.append_assoc]
    rw [et]
    have l0 : (Str.empty ++ nm).length = nm.length := by rw [Str.empty_append]
    have f1 : (nm.length ≤ sizeLine) = True := by simp; omega
    have f2 : ((Str.empty ++ nm).length ≤ sizeLine) = True := by simp only [eq_iff_iff, iff_true]; omega
    have f3 : ((Str.empty ++ nm ++ po).length ≤ sizeLine) = True := by simp only [eq_iff_iff, iff_true]; rw [slen_app]; omega
    have f4 : ((Str.join cm ps).length ≤ sizeLine) = True := by simp only [eq_iff_iff, iff_true]; omega
    have f5 : ((Str.empty ++ nm ++ po ++ Str.join cm ps).length ≤ sizeLine) = True := by simp only [eq_iff_iff, iff_true]; rw [slen_app, slen_app]; omega
    have f6 : ((Str.empty ++ nm ++ po ++ Str.join cm ps ++ pc).length ≤ sizeLine) = True := by simp only [eq_iff_iff, iff_true]; rw [slen_app, slen_app, slen_app]; omega
    have il : ∀ S, isStr S (.str ", ") = true := fun S => rfl
    have p1 : (("(" : String) : Str) = po := rfl
    have p2 : ((")" : String) : Str) = pc := rfl
    generalize hPS : ps.map D.str = PS at *
    generalize Str.join cm ps = JN at *
    simp only [eVar, eC, eOp, eT, eAnd, eOr, eNot, eIf, eAndV, eOrV, eNotV, eCall, aNil, aCons, aStar, sOf, eTup, eFl, eLoc, eSl, oNone, oSome, iOf, eNeg, eChain, eMt, bOf, eDict0, eRev, eListRg, iZipD, sRaise1, sRaise0, eCallV, List.lookup, R.bind_ok, R.bind_er, R.bind_stuck, R.toS_ok, R.toS_er, R.toS_stuck, SR.next_nx, SR.next_rt, SR.next_er, SR.next_bk, SR.next_ct, SR.next_stuck, sNil, sSeq, sBrk, sCnt, sExp, sRet, sRetN, sIf, sSet, sAsg, sAug, sPar2, sPar3, tN, DL.tTup, DL.tNil, DL.tCons, DL.tSub, iSeq, srcOf_tup, srcOf_fl, srcOf_kl, srcOf_ti, iRange1, iRange2, sFor, startD, List.map_cons, List.map_nil, List.length_cons, List.length_nil, List.replicate, List.cons_append, List.nil_append, List.getElem?_cons_zero, List.getElem?_cons_succ, List.set_cons_zero, List.set_cons_succ, dSub_int, dFdiv_int, dMod_int, dLt_int, dLe_int, dGt_int, dGe_int, dAddI_int, dSubI_int, dIsN_non, isN, dAdd_int, ll0, ll1, ll2, ll3, ll4, ll5, ll6, ll7, ll8, ll9, ll10, ll11, ll12, ll13, ll14, ll15, ll16, ll17, ll18, ll19, ll20, ll21, ll22, ll23, ll24, ll25, ll26, ll27, ll28, ll29, ll30, ll31, ll32, ll33, ll34, ll35, ll36, ll37, ll38, ll39, ll40, Nat.reduceSub, Nat.reduceAdd, Nat.reduceEqDiff, if_true, if_false, ifp_t, ifp_f, reduceIte, Bool.true_eq_false, Bool.false_eq_true, Option.map_some, Option.map_none, Option.bind_some, Option.bind_none, tSq, sSet2, seqOf_fl, seqOf_tup, seqOf_ti, dy, Bool.not_false, eJs, eFmt, il, jn, f1, p1, p2, f2, f3, f4, f5, f6]
def tstk (f : List Str) (q : Int × Str) : List Str := f.take (f.length - q.1.toNat) ++ [term q.2 (f.drop (f.length - q.1.toNat))]
def tms (z : List (Int × Str)) : List Str := z.foldl tstk []
theorem tms_snoc (z : List (Int × Str)) (q : Int × Str) : tms (z ++ [q]) = tstk (tms z) q := by unfold tms; rw [List.foldl_append]; rfl
theorem tms_len (z : List (Int × Str)) : (tms z).length = (trs (z.map (·.1))).length := by
  have key : ∀ (z : List (Int × Str)) (f : List Str) (g : List D), f.length = g.length → (z.foldl tstk f).length = ((z.map (·.1)).foldl stk g).length := by
    intro z
    induction z with
    | nil => exact fun f g h => h
    | cons q z ih =>
      intro f g h
      rw [List.foldl_cons, List.map_cons, List.foldl_cons]
      refine ih _ _ ?_
      unfold tstk stk
      rw [List.length_append, List.length_append, List.length_take, List.length_take, h]
      rfl
  exact key z [] [] rfl
def cap (z : List (Int × Str)) : Nat := (z.map fun q => q.2.length + 4).sum
theorem tms_tot (z : List (Int × Str)) : totS (tms z) ≤ cap z := by
  have key : ∀ (z : List (Int × Str)) (f : List Str), totS (z.foldl tstk f) ≤ totS f + cap z := by
    intro z
    induction z with
    | nil => intro f; simp [cap]
    | cons q z ih =>
      intro f
      rw [List.foldl_cons]
      have h := ih (tstk f q)
      have h2 : totS (tstk f q) ≤ totS f + (q.2.length + 4) := by
        unfold tstk
        rw [tot_app, tot_cons]
        have h3 := tot_take f (f.length - q.1.toNat)
        have h4 := term_len q.2 (f.drop (f.length - q.1.toNat))
        have h5 : totS [] = 0 := rfl
        omega
      have h6 : cap (q :: z) = q.2.length + 4 + cap z := by simp [cap]
      omega
  have := key z []
  have h5 : totS [] = 0 := rfl
  unfold tms
  omega
structure Zs (z : List (Int × Str)) : Prop where
  nn : ∀ q ∈ z, 0 ≤ q.1
  ne : DL.ne (z.map (·.1)) = 0
  len : z.length ≤ 30
  nm : ∀ q ∈ z, q.2.length ≤ 100
theorem cap_le : ∀ {z : List (Int × Str)}, (∀ q ∈ z, q.2.length ≤ 100) → cap z ≤ 104 * z.length
  | [], _ => by simp [cap]
  | q :: z, h => by
    have h1 := cap_le fun x hx => h x (List.mem_cons_of_mem _ hx)
    have h2 := h q List.mem_cons_self
    have h6 : cap (q :: z) = q.2.length + 4 + cap z := by simp [cap]
    rw [List.length_cons]
    omega
theorem Zs.hts {z : List (Int × Str)} (h : Zs z) (n : Nat) (hn : n ≤ z.length) : ((tms (z.take n)).length : Int) = ht ((z.map (·.1)).take n) ∧ ∀ q, z[n]? = some q → q.1 ≤ ((tms (z.take n)).length : Int) := by
  obtain ⟨h1, h2⟩ := trs_len n (z.map (·.1)) (fun t ht => by obtain ⟨q, hq, rfl⟩ := List.mem_map.mp ht; exact h.nn q hq) h.ne (by simpa using hn)
  have e : (tms (z.take n)).length = (trs ((z.map (·.1)).take n)).length := by rw [tms_len, List.map_take]
  rw [e]
  exact ⟨h1, fun q hq => by rw [h1]; exact h2 q.1 (by rw [List.getElem?_map, hq]; rfl)⟩
theorem Zs.small {z : List (Int × Str)} (h : Zs z) (n : Nat) : totS (tms (z.take n)) ≤ 3120 := by
  have h1 := tms_tot (z.take n)
  have h2 := cap_le (z := z.take n) fun q hq => h.nm q (List.mem_of_mem_take hq)
  have h3 := h.len
  rw [List.length_take] at h2
  have : 104 * min n z.length ≤ 104 * 30 := Nat.mul_le_mul_left _ (by omega)
  omega
def sD (f : List Str) : List D := f.map D.str
def dq (q : Int × Str) : D := .tup [.int q.1, .str q.2]
theorem terms_loop (x0 x1 x2 : Option D) (S : Sto) {z : List (Int × Str)} (h : Zs z) : ∀ (r pre : List (Int × Str)) (x4 x5 x6 : Option D), z = pre ++ r →
    ∃ y4 y5 y6, forD yes (tTup 2 (tCons (tN 4) (tCons (tN 5) tNil))) L1_terms_from sNil (r.map dq) [x0, x1, x2, some (.fl (sD (tms pre))), x4, x5, x6] S = .nx [x0, x1, x2, some (.fl (sD (tms z))), y4, y5, y6] S
  | [], pre, x4, x5, x6, e => ⟨x4, x5, x6, by rw [List.map_nil, forD_nil trivial]; rw [List.append_nil] at e; rw [e]; rfl⟩
  | (a, nm) :: r, pre, x4, x5, x6, e => by
    have hp : z.take pre.length = pre := by rw [e, List.take_left]
    obtain ⟨i1, i2⟩ := h.hts pre.length (by rw [e]; simp)
    have sm := h.small pre.length
    rw [hp] at i1 i2 sm
    have ha : z[pre.length]? = some (a, nm) := by rw [e]; simp
    have h1 : a ≤ ((tms pre).length : Int) := i2 (a, nm) ha
    have a0 : 0 ≤ a := h.nn _ (List.mem_of_getElem? ha)
    have hnm : nm.length ≤ 100 := h.nm _ (List.mem_of_getElem? ha)
    have tl := tot_len (tms pre)
    obtain ⟨k, hk⟩ : ∃ k : Nat, ((tms pre).length : Int) - a = (k : Int) := ⟨(((tms pre).length : Int) - a).toNat, by omega⟩
    have hks : (tms pre).length - a.toNat = k := by omega
    have es : tms (pre ++ [(a, nm)]) = (tms pre).take k ++ [term nm ((tms pre).drop k)] := by
      rw [tms_snoc]; unfold tstk; rw [hks]
    have tk := tot_take (tms pre) k
    have tm := term_of_ok (nm := nm) (ps := (tms pre).drop k) (by omega) (by omega)
    obtain ⟨y4, y5, y6, ih⟩ := terms_loop x0 x1 x2 S h r (pre ++ [(a, nm)]) (some (.int a)) (some (.str nm)) (some (.int k)) (by rw [e]; simp)
    refine ⟨y4, y5, y6, ?_⟩
    have ln : ∀ S, bLen [.fl (sD (tms pre))] S = .ok (.int (tms pre).length) S := fun S => by
      show R.ok (D.int ((sD (tms pre)).length : Nat)) S = _
      unfold sD; rw [List.length_map]
    have s1 : ∀ S, dSl mkFl (.fl (sD (tms pre))) none (some (k : Int)) S = .ok (.fl (sD ((tms pre).take k))) S := fun S => by
      rw [cut_fl_to]; unfold sD mkFl; rw [List.map_take]
    have s2 : ∀ S, dSl mkFl (.fl (sD (tms pre))) (some (k : Int)) none S = .ok (.fl (((tms pre).drop k).map D.str)) S := fun S => by
      rw [cut_fl_from]; unfold sD mkFl; rw [List.map_drop]
    have hlen : (sD ((tms pre).take k) ++ [D.str (term nm ((tms pre).drop k))]).length ≤ sizeLine := by
      unfold sD
      rw [List.length_append, List.length_map, List.length_take, List.length_singleton]
      exact Nat.le_trans (show min k (tms pre).length + 1 ≤ 10 ^ 6 by omega) (by decide)
    have hT : tTup 2 (tCons (tN 4) (tCons (tN 5) tNil)) (dq (a, nm)) [x0, x1, x2, some (.fl (sD (tms pre))), x4, x5, x6] S = some ([x0, x1, x2, some (.fl (sD (tms pre))), some (.int a), some (.str nm), x6], S) := rfl
    have e2 : sD (tms (pre ++ [(a, nm)])) = sD ((tms pre).take k) ++ [D.str (term nm ((tms pre).drop k))] := by rw [es]; simp [sD]
    have st : L1_terms_from [x0, x1, x2, some (.fl (sD (tms pre))), some (.int a), some (.str nm), x6] S = .nx [x0, x1, x2, some (.fl (sD (tms (pre ++ [(a, nm)])))), some (.int a), some (.str nm), some (.int k)] S := by
      rw [e2]
      generalize sD (tms pre) = F0 at *
      generalize sD ((tms pre).take k) = F1 at *
      generalize ((tms pre).drop k).map D.str = F2 at *
      simp only [eVar, eC, eOp, eT, eAnd, eOr, eNot, eIf, eAndV, eOrV, eNotV, eCall, aNil, aCons, aStar, sOf, eTup, eFl, eLoc, eSl, oNone, oSome, iOf, eNeg, eChain, eMt, bOf, eDict0, eRev, eListRg, iZipD, sRaise1, sRaise0, eCallV, List.lookup, R.bind_ok, R.bind_er, R.bind_stuck, R.toS_ok, R.toS_er, R.toS_stuck, SR.next_nx, SR.next_rt, SR.next_er, SR.next_bk, SR.next_ct, SR.next_stuck, sNil, sSeq, sBrk, sCnt, sExp, sRet, sRetN, sIf, sSet, sAsg, sAug, sPar2, sPar3, tN, DL.tTup, DL.tNil, DL.tCons, DL.tSub, iSeq, srcOf_tup, srcOf_fl, srcOf_kl, srcOf_ti, iRange1, iRange2, sFor, startD, List.map_cons, List.map_nil, List.length_cons, List.length_nil, List.replicate, List.cons_append, List.nil_append, List.getElem?_cons_zero, List.getElem?_cons_succ, List.set_cons_zero, List.set_cons_succ, dSub_int, dFdiv_int, dMod_int, dLt_int, dLe_int, dGt_int, dGe_int, dAddI_int, dSubI_int, dIsN_non, isN, dAdd_int, ll0, ll1, ll2, ll3, ll4, ll5, ll6, ll7, ll8, ll9, ll10, ll11, ll12, ll13, ll14, ll15, ll16, ll17, ll18, ll19, ll20, ll21, ll22, ll23, ll24, ll25, ll26, ll27, ll28, ll29, ll30, ll31, ll32, ll33, ll34, ll35, ll36, ll37, ll38, ll39, ll40, Nat.reduceSub, Nat.reduceAdd, Nat.reduceEqDiff, if_true, if_false, ifp_t, ifp_f, reduceIte, Bool.true_eq_false, Bool.false_eq_true, Option.map_some, Option.map_none, Option.bind_some, Option.bind_none, tSq, sSet2, seqOf_fl, seqOf_tup, seqOf_ti, L1_terms_from, ln, hk, s1, s2, tm, ifp_pos hlen]
    rw [List.map_cons, forD_cons (g := yes) (T := tTup 2 (tCons (tN 4) (tCons (tN 5) tNil))) (B := L1_terms_from) (Z := sNil) (d := dq (a, nm)) (ds := r.map dq) trivial hT st, ih]
def rwD (z : List (Int × Str)) : D := ti (z.map (·.1))
theorem check_beg (l : List Int) (hl : l.length < 10 ^ 6) {v : D} (h : pl v = true) (S : Sto) : F_check_beginning [ti l, v] S = (match plc l.length v with
    | some p => if ne (rot l p) = 0 then .ok .non S else .er ⟨.own "NoBeginning", [("value", .int p)]⟩ S
    | none => .er (noPlace v) S) := by
  have hc := check_any l h S
  have hn := need_any l h hl S
  cases e : plc l.length v with
  | none =>
    simp only [e] at hc
    refine fnC_er rfl (ρ := [some (ti l), some v]) ?_ rfl
    unfold B_check_beginning
    simp only [eVar, eC, eOp, eT, eAnd, eOr, eNot, eIf, eAndV, eOrV, eNotV, eCall, aNil, aCons, aStar, sOf, eTup, eFl, eLoc, eSl, oNone, oSome, iOf, eNeg, eChain, eMt, bOf, eDict0, eRev, eListRg, iZipD, sRaise1, sRaise0, eCallV, List.lookup, R.bind_ok, R.bind_er, R.bind_stuck, R.toS_ok, R.toS_er, R.toS_stuck, SR.next_nx, SR.next_rt, SR.next_er, SR.next_bk, SR.next_ct, SR.next_stuck, sNil, sSeq, sBrk, sCnt, sExp, sRet, sRetN, sIf, sSet, sAsg, sAug, sPar2, sPar3, tN, DL.tTup, DL.tNil, DL.tCons, DL.tSub, iSeq, srcOf_tup, srcOf_fl, srcOf_kl, srcOf_ti, iRange1, iRange2, sFor, startD, List.map_cons, List.map_nil, List.length_cons, List.length_nil, List.replicate, List.cons_append, List.nil_append, List.getElem?_cons_zero, List.getElem?_cons_succ, List.set_cons_zero, List.set_cons_succ, dSub_int, dFdiv_int, dMod_int, dLt_int, dLe_int, dGt_int, dGe_int, dAddI_int, dSubI_int, dIsN_non, isN, dAdd_int, ll0, ll1, ll2, ll3, ll4, ll5, ll6, ll7, ll8, ll9, ll10, ll11, ll12, ll13, ll14, ll15, ll16, ll17, ll18, ll19, ll20, ll21, ll22, ll23, ll24, ll25, ll26, ll27, ll28, ll29, ll30, ll31, ll32, ll33, ll34, ll35, ll36, ll37, ll38, ll39, ll40, Nat.reduceSub, Nat.reduceAdd, Nat.reduceEqDiff, if_true, if_false, ifp_t, ifp_f, reduceIte, Bool.true_eq_false, Bool.false_eq_true, Option.map_some, Option.map_none, Option.bind_some, Option.bind_none, tSq, sSet2, seqOf_fl, seqOf_tup, seqOf_ti, hc]
  | some p =>
    obtain ⟨rfl, hp⟩ := plc_some e
    simp only [e] at hc hn
    have nn := ne_nn (rot l p)
    dsimp only
    by_cases h0 : ne (rot l p) = 0
    · rw [if_pos h0]
      rw [h0] at hn
      have hz : ¬ ((0 : Int) < 0) := by omega
      refine fnC_nx rfl (ρ := [some (ti l), some (.int p)]) ?_ rfl
      unfold B_check_beginning
      simp only [eVar, eC, eOp, eT, eAnd, eOr, eNot, eIf, eAndV, eOrV, eNotV, eCall, aNil, aCons, aStar, sOf, eTup, eFl, eLoc, eSl, oNone, oSome, iOf, eNeg, eChain, eMt, bOf, eDict0, eRev, eListRg, iZipD, sRaise1, sRaise0, eCallV, List.lookup, R.bind_ok, R.bind_er, R.bind_stuck, R.toS_ok, R.toS_er, R.toS_stuck, SR.next_nx, SR.next_rt, SR.next_er, SR.next_bk, SR.next_ct, SR.next_stuck, sNil, sSeq, sBrk, sCnt, sExp, sRet, sRetN, sIf, sSet, sAsg, sAug, sPar2, sPar3, tN, DL.tTup, DL.tNil, DL.tCons, DL.tSub, iSeq, srcOf_tup, srcOf_fl, srcOf_kl, srcOf_ti, iRange1, iRange2, sFor, startD, List.map_cons, List.map_nil, List.length_cons, List.length_nil, List.replicate, List.cons_append, List.nil_append, List.getElem?_cons_zero, List.getElem?_cons_succ, List.set_cons_zero, List.set_cons_succ, dSub_int, dFdiv_int, dMod_int, dLt_int, dLe_int, dGt_int, dGe_int, dAddI_int, dSubI_int, dIsN_non, isN, dAdd_int, ll0, ll1, ll2, ll3, ll4, ll5, ll6, ll7, ll8, ll9, ll10, ll11, ll12, ll13, ll14, ll15, ll16, ll17, ll18, ll19, ll20, ll21, ll22, ll23, ll24, ll25, ll26, ll27, ll28, ll29, ll30, ll31, ll32, ll33, ll34, ll35, ll36, ll37, ll38, ll39, ll40, Nat.reduceSub, Nat.reduceAdd, Nat.reduceEqDiff, if_true, if_false, ifp_t, ifp_f, reduceIte, Bool.true_eq_false, Bool.false_eq_true, Option.map_some, Option.map_none, Option.bind_some, Option.bind_none, tSq, sSet2, seqOf_fl, seqOf_tup, seqOf_ti, hc, hn, hz, decide_false]
    · rw [if_neg h0]
      have hz : (0 : Int) < ne (rot l p) := by omega
      refine fnC_er rfl (ρ := [some (ti l), some (.int p)]) ?_ rfl
      unfold B_check_beginning
      simp only [eVar, eC, eOp, eT, eAnd, eOr, eNot, eIf, eAndV, eOrV, eNotV, eCall, aNil, aCons, aStar, sOf, eTup, eFl, eLoc, eSl, oNone, oSome, iOf, eNeg, eChain, eMt, bOf, eDict0, eRev, eListRg, iZipD, sRaise1, sRaise0, eCallV, List.lookup, R.bind_ok, R.bind_er, R.bind_stuck, R.toS_ok, R.toS_er, R.toS_stuck, SR.next_nx, SR.next_rt, SR.next_er, SR.next_bk, SR.next_ct, SR.next_stuck, sNil, sSeq, sBrk, sCnt, sExp, sRet, sRetN, sIf, sSet, sAsg, sAug, sPar2, sPar3, tN, DL.tTup, DL.tNil, DL.tCons, DL.tSub, iSeq, srcOf_tup, srcOf_fl, srcOf_kl, srcOf_ti, iRange1, iRange2, sFor, startD, List.map_cons, List.map_nil, List.length_cons, List.length_nil, List.replicate, List.cons_append, List.nil_append, List.getElem?_cons_zero, List.getElem?_cons_succ, List.set_cons_zero, List.set_cons_succ, dSub_int, dFdiv_int, dMod_int, dLt_int, dLe_int, dGt_int, dGe_int, dAddI_int, dSubI_int, dIsN_non, isN, dAdd_int, ll0, ll1, ll2, ll3, ll4, ll5, ll6, ll7, ll8, ll9, ll10, ll11, ll12, ll13, ll14, ll15, ll16, ll17, ll18, ll19, ll20, ll21, ll22, ll23, ll24, ll25, ll26, ll27, ll28, ll29, ll30, ll31, ll32, ll33, ll34, ll35, ll36, ll37, ll38, ll39, ll40, Nat.reduceSub, Nat.reduceAdd, Nat.reduceEqDiff, if_true, if_false, ifp_t, ifp_f, reduceIte, Bool.true_eq_false, Bool.false_eq_true, Option.map_some, Option.map_none, Option.bind_some, Option.bind_none, tSq, sSet2, seqOf_fl, seqOf_tup, seqOf_ti, hc, hn, hz, decide_true]
structure Rn (l : List Int) (ns : List Str) : Prop where
  ar : ∀ t ∈ l, Arity t
  pos : 0 < l.length
  len : l.length ≤ 24
  eq : ns.length = l.length
  nm : ∀ x ∈ ns, x.length ≤ 100
def zp (l : List Int) (ns : List Str) (p : Nat) : List (Int × Str) := (rot l p).zip (rot ns p)
section
variable {l : List Int} {ns : List Str}
theorem Rn.l2 (h : Rn l ns) {p : Nat} (hp : p < l.length) : (rot l p).length = l.length ∧ (rot ns p).length = l.length := ⟨DL.rot_length l p (by omega), by rw [DL.rot_length ns p (by rw [h.eq]; omega), h.eq]⟩
theorem Rn.rw (h : Rn l ns) {p : Nat} (hp : p < l.length) : rwD (zp l ns p) = ti (rot l p) := by
  obtain ⟨h1, h2⟩ := h.l2 hp
  unfold rwD zp
  rw [show ((rot l p).zip (rot ns p)).map (·.1) = rot l p from List.map_fst_zip (by omega)]
theorem Rn.zs (h : Rn l ns) {p : Nat} (hp : p < l.length) (h0 : ne (rot l p) = 0) : Zs (zp l ns p) := by
  obtain ⟨h1, h2⟩ := h.l2 hp
  have hlen := h.len
  refine ⟨fun q hq => ?_, ?_, ?_, fun q hq => ?_⟩
  · exact (h.ar _ (rot_mem (List.of_mem_zip hq).1)).1
  · unfold zp
    rw [show ((rot l p).zip (rot ns p)).map (·.1) = rot l p from List.map_fst_zip (by omega)]
    exact h0
  · unfold zp
    rw [List.length_zip]; omega
  · exact h.nm _ (rot_mem (List.of_mem_zip hq).2)
theorem rot_sD (ns : List Str) (p : Nat) : sD (rot ns p) = (sD ns).drop p ++ (sD ns).take p := by
  unfold rot sD
  rw [List.map_append, List.map_drop, List.map_take]
theorem sl_fromD (ds : List D) (p : Nat) (mk : List D → Sto → R D) (S : Sto) : dSl mk (.tup ds) (some (p : Int)) none S = .ok (.tup (ds.drop p)) S := by
  show R.ok (D.tup (cut ds (some (p : Int)) none)) S = _
  rw [cut_from]
theorem sl_toD (ds : List D) (p : Nat) (mk : List D → Sto → R D) (S : Sto) : dSl mk (.tup ds) none (some (p : Int)) S = .ok (.tup (ds.take p)) S := by
  show R.ok (D.tup (cut ds none (some (p : Int)))) S = _
  rw [cut_to]
theorem from_any (h : Rn l ns) {v : D} (hv : pl v = true) (S : Sto) : F_terms_from [ti l, .tup (sD ns), v] S = (match plc l.length v with
    | some p => if ne (rot l p) = 0 then .ok (.tup (sD (tms (zp l ns p)))) S else .er ⟨.own "NoBeginning", [("value", .int p)]⟩ S
    | none => .er (noPlace v) S) := by
  have hlen := h.len
  have hc := check_beg l (by omega) hv S
  cases e : plc l.length v with
  | none =>
    simp only [e] at hc
    refine fnC_er rfl (ρ := [some (ti l), some (.tup (sD ns)), some v, none, none, none, none]) ?_ rfl
    unfold B_terms_from
    simp only [eVar, eC, eOp, eT, eAnd, eOr, eNot, eIf, eAndV, eOrV, eNotV, eCall, aNil, aCons, aStar, sOf, eTup, eFl, eLoc, eSl, oNone, oSome, iOf, eNeg, eChain, eMt, bOf, eDict0, eRev, eListRg, iZipD, sRaise1, sRaise0, eCallV, List.lookup, R.bind_ok, R.bind_er, R.bind_stuck, R.toS_ok, R.toS_er, R.toS_stuck, SR.next_nx, SR.next_rt, SR.next_er, SR.next_bk, SR.next_ct, SR.next_stuck, sNil, sSeq, sBrk, sCnt, sExp, sRet, sRetN, sIf, sSet, sAsg, sAug, sPar2, sPar3, tN, DL.tTup, DL.tNil, DL.tCons, DL.tSub, iSeq, srcOf_tup, srcOf_fl, srcOf_kl, srcOf_ti, iRange1, iRange2, sFor, startD, List.map_cons, List.map_nil, List.length_cons, List.length_nil, List.replicate, List.cons_append, List.nil_append, List.getElem?_cons_zero, List.getElem?_cons_succ, List.set_cons_zero, List.set_cons_succ, dSub_int, dFdiv_int, dMod_int, dLt_int, dLe_int, dGt_int, dGe_int, dAddI_int, dSubI_int, dIsN_non, isN, dAdd_int, ll0, ll1, ll2, ll3, ll4, ll5, ll6, ll7, ll8, ll9, ll10, ll11, ll12, ll13, ll14, ll15, ll16, ll17, ll18, ll19, ll20, ll21, ll22, ll23, ll24, ll25, ll26, ll27, ll28, ll29, ll30, ll31, ll32, ll33, ll34, ll35, ll36, ll37, ll38, ll39, ll40, Nat.reduceSub, Nat.reduceAdd, Nat.reduceEqDiff, if_true, if_false, ifp_t, ifp_f, reduceIte, Bool.true_eq_false, Bool.false_eq_true, Option.map_some, Option.map_none, Option.bind_some, Option.bind_none, tSq, sSet2, seqOf_fl, seqOf_tup, seqOf_ti, hc]
  | some p =>
    obtain ⟨rfl, hp⟩ := plc_some e
    simp only [e] at hc
    dsimp only
    by_cases h0 : ne (rot l p) = 0
    · rw [if_pos h0] at hc ⊢
      have t1 := turned_ok l p hp (by omega)
      obtain ⟨h1, h2⟩ := h.l2 hp
      have zs := h.zs hp h0
      obtain ⟨y4, y5, y6, lp⟩ := terms_loop (some (ti l)) (some (.tup (sD ns))) (some (.int (p : Int))) S zs (zp l ns p) [] none none none rfl
      have lp' : forD yes (tTup 2 (tCons (tN 4) (tCons (tN 5) tNil))) L1_terms_from sNil ((zp l ns p).map dq) [some (ti l), some (.tup (sD ns)), some (.int (p : Int)), some (.fl []), none, none, none] S = .nx [some (ti l), some (.tup (sD ns)), some (.int (p : Int)), some (.fl (sD (tms (zp l ns p)))), y4, y5, y6] S := lp
      have s1 := sl_fromD (sD ns) p mkFl
      have s2 := sl_toD (sD ns) p mkFl
      have hsz : ((sD ns).drop p ++ (sD ns).take p).length ≤ sizeLine := by
        rw [← rot_sD]
        unfold sD
        rw [List.length_map, h2]
        exact Nat.le_trans (show l.length ≤ 100 by omega) (by decide)
      have zd : zipD ((rot l p).map D.int) ((sD ns).drop p ++ (sD ns).take p) = (zp l ns p).map dq := by
        rw [← rot_sD]
        unfold zipD sD zp
        rw [List.zip_map, List.map_map]
        rfl
      have sz : ∀ S, srcZip (ti (rot l p)) (.tup ((sD ns).drop p ++ (sD ns).take p)) S = .ok ((zp l ns p).map dq, yes) S := fun S => by
        show R.ok (zipD ((rot l p).map D.int) ((sD ns).drop p ++ (sD ns).take p), yes) S = _
        rw [zd]
      refine fnC_rt rfl ?_ rfl
      unfold B_terms_from
      have hst : startD 7 [ti l, .tup (sD ns), .int (p : Int)] = [some (ti l), some (.tup (sD ns)), some (.int (p : Int)), none, none, none, none] := rfl
      rw [hst]
      generalize sD ns = NS at *
      generalize (zp l ns p).map dq = ZD at *
      generalize sD (tms (zp l ns p)) = TD at *
      simp only [eVar, eC, eOp, eT, eAnd, eOr, eNot, eIf, eAndV, eOrV, eNotV, eCall, aNil, aCons, aStar, sOf, eTup, eFl, eLoc, eSl, oNone, oSome, iOf, eNeg, eChain, eMt, bOf, eDict0, eRev, eListRg, iZipD, sRaise1, sRaise0, eCallV, List.lookup, R.bind_ok, R.bind_er, R.bind_stuck, R.toS_ok, R.toS_er, R.toS_stuck, SR.next_nx, SR.next_rt, SR.next_er, SR.next_bk, SR.next_ct, SR.next_stuck, sNil, sSeq, sBrk, sCnt, sExp, sRet, sRetN, sIf, sSet, sAsg, sAug, sPar2, sPar3, tN, DL.tTup, DL.tNil, DL.tCons, DL.tSub, iSeq, srcOf_tup, srcOf_fl, srcOf_kl, srcOf_ti, iRange1, iRange2, sFor, startD, List.map_cons, List.map_nil, List.length_cons, List.length_nil, List.replicate, List.cons_append, List.nil_append, List.getElem?_cons_zero, List.getElem?_cons_succ, List.set_cons_zero, List.set_cons_succ, dSub_int, dFdiv_int, dMod_int, dLt_int, dLe_int, dGt_int, dGe_int, dAddI_int, dSubI_int, dIsN_non, isN, dAdd_int, ll0, ll1, ll2, ll3, ll4, ll5, ll6, ll7, ll8, ll9, ll10, ll11, ll12, ll13, ll14, ll15, ll16, ll17, ll18, ll19, ll20, ll21, ll22, ll23, ll24, ll25, ll26, ll27, ll28, ll29, ll30, ll31, ll32, ll33, ll34, ll35, ll36, ll37, ll38, ll39, ll40, Nat.reduceSub, Nat.reduceAdd, Nat.reduceEqDiff, if_true, if_false, ifp_t, ifp_f, reduceIte, Bool.true_eq_false, Bool.false_eq_true, Option.map_some, Option.map_none, Option.bind_some, Option.bind_none, tSq, sSet2, seqOf_fl, seqOf_tup, seqOf_ti, hc, t1, s1, s2, ifp_pos hsz, sz, lp', bTuple_fl, List.append_nil]
    · rw [if_neg h0] at hc ⊢
      refine fnC_er rfl (ρ := [some (ti l), some (.tup (sD ns)), some (.int p), none, none, none, none]) ?_ rfl
      unfold B_terms_from
      simp only [eVar, eC, eOp, eT, eAnd, eOr, eNot, eIf, eAndV, eOrV, eNotV, eCall, aNil, aCons, aStar, sOf, eTup, eFl, eLoc, eSl, oNone, oSome, iOf, eNeg, eChain, eMt, bOf, eDict0, eRev, eListRg, iZipD, sRaise1, sRaise0, eCallV, List.lookup, R.bind_ok, R.bind_er, R.bind_stuck, R.toS_ok, R.toS_er, R.toS_stuck, SR.next_nx, SR.next_rt, SR.next_er, SR.next_bk, SR.next_ct, SR.next_stuck, sNil, sSeq, sBrk, sCnt, sExp, sRet, sRetN, sIf, sSet, sAsg, sAug, sPar2, sPar3, tN, DL.tTup, DL.tNil, DL.tCons, DL.tSub, iSeq, srcOf_tup, srcOf_fl, srcOf_kl, srcOf_ti, iRange1, iRange2, sFor, startD, List.map_cons, List.map_nil, List.length_cons, List.length_nil, List.replicate, List.cons_append, List.nil_append, List.getElem?_cons_zero, List.getElem?_cons_succ, List.set_cons_zero, List.set_cons_succ, dSub_int, dFdiv_int, dMod_int, dLt_int, dLe_int, dGt_int, dGe_int, dAddI_int, dSubI_int, dIsN_non, isN, dAdd_int, ll0, ll1, ll2, ll3, ll4, ll5, ll6, ll7, ll8, ll9, ll10, ll11, ll12, ll13, ll14, ll15, ll16, ll17, ll18, ll19, ll20, ll21, ll22, ll23, ll24, ll25, ll26, ll27, ll28, ll29, ll30, ll31, ll32, ll33, ll34, ll35, ll36, ll37, ll38, ll39, ll40, Nat.reduceSub, Nat.reduceAdd, Nat.reduceEqDiff, if_true, if_false, ifp_t, ifp_f, reduceIte, Bool.true_eq_false, Bool.false_eq_true, Option.map_some, Option.map_none, Option.bind_some, Option.bind_none, tSq, sSet2, seqOf_fl, seqOf_tup, seqOf_ti, hc]
end
theorem ready_step {S : Sto} {n : Nat} {rest : Sto} {r : List Int} {size greed : Int} (h : Strm S n (rest ++ [.lst (r.map D.int)])) (hl : r.length ≤ 100) (hs : 0 ≤ size) (g1 : 1 ≤ greed) (g5 : greed ≤ 5) (hn : n + 1 < 2 ^ 60) (x1 x5 : Option D) :
    ∃ (t : Int) (S' : Sto), Arity t ∧ t ≤ size ∧ L1__law_ready [some (.loc 1), x1, some (.loc (rest.length + 2)), some (.int size), some (.int greed), x5] S = .nx [some (.loc 1), x1, some (.loc (rest.length + 2)), some (.int (size + 1 - t)), some (.int greed), x5] S' ∧ Strm S' (n + 1) (rest ++ [.lst ((r ++ [t]).map D.int)]) := by
  obtain ⟨z, S1, z1, z2, z3, s1⟩ := draw_ok h (m := greed + 1) (by omega) (log2_small 60 (by omega) (by decide) (by decide)) (by omega)
  have il := isLst_at h.getL_end
  have mn : ∀ S, bMinT [.int size, .int z] S = .ok (.int (min size z)) S := fun S => rfl
  have ap := append_at (d := .int (min size z)) s1.getL_end (by simp; omega)
  have s2 := s1.set_end (.lst (r.map D.int ++ [.int (min size z)]))
  have es : r.map D.int ++ [.int (min size z)] = (r ++ [min size z]).map D.int := by simp
  have ix : dIx (.loc (rest.length + 2)) (.int (-1)) (S1.set (rest.length + 2) (.lst (r.map D.int ++ [.int (min size z)]))) = .ok (.int (min size z)) (S1.set (rest.length + 2) (.lst (r.map D.int ++ [.int (min size z)]))) := dIx_loc s2.getQ_end (at_last _ _)
  refine ⟨min size z, _, ⟨by omega, by omega⟩, by omega, ?_, by rw [← es]; exact s2⟩
  simp only [eVar, eC, eOp, eT, eAnd, eOr, eNot, eIf, eAndV, eOrV, eNotV, eCall, aNil, aCons, aStar, sOf, eTup, eFl, eLoc, eSl, oNone, oSome, iOf, eNeg, eChain, eMt, bOf, eDict0, eRev, eListRg, iZipD, sRaise1, sRaise0, eCallV, List.lookup, R.bind_ok, R.bind_er, R.bind_stuck, R.toS_ok, R.toS_er, R.toS_stuck, SR.next_nx, SR.next_rt, SR.next_er, SR.next_bk, SR.next_ct, SR.next_stuck, sNil, sSeq, sBrk, sCnt, sExp, sRet, sRetN, sIf, sSet, sAsg, sAug, sPar2, sPar3, tN, DL.tTup, DL.tNil, DL.tCons, DL.tSub, iSeq, srcOf_tup, srcOf_fl, srcOf_kl, srcOf_ti, iRange1, iRange2, sFor, startD, List.map_cons, List.map_nil, List.length_cons, List.length_nil, List.replicate, List.cons_append, List.nil_append, List.getElem?_cons_zero, List.getElem?_cons_succ, List.set_cons_zero, List.set_cons_succ, dSub_int, dFdiv_int, dMod_int, dLt_int, dLe_int, dGt_int, dGe_int, dAddI_int, dSubI_int, dIsN_non, isN, dAdd_int, ll0, ll1, ll2, ll3, ll4, ll5, ll6, ll7, ll8, ll9, ll10, ll11, ll12, ll13, ll14, ll15, ll16, ll17, ll18, ll19, ll20, ll21, ll22, ll23, ll24, ll25, ll26, ll27, ll28, ll29, ll30, ll31, ll32, ll33, ll34, ll35, ll36, ll37, ll38, ll39, ll40, Nat.reduceSub, Nat.reduceAdd, Nat.reduceEqDiff, if_true, if_false, ifp_t, ifp_f, reduceIte, Bool.true_eq_false, Bool.false_eq_true, Option.map_some, Option.map_none, Option.bind_some, Option.bind_none, tSq, sSet2, seqOf_fl, seqOf_tup, seqOf_ti, L1__law_ready, il, z1, mn, ap, ix]
theorem sl_str {w : Str} (h : w.length ≤ 10 ^ 6) (lo hi : Option Int) (S : Sto) : dSl mkFl (.str w) lo hi S = .ok (.str (cutS w lo hi)) S := ifp_pos (Nat.le_trans h (by decide))
/-- letters alone -/
def ltS (w : Str) : Prop := ∀ c ∈ w.cps.toList, 97 ≤ c ∧ c ≤ 122
theorem ltS.ok {w : Str} (h : ltS w) : okS w := fun c hc => Nat.lt_of_le_of_lt (h c hc).2 (by decide)
structure Gt (n : Nat) (w : Str) : Prop where
  lt : ltS w
  len : w.length ≤ n
theorem Gt.ok {n : Nat} {w : Str} (h : Gt n w) : okS w := h.lt.ok
def abc : Str := "abcdefghijklmnopqrstuvwxyz"
def em : Str := ""
theorem law_num {m N cost : Nat} {L : Ev → Sto → SR} (I : Option D → Ev → Prop) (hm : 2 ≤ m) (hN : (N : Int) < 2 ^ 62) (h0 : ∀ sc, I sc (sc :: some (.loc 1) :: List.replicate (m - 2) none)) (hc : N * cost < 2 ^ 60)
    (step : ∀ sc (i : Nat) ρ S n, i < N → I sc ρ → Strm S n [] → n + cost < 2 ^ 60 → ∃ ρ2 S2, L (ρ.set 2 (some (.int (i : Int)))) S = .nx ρ2 S2 ∧ I sc ρ2 ∧ Strm S2 (n + cost) []) :
    LawOk (fnC close m 1 (sSeq (sSet 1 (eCall F__law_stream (aCons (eVar 0) aNil))) (sSeq (sFor (iRange1 (aCons (eC (.int N)) aNil)) (tN 2) L sNil) (sRet (eC (.bl true)))))) := law_by fun ns hl _ => by
  obtain ⟨S0, h1, s0⟩ := stream_ok hl
  obtain ⟨ρ', S', _, _, hf⟩ := forD_strm (T := tN 2) (B := L) (Z := sNil) (rest := []) (I (some (.kl (ns.map D.int)))) cost (rangeD 0 N) (some (.kl (ns.map D.int)) :: some (.loc 1) :: List.replicate (m - 2) none) S0 0 (h0 _) s0 (by rw [rangeD_len]; omega) (by
    intro d hd ρ S n hI hS hn
    obtain ⟨k, hk⟩ := List.mem_iff_getElem?.mp hd
    obtain ⟨hk', rfl⟩ := rangeD_get hk
    rw [Int.zero_add]
    obtain ⟨ρ2, S2, e, i2, s2⟩ := step _ k ρ S n hk' hI hS hn
    exact ⟨_, ρ2, S2, rfl, .inl e, i2, s2⟩)
  refine ⟨S', ?_⟩
  have hst : startD m [D.kl (ns.map D.int)] = some (.kl (ns.map D.int)) :: none :: List.replicate (m - 2) none := by
    obtain ⟨k, rfl⟩ : ∃ k, m = k + 2 := ⟨m - 2, by omega⟩
    simp [startD, List.replicate_succ]
  rw [hst]
  have hr : ((-(2 ^ 62) : Int) ≤ (N : Int) ∧ (N : Int) < 2 ^ 62) = True := by simp; omega
  simp only [eVar, eC, eOp, eT, eAnd, eOr, eNot, eIf, eAndV, eOrV, eNotV, eCall, aNil, aCons, aStar, sOf, eTup, eFl, eLoc, eSl, oNone, oSome, iOf, eNeg, eChain, eMt, bOf, eDict0, eRev, eListRg, iZipD, sRaise1, sRaise0, eCallV, List.lookup, R.bind_ok, R.bind_er, R.bind_stuck, R.toS_ok, R.toS_er, R.toS_stuck, SR.next_nx, SR.next_rt, SR.next_er, SR.next_bk, SR.next_ct, SR.next_stuck, sNil, sSeq, sBrk, sCnt, sExp, sRet, sRetN, sIf, sSet, sAsg, sAug, sPar2, sPar3, tN, DL.tTup, DL.tNil, DL.tCons, DL.tSub, iSeq, srcOf_tup, srcOf_fl, srcOf_kl, srcOf_ti, iRange1, iRange2, sFor, startD, List.map_cons, List.map_nil, List.length_cons, List.length_nil, List.replicate, List.cons_append, List.nil_append, List.getElem?_cons_zero, List.getElem?_cons_succ, List.set_cons_zero, List.set_cons_succ, dSub_int, dFdiv_int, dMod_int, dLt_int, dLe_int, dGt_int, dGe_int, dAddI_int, dSubI_int, dIsN_non, isN, dAdd_int, ll0, ll1, ll2, ll3, ll4, ll5, ll6, ll7, ll8, ll9, ll10, ll11, ll12, ll13, ll14, ll15, ll16, ll17, ll18, ll19, ll20, ll21, ll22, ll23, ll24, ll25, ll26, ll27, ll28, ll29, ll30, ll31, ll32, ll33, ll34, ll35, ll36, ll37, ll38, ll39, ll40, Nat.reduceSub, Nat.reduceAdd, Nat.reduceEqDiff, if_true, if_false, ifp_t, ifp_f, reduceIte, Bool.true_eq_false, Bool.false_eq_true, Option.map_some, Option.map_none, Option.bind_some, Option.bind_none, tSq, sSet2, seqOf_fl, seqOf_tup, seqOf_ti, h1, hr, Int.toNat_natCast, hf]
end DL
namespace DL
open PySem PySem.Spec L2
open PyProof.Rows hiding St
inductive Tre where
  | nd (cs : List Tre)
mutual
def Tre.d : Tre → D
  | .nd cs => .tup (Tre.ds cs)
def Tre.ds : List Tre → List D
  | [] => []
  | t :: ts => t.d :: Tre.ds ts
end
mutual
def Tre.sz : Tre → Nat
  | .nd cs => 1 + Tre.szs cs
def Tre.szs : List Tre → Nat
  | [] => 0
  | t :: ts => t.sz + Tre.szs ts
end
mutual
def Tre.row : Tre → List Int
  | .nd cs => Tre.rows cs ++ [(cs.length : Int)]
def Tre.rows : List Tre → List Int
  | [] => []
  | t :: ts => t.row ++ Tre.rows ts
end
mutual
def Tre.ok : Tre → Prop
  | .nd cs => cs.length ≤ 5 ∧ Tre.oks cs
def Tre.oks : List Tre → Prop
  | [] => True
  | t :: ts => t.ok ∧ Tre.oks ts
end
mutual
theorem Tre.bulk : ∀ t : Tre, bulkD t.d + 1 = t.sz
  | .nd cs => by rw [Tre.d, Tre.sz, bulkD, Tre.bulks cs]; omega
theorem Tre.bulks : ∀ ts : List Tre, bulkL (Tre.ds ts) = Tre.szs ts
  | [] => by rw [Tre.ds, Tre.szs, bulkL]
  | t :: ts => by rw [Tre.ds, Tre.szs, bulkL, Tre.bulk t, Tre.bulks ts]
end
mutual
theorem Tre.dep : ∀ t : Tre, depD t.d ≤ t.sz
  | .nd cs => by
    rw [Tre.d, Tre.sz, depD]
    have := Tre.deps cs
    omega
theorem Tre.deps : ∀ ts : List Tre, depL (Tre.ds ts) ≤ Tre.szs ts
  | [] => by rw [Tre.ds, depL]; omega
  | t :: ts => by
    rw [Tre.ds, Tre.szs, depL]
    have := Tre.dep t
    have := Tre.deps ts
    omega
end
mutual
theorem Tre.low : ∀ (n : Nat) (t : Tre), DL.low n t.d = true
  | n, .nd cs => by rw [Tre.d, DL.low, Tre.lows n cs]
theorem Tre.lows : ∀ (n : Nat) (ts : List Tre), lowL n (Tre.ds ts) = true
  | n, [] => by rw [Tre.ds]; rfl
  | n, t :: ts => by rw [Tre.ds, lowL, Tre.low n t, Tre.lows n ts]; rfl
end
def bt (B : List (List Nat)) : Nat → Nat → Tre
  | 0, _ => .nd []
  | f + 1, i => .nd ((B.getD i []).map (bt B f))
def wt (B : List (List Nat)) (m i : Nat) : Nat := (bt B (m - i) i).sz
end DL
namespace DL
open PySem PySem.Spec L2
open PyProof.Rows hiding St
def L (l : List Nat) : Str := ⟨l.toArray⟩
def lt (c : Nat) : Bool := decide (97 ≤ c) && decide (c ≤ 122)
structure RS where
  r : List Nat
  row : List Int
  nm : List (List Nat)
  op : List (List Nat × Int)
def clo : List Nat → List Int → List (List Nat) → List (List Nat × Int) → RS
  | [], row, nm, op => ⟨[], row, nm, op⟩
  | c :: r, row, nm, op => if c = 41 then (match op.getLast? with
    | some q => clo r (row ++ [q.2]) (nm ++ [q.1]) op.dropLast
    | none => ⟨c :: r, row, nm, op⟩) else ⟨c :: r, row, nm, op⟩
def nxt (s : RS) : Bool × RS := match s.op.getLast? with
  | none => (false, s)
  | some q => if s.r.take 2 = [44, 32] then (true, ⟨s.r.drop 2, s.row, s.nm, s.op.dropLast ++ [(q.1, q.2 + 1)]⟩) else (false, s)
def aftT (s : RS) : Bool × RS := if (clo s.r s.row s.nm s.op).r = [] then (true, clo s.r s.row s.nm s.op) else nxt (clo s.r s.row s.nm s.op)
def rnm (s : RS) : Bool × RS :=
  if 1 ≤ (s.r.takeWhile lt).length ∧ (s.r.takeWhile lt).length ≤ 8 then
    (if (s.r.dropWhile lt).take 1 = [40] then (true, ⟨(s.r.dropWhile lt).drop 1, s.row, s.nm, s.op ++ [(s.r.takeWhile lt, 1)]⟩)
    else aftT ⟨s.r.dropWhile lt, s.row ++ [0], s.nm ++ [s.r.takeWhile lt], s.op⟩)
  else (false, ⟨s.r.dropWhile lt, s.row, s.nm, s.op⟩)
def fin1 (s : RS) : Bool := s.op.isEmpty && (decide (s.row.length ≤ 24) && decide (maxL s.row ≤ 5))
/-- the whole reading, by fuel -/
def trun : Nat → RS → Bool × RS
  | 0, s => (false, s)
  | f + 1, s => match rnm s with
    | (false, s') => (false, s')
    | (true, s') => if s'.r = [] then (fin1 s', s') else trun f s'
def Sm (M : Nat) (s : RS) : Prop := s.row.length + s.r.length ≤ M ∧ s.nm.length + s.r.length ≤ M ∧ s.op.length + s.r.length ≤ M
end DL
namespace DL
open PySem PySem.Spec L2
open PyProof.Rows hiding St
noncomputable def E1__law_same (rec : Fn) (ρ : Ev) (S : Sto) : R D :=
  (eCall rec (aCons (eVar 2) (aCons (eVar 3) aNil))) ρ S
noncomputable def B__law_same (rec : Fn) : Ev → Sto → SR :=
  (sSeq (sIf (eT (eCall bIsi (aCons (eVar 1) (aCons (eC (.ty "tuple")) aNil)))) (sSeq (sIf (eOr (eNot (eT (eCall bIsi (aCons (eVar 0) (aCons (eC (.ty "tuple")) aNil))))) (eT (eOp (dEq true) (eCall bLen (aCons (eVar 0) aNil)) (eCall bLen (aCons (eVar 1) aNil))))) (sRet (eC (.bl false))) sNil)
    (sRet (eCall bAll (aCons (eLc finFl (iZipD (aCons (eVar 0) (aCons (eVar 1) aNil))) (tTup 2 (tCons (tN 2) (tCons (tN 3) tNil))) [2, 3] cYes (E1__law_same rec)) aNil)))) sNil)
    (sSeq (sIf (eOr (eT (eOp (dIsN false) (eVar 1) (eC .non))) (eT (eOp (dIsN false) (eVar 0) (eC .non)))) (sRet (eAndV (eOp (dIsN false) (eVar 1) (eC .non)) (eOp (dIsN false) (eVar 0) (eC .non)))) sNil)
    (sSeq (sIf (eOr (eT (eCall bIsi (aCons (eVar 1) (aCons (eC (.ty "bool")) aNil)))) (eT (eCall bIsi (aCons (eVar 0) (aCons (eC (.ty "bool")) aNil))))) (sRet (eAndV (eCall bIsi (aCons (eVar 1) (aCons (eC (.ty "bool")) aNil))) (eAndV (eCall bIsi (aCons (eVar 0) (aCons (eC (.ty "bool")) aNil))) (eOp (dEq false) (eVar 0) (eVar 1))))) sNil)
    (sSeq (sIf (eT (eCall bIsi (aCons (eVar 1) (aCons (eC (.ty "int")) aNil)))) (sRet (eAndV (eCall bIsi (aCons (eVar 0) (aCons (eC (.ty "int")) aNil))) (eOp (dEq false) (eVar 0) (eVar 1)))) sNil)
    (sSeq (sIf (eOr (eT (eCall bIsi (aCons (eVar 1) (aCons (eC (.ty "str")) aNil)))) (eT (eCall bIsi (aCons (eVar 0) (aCons (eC (.ty "str")) aNil))))) (sRet (eAndV (eCall bIsi (aCons (eVar 1) (aCons (eC (.ty "str")) aNil))) (eAndV (eCall bIsi (aCons (eVar 0) (aCons (eC (.ty "str")) aNil))) (eOp (dEq false) (eVar 0) (eVar 1))))) sNil)
    (sRet (eOp (dEq false) (eCall bRepr (aCons (eVar 0) aNil)) (eCall bRepr (aCons (eVar 1) aNil)))))))))
noncomputable def F__law_same : Nat → Fn
  | 0 => fun _ _ => .stuck
  | n + 1 => fnC close 4 2 (B__law_same (F__law_same n))
theorem kw1 : kitB "NoneType" "str" = some false := by decide +kernel
theorem kw2 : kitB "bool" "str" = some false := by decide +kernel
theorem kw3 : kitB "int" "str" = some false := by decide +kernel
theorem kw4 : kitB "str" "str" = some true := by decide +kernel
theorem kw5 : kitB "tuple" "str" = some false := by decide +kernel
theorem kw6 : kitB "list" "str" = some false := by decide +kernel
theorem kw7 : kitB "dict" "str" = some false := by decide +kernel
theorem ku1 : kitB "NoneType" "bool" = some false := by decide +kernel
theorem ku4 : kitB "str" "bool" = some false := by decide +kernel
theorem ku5 : kitB "tuple" "bool" = some false := by decide +kernel
theorem ku6 : kitB "list" "bool" = some false := by decide +kernel
theorem ku7 : kitB "dict" "bool" = some false := by decide +kernel
def isStr0 : D → Bool
  | .str _ => true
  | _ => false
theorem isi_strA {v : D} (h : pl v = true) (S : Sto) : bIsi [v, .ty "str"] S = .ok (.bl (isStr0 v)) S := by
  cases v <;> first | (simp [pl] at h; done) | (simp only [bIsi, tyOf, kw1, kw2, kw3, kw4, kw5, kw6, kw7, isStr0])
theorem isi_boolA {v : D} (h : pl v = true) (S : Sto) : bIsi [v, .ty "bool"] S = .ok (.bl (isBl v)) S := by
  cases v <;> first | (simp [pl] at h; done) | (simp only [bIsi, tyOf, ku1, ku2, ku3, ku4, ku5, ku6, ku7, isBl])
inductive Sam : D → Prop
  | non : Sam .non
  | bl (b : Bool) : Sam (.bl b)
  | int (i : Int) : Sam (.int i)
  | str (x : Str) : Sam (.str x)
  | tup {ds : List D} (hl : ds.length ≤ 1000) (h : ∀ d ∈ ds, Sam d) : Sam (.tup ds)
theorem depL_mem : ∀ {ds : List D} {d : D}, d ∈ ds → depD d ≤ depL ds
  | e :: ds, d, h => by
    rw [depL]
    rcases List.mem_cons.mp h with rfl | h
    · omega
    · have := depL_mem h; omega
theorem bools_true : ∀ (ds : List D), boolsOf (ds.map fun _ => D.bl true) = some (ds.map fun _ => true)
  | [] => rfl
  | d :: ds => by
    have := bools_true ds
    show (boolsOf (ds.map fun _ => D.bl true)).map (true :: ·) = _
    rw [this]; rfl
theorem same_refl {d : D} (h : Sam d) : ∀ f, depD d < f → ∀ S, F__law_same f [d, d] S = .ok (.bl true) S := by
  induction h with
  | non =>
    intro f hf S
    obtain ⟨f, rfl⟩ : ∃ g, f = g + 1 := ⟨f - 1, by omega⟩
    show fnC close 4 2 (B__law_same (F__law_same f)) [.non, .non] S = _
    refine fnC_rt rfl ?_ rfl
    have hst : startD 4 [D.non, .non] = [some .non, some .non, none, none] := rfl
    have it := fun S => isi_tup (v := .non) rfl S
    rw [hst]
    unfold B__law_same
    generalize E1__law_same (F__law_same f) = EE
    simp only [eVar, eC, eOp, eT, eAnd, eOr, eNot, eIf, eAndV, eOrV, eNotV, eCall, aNil, aCons, aStar, sOf, eTup, eFl, eLoc, eSl, oNone, oSome, iOf, eNeg, eChain, eMt, bOf, eDict0, eRev, eListRg, iZipD, sRaise1, sRaise0, eCallV, List.lookup, R.bind_ok, R.bind_er, R.bind_stuck, R.toS_ok, R.toS_er, R.toS_stuck, SR.next_nx, SR.next_rt, SR.next_er, SR.next_bk, SR.next_ct, SR.next_stuck, sNil, sSeq, sBrk, sCnt, sExp, sRet, sRetN, sIf, sSet, sAsg, sAug, sPar2, sPar3, tN, DL.tTup, DL.tNil, DL.tCons, DL.tSub, iSeq, srcOf_tup, srcOf_fl, srcOf_kl, srcOf_ti, iRange1, iRange2, sFor, startD, List.map_cons, List.map_nil, List.length_cons, List.length_nil, List.replicate, List.cons_append, List.nil_append, List.getElem?_cons_zero, List.getElem?_cons_succ, List.set_cons_zero, List.set_cons_succ, dSub_int, dFdiv_int, dMod_int, dLt_int, dLe_int, dGt_int, dGe_int, dAddI_int, dSubI_int, dIsN_non, isN, dAdd_int, ll0, ll1, ll2, ll3, ll4, ll5, ll6, ll7, ll8, ll9, ll10, ll11, ll12, ll13, ll14, ll15, ll16, ll17, ll18, ll19, ll20, ll21, ll22, ll23, ll24, ll25, ll26, ll27, ll28, ll29, ll30, ll31, ll32, ll33, ll34, ll35, ll36, ll37, ll38, ll39, ll40, Nat.reduceSub, Nat.reduceAdd, Nat.reduceEqDiff, if_true, if_false, ifp_t, ifp_f, reduceIte, Bool.true_eq_false, Bool.false_eq_true, Option.map_some, Option.map_none, Option.bind_some, Option.bind_none, tSq, sSet2, seqOf_fl, seqOf_tup, seqOf_ti, it, isTup]
  | bl b =>
    intro f hf S
    obtain ⟨f, rfl⟩ : ∃ g, f = g + 1 := ⟨f - 1, by omega⟩
    show fnC close 4 2 (B__law_same (F__law_same f)) [.bl b, .bl b] S = _
    refine fnC_rt rfl ?_ rfl
    have hst : startD 4 [D.bl b, .bl b] = [some (.bl b), some (.bl b), none, none] := rfl
    have it := fun S => isi_tup (v := .bl b) rfl S
    have ib := fun S => isi_boolA (v := .bl b) rfl S
    have q : ∀ S, dEq false (.bl b) (.bl b) S = .ok (.bl true) S := fun S => by cases b <;> rfl
    rw [hst]
    unfold B__law_same
    generalize E1__law_same (F__law_same f) = EE
    simp only [eVar, eC, eOp, eT, eAnd, eOr, eNot, eIf, eAndV, eOrV, eNotV, eCall, aNil, aCons, aStar, sOf, eTup, eFl, eLoc, eSl, oNone, oSome, iOf, eNeg, eChain, eMt, bOf, eDict0, eRev, eListRg, iZipD, sRaise1, sRaise0, eCallV, List.lookup, R.bind_ok, R.bind_er, R.bind_stuck, R.toS_ok, R.toS_er, R.toS_stuck, SR.next_nx, SR.next_rt, SR.next_er, SR.next_bk, SR.next_ct, SR.next_stuck, sNil, sSeq, sBrk, sCnt, sExp, sRet, sRetN, sIf, sSet, sAsg, sAug, sPar2, sPar3, tN, DL.tTup, DL.tNil, DL.tCons, DL.tSub, iSeq, srcOf_tup, srcOf_fl, srcOf_kl, srcOf_ti, iRange1, iRange2, sFor, startD, List.map_cons, List.map_nil, List.length_cons, List.length_nil, List.replicate, List.cons_append, List.nil_append, List.getElem?_cons_zero, List.getElem?_cons_succ, List.set_cons_zero, List.set_cons_succ, dSub_int, dFdiv_int, dMod_int, dLt_int, dLe_int, dGt_int, dGe_int, dAddI_int, dSubI_int, dIsN_non, isN, dAdd_int, ll0, ll1, ll2, ll3, ll4, ll5, ll6, ll7, ll8, ll9, ll10, ll11, ll12, ll13, ll14, ll15, ll16, ll17, ll18, ll19, ll20, ll21, ll22, ll23, ll24, ll25, ll26, ll27, ll28, ll29, ll30, ll31, ll32, ll33, ll34, ll35, ll36, ll37, ll38, ll39, ll40, Nat.reduceSub, Nat.reduceAdd, Nat.reduceEqDiff, if_true, if_false, ifp_t, ifp_f, reduceIte, Bool.true_eq_false, Bool.false_eq_true, Option.map_some, Option.map_none, Option.bind_some, Option.bind_none, tSq, sSet2, seqOf_fl, seqOf_tup, seqOf_ti, it, isTup, ib, isBl, q]
  | int i =>
    intro f hf S
    obtain ⟨f, rfl⟩ : ∃ g, f = g + 1 := ⟨f - 1, by omega⟩
    show fnC close 4 2 (B__law_same (F__law_same f)) [.int i, .int i] S = _
    refine fnC_rt rfl ?_ rfl
    have hst : startD 4 [D.int i, .int i] = [some (.int i), some (.int i), none, none] := rfl
    have it := fun S => isi_tup (v := .int i) rfl S
    have ib := fun S => isi_boolA (v := .int i) rfl S
    have ii := fun S => isi_int (v := .int i) rfl S
    have q : ∀ S, dEq false (.int i) (.int i) S = .ok (.bl true) S := fun S => by rw [dEq_int]; simp
    rw [hst]
    unfold B__law_same
    generalize E1__law_same (F__law_same f) = EE
    simp only [eVar, eC, eOp, eT, eAnd, eOr, eNot, eIf, eAndV, eOrV, eNotV, eCall, aNil, aCons, aStar, sOf, eTup, eFl, eLoc, eSl, oNone, oSome, iOf, eNeg, eChain, eMt, bOf, eDict0, eRev, eListRg, iZipD, sRaise1, sRaise0, eCallV, List.lookup, R.bind_ok, R.bind_er, R.bind_stuck, R.toS_ok, R.toS_er, R.toS_stuck, SR.next_nx, SR.next_rt, SR.next_er, SR.next_bk, SR.next_ct, SR.next_stuck, sNil, sSeq, sBrk, sCnt, sExp, sRet, sRetN, sIf, sSet, sAsg, sAug, sPar2, sPar3, tN, DL.tTup, DL.tNil, DL.tCons, DL.tSub, iSeq, srcOf_tup, srcOf_fl, srcOf_kl, srcOf_ti, iRange1, iRange2, sFor, startD, List.map_cons, List.map_nil, List.length_cons, List.length_nil, List.replicate, List.cons_append, List.nil_append, List.getElem?_cons_zero, List.getElem?_cons_succ, List.set_cons_zero, List.set_cons_succ, dSub_int, dFdiv_int, dMod_int, dLt_int, dLe_int, dGt_int, dGe_int, dAddI_int, dSubI_int, dIsN_non, isN, dAdd_int, ll0, ll1, ll2, ll3, ll4, ll5, ll6, ll7, ll8, ll9, ll10, ll11, ll12, ll13, ll14, ll15, ll16, ll17, ll18, ll19, ll20, ll21, ll22, ll23, ll24, ll25, ll26, ll27, ll28, ll29, ll30, ll31, ll32, ll33, ll34, ll35, ll36, ll37, ll38, ll39, ll40, Nat.reduceSub, Nat.reduceAdd, Nat.reduceEqDiff, if_true, if_false, ifp_t, ifp_f, reduceIte, Bool.true_eq_false, Bool.false_eq_true, Option.map_some, Option.map_none, Option.bind_some, Option.bind_none, tSq, sSet2, seqOf_fl, seqOf_tup, seqOf_ti, it, isTup, ib, isBl, ii, isInt0, q]
  | str x =>
    intro f hf S
    obtain ⟨f, rfl⟩ : ∃ g, f = g + 1 := ⟨f - 1, by omega⟩
    show fnC close 4 2 (B__law_same (F__law_same f)) [.str x, .str x] S = _
    refine fnC_rt rfl ?_ rfl
    have hst : startD 4 [D.str x, .str x] = [some (.str x), some (.str x), none, none] := rfl
    have it := fun S => isi_tup (v := .str x) rfl S
    have ib := fun S => isi_boolA (v := .str x) rfl S
    have ii := fun S => isi_int (v := .str x) rfl S
    have is := fun S => isi_strA (v := .str x) rfl S
    have q : ∀ S, dEq false (.str x) (.str x) S = .ok (.bl true) S := fun S => by rw [dEq_str]; simp
    rw [hst]
    unfold B__law_same
    generalize E1__law_same (F__law_same f) = EE
    simp only [eVar, eC, eOp, eT, eAnd, eOr, eNot, eIf, eAndV, eOrV, eNotV, eCall, aNil, aCons, aStar, sOf, eTup, eFl, eLoc, eSl, oNone, oSome, iOf, eNeg, eChain, eMt, bOf, eDict0, eRev, eListRg, iZipD, sRaise1, sRaise0, eCallV, List.lookup, R.bind_ok, R.bind_er, R.bind_stuck, R.toS_ok, R.toS_er, R.toS_stuck, SR.next_nx, SR.next_rt, SR.next_er, SR.next_bk, SR.next_ct, SR.next_stuck, sNil, sSeq, sBrk, sCnt, sExp, sRet, sRetN, sIf, sSet, sAsg, sAug, sPar2, sPar3, tN, DL.tTup, DL.tNil, DL.tCons, DL.tSub, iSeq, srcOf_tup, srcOf_fl, srcOf_kl, srcOf_ti, iRange1, iRange2, sFor, startD, List.map_cons, List.map_nil, List.length_cons, List.length_nil, List.replicate, List.cons_append, List.nil_append, List.getElem?_cons_zero, List.getElem?_cons_succ, List.set_cons_zero, List.set_cons_succ, dSub_int, dFdiv_int, dMod_int, dLt_int, dLe_int, dGt_int, dGe_int, dAddI_int, dSubI_int, dIsN_non, isN, dAdd_int, ll0, ll1, ll2, ll3, ll4, ll5, ll6, ll7, ll8, ll9, ll10, ll11, ll12, ll13, ll14, ll15, ll16, ll17, ll18, ll19, ll20, ll21, ll22, ll23, ll24, ll25, ll26, ll27, ll28, ll29, ll30, ll31, ll32, ll33, ll34, ll35, ll36, ll37, ll38, ll39, ll40, Nat.reduceSub, Nat.reduceAdd, Nat.reduceEqDiff, if_true, if_false, ifp_t, ifp_f, reduceIte, Bool.true_eq_false, Bool.false_eq_true, Option.map_some, Option.map_none, Option.bind_some, Option.bind_none, tSq, sSet2, seqOf_fl, seqOf_tup, seqOf_ti, it, isTup, ib, isBl, ii, isInt0, is, isStr0, q]
  | @tup ds hl hd ih =>
    intro f hf S
    rw [depD] at hf
    obtain ⟨f, rfl⟩ : ∃ g, f = g + 1 := ⟨f - 1, by omega⟩
    show fnC close 4 2 (B__law_same (F__law_same f)) [.tup ds, .tup ds] S = _
    refine fnC_rt rfl ?_ rfl
    have hst : startD 4 [D.tup ds, .tup ds] = [some (.tup ds), some (.tup ds), none, none] := rfl
    have it := fun S => isi_tup (v := .tup ds) rfl S
    have ln : ∀ S, bLen [.tup ds] S = .ok (.int (ds.length : Int)) S := fun S => rfl
    have q : ∀ S, dEq true (.int (ds.length : Int)) (.int (ds.length : Int)) S = .ok (.bl false) S := fun S => by rw [dEq_int]; simp
    have key := eLc_pure (src := iZipD (aCons (eVar 0) (aCons (eVar 1) aNil))) (T := tTup 2 (tCons (tN 2) (tCons (tN 3) tNil))) (vs := [2, 3]) (c := cYes) (f := E1__law_same (F__law_same f)) (ρ := [some (.tup ds), some (.tup ds), none, none]) (S := S) (zipD ds ds)
      (fun d => match d with | .tup [a, b] => [some (.tup ds), some (.tup ds), some a, some b] | _ => []) (fun _ => true) (fun _ => .bl true) (by
        have sz : ∀ S, srcZip (.tup ds) (.tup ds) S = .ok (zipD ds ds, yes) S := fun S => rfl
        simp only [eVar, eC, eOp, eT, eAnd, eOr, eNot, eIf, eAndV, eOrV, eNotV, eCall, aNil, aCons, aStar, sOf, eTup, eFl, eLoc, eSl, oNone, oSome, iOf, eNeg, eChain, eMt, bOf, eDict0, eRev, eListRg, iZipD, sRaise1, sRaise0, eCallV, List.lookup, R.bind_ok, R.bind_er, R.bind_stuck, R.toS_ok, R.toS_er, R.toS_stuck, SR.next_nx, SR.next_rt, SR.next_er, SR.next_bk, SR.next_ct, SR.next_stuck, sNil, sSeq, sBrk, sCnt, sExp, sRet, sRetN, sIf, sSet, sAsg, sAug, sPar2, sPar3, tN, DL.tTup, DL.tNil, DL.tCons, DL.tSub, iSeq, srcOf_tup, srcOf_fl, srcOf_kl, srcOf_ti, iRange1, iRange2, sFor, startD, List.map_cons, List.map_nil, List.length_cons, List.length_nil, List.replicate, List.cons_append, List.nil_append, List.getElem?_cons_zero, List.getElem?_cons_succ, List.set_cons_zero, List.set_cons_succ, dSub_int, dFdiv_int, dMod_int, dLt_int, dLe_int, dGt_int, dGe_int, dAddI_int, dSubI_int, dIsN_non, isN, dAdd_int, ll0, ll1, ll2, ll3, ll4, ll5, ll6, ll7, ll8, ll9, ll10, ll11, ll12, ll13, ll14, ll15, ll16, ll17, ll18, ll19, ll20, ll21, ll22, ll23, ll24, ll25, ll26, ll27, ll28, ll29, ll30, ll31, ll32, ll33, ll34, ll35, ll36, ll37, ll38, ll39, ll40, Nat.reduceSub, Nat.reduceAdd, Nat.reduceEqDiff, if_true, if_false, ifp_t, ifp_f, reduceIte, Bool.true_eq_false, Bool.false_eq_true, Option.map_some, Option.map_none, Option.bind_some, Option.bind_none, tSq, sSet2, seqOf_fl, seqOf_tup, seqOf_ti, sz]) (by
      intro d hd' S'
      obtain ⟨i, hi⟩ := List.mem_iff_getElem?.mp hd'
      obtain ⟨x, y, hx, hy, rfl⟩ := zipD_get hi
      rw [hx] at hy
      cases hy
      refine ⟨rfl, rfl, fun _ => ?_⟩
      have r := ih x (List.mem_of_getElem? hx) f (by have := depL_mem (List.mem_of_getElem? hx); omega) S'
      generalize F__law_same f = rec at *
      simp only [eVar, eC, eOp, eT, eAnd, eOr, eNot, eIf, eAndV, eOrV, eNotV, eCall, aNil, aCons, aStar, sOf, eTup, eFl, eLoc, eSl, oNone, oSome, iOf, eNeg, eChain, eMt, bOf, eDict0, eRev, eListRg, iZipD, sRaise1, sRaise0, eCallV, List.lookup, R.bind_ok, R.bind_er, R.bind_stuck, R.toS_ok, R.toS_er, R.toS_stuck, SR.next_nx, SR.next_rt, SR.next_er, SR.next_bk, SR.next_ct, SR.next_stuck, sNil, sSeq, sBrk, sCnt, sExp, sRet, sRetN, sIf, sSet, sAsg, sAug, sPar2, sPar3, tN, DL.tTup, DL.tNil, DL.tCons, DL.tSub, iSeq, srcOf_tup, srcOf_fl, srcOf_kl, srcOf_ti, iRange1, iRange2, sFor, startD, List.map_cons, List.map_nil, List.length_cons, List.length_nil, List.replicate, List.cons_append, List.nil_append, List.getElem?_cons_zero, List.getElem?_cons_succ, List.set_cons_zero, List.set_cons_succ, dSub_int, dFdiv_int, dMod_int, dLt_int, dLe_int, dGt_int, dGe_int, dAddI_int, dSubI_int, dIsN_non, isN, dAdd_int, ll0, ll1, ll2, ll3, ll4, ll5, ll6, ll7, ll8, ll9, ll10, ll11, ll12, ll13, ll14, ll15, ll16, ll17, ll18, ll19, ll20, ll21, ll22, ll23, ll24, ll25, ll26, ll27, ll28, ll29, ll30, ll31, ll32, ll33, ll34, ll35, ll36, ll37, ll38, ll39, ll40, Nat.reduceSub, Nat.reduceAdd, Nat.reduceEqDiff, if_true, if_false, ifp_t, ifp_f, reduceIte, Bool.true_eq_false, Bool.false_eq_true, Option.map_some, Option.map_none, Option.bind_some, Option.bind_none, tSq, sSet2, seqOf_fl, seqOf_tup, seqOf_ti, E1__law_same, r]) (by unfold zipD; rw [List.length_map, List.length_zip]; exact Nat.le_trans (show min ds.length ds.length ≤ 1000 by omega) (by decide)) (by intro d hd' _; rfl)
    have e : ((zipD ds ds).filter fun _ => true).map (fun _ => D.bl true) = (zipD ds ds).map fun _ => D.bl true := by
      rw [List.filter_eq_self.mpr (fun _ _ => rfl)]
    rw [e] at key
    have al : ∀ S, bAll [.fl ((zipD ds ds).map fun _ => D.bl true)] S = .ok (.bl true) S := fun S => by
      show (match boolsOf ((zipD ds ds).map fun _ => D.bl true) with
        | some is => R.ok (D.bl (is.all id)) S
        | none => .stuck) = _
      rw [bools_true]
      show R.ok (D.bl (((zipD ds ds).map fun _ => true).all id)) S = _
      congr 2
      rw [List.all_map]
      exact List.all_eq_true.mpr fun _ _ => rfl
    rw [hst]
    unfold B__law_same
    generalize E1__law_same (F__law_same f) = EE at *
    generalize eLc finFl (iZipD (aCons (eVar 0) (aCons (eVar 1) aNil))) (tTup 2 (tCons (tN 2) (tCons (tN 3) tNil))) [2, 3] cYes EE = LC at *
    simp only [eVar, eC, eOp, eT, eAnd, eOr, eNot, eIf, eAndV, eOrV, eNotV, eCall, aNil, aCons, aStar, sOf, eTup, eFl, eLoc, eSl, oNone, oSome, iOf, eNeg, eChain, eMt, bOf, eDict0, eRev, eListRg, iZipD, sRaise1, sRaise0, eCallV, List.lookup, R.bind_ok, R.bind_er, R.bind_stuck, R.toS_ok, R.toS_er, R.toS_stuck, SR.next_nx, SR.next_rt, SR.next_er, SR.next_bk, SR.next_ct, SR.next_stuck, sNil, sSeq, sBrk, sCnt, sExp, sRet, sRetN, sIf, sSet, sAsg, sAug, sPar2, sPar3, tN, DL.tTup, DL.tNil, DL.tCons, DL.tSub, iSeq, srcOf_tup, srcOf_fl, srcOf_kl, srcOf_ti, iRange1, iRange2, sFor, startD, List.map_cons, List.map_nil, List.length_cons, List.length_nil, List.replicate, List.cons_append, List.nil_append, List.getElem?_cons_zero, List.getElem?_cons_succ, List.set_cons_zero, List.set_cons_succ, dSub_int, dFdiv_int, dMod_int, dLt_int, dLe_int, dGt_int, dGe_int, dAddI_int, dSubI_int, dIsN_non, isN, dAdd_int, ll0, ll1, ll2, ll3, ll4, ll5, ll6, ll7, ll8, ll9, ll10, ll11, ll12, ll13, ll14, ll15, ll16, ll17, ll18, ll19, ll20, ll21, ll22, ll23, ll24, ll25, ll26, ll27, ll28, ll29, ll30, ll31, ll32, ll33, ll34, ll35, ll36, ll37, ll38, ll39, ll40, Nat.reduceSub, Nat.reduceAdd, Nat.reduceEqDiff, if_true, if_false, ifp_t, ifp_f, reduceIte, Bool.true_eq_false, Bool.false_eq_true, Option.map_some, Option.map_none, Option.bind_some, Option.bind_none, tSq, sSet2, seqOf_fl, seqOf_tup, seqOf_ti, it, isTup, Bool.not_true, ln, q, key, al]
def jnT : List (List Nat) → List Nat
  | [] => []
  | [x] => x
  | x :: y :: r => x ++ [44, 32] ++ jnT (y :: r)
mutual
/-- the text of a tree whose nodes have names (the names of the row's tokens, in its order) -/
def Tre.tx : Tre → List (List Nat) → List Nat
  | .nd cs, ns => (ns.drop (Tre.szs cs)).headD [] ++ (if cs.isEmpty then [] else 40 :: jnT (Tre.txs cs ns) ++ [41])
def Tre.txs : List Tre → List (List Nat) → List (List Nat)
  | [], _ => []
  | t :: ts, ns => t.tx ns :: Tre.txs ts (ns.drop t.sz)
end
end DL
namespace DL
open PySem PySem.Spec L2
open PyProof.Rows hiding St
end DL
namespace DL
open PySem PySem.Spec L2
open PyProof.Rows hiding St
end DL
namespace DL
open PySem PySem.Spec L2
open PyProof.Rows hiding St
abbrev Rd3 := List Int × List (List Nat) × List Nat
mutual
/-- a term at the beginning of a text: its row, its names, the rest -/
def rdP : Nat → List Nat → Option Rd3
  | 0, _ => none
  | f + 1, r => if 1 ≤ (r.takeWhile lt).length ∧ (r.takeWhile lt).length ≤ 8 then (match r.dropWhile lt with
    | c :: r2 => if c = 40 then (prt f r2 0).map (fun q => (q.1, q.2.1 ++ [r.takeWhile lt], q.2.2)) else some ([0], [r.takeWhile lt], c :: r2)
    | [] => some ([0], [r.takeWhile lt], [])) else none
/-- the parts behind a parenthesis, and how many there are -/
def prt : Nat → List Nat → Int → Option Rd3
  | 0, _, _ => none
  | f + 1, r, k => match rdP f r with
    | none => none
    | some (row, nm, r2) => if r2.take 2 = [44, 32] then (prt f (r2.drop 2) (k + 1)).map (fun q => (row ++ q.1, nm ++ q.2.1, q.2.2))
      else if r2.take 1 = [41] then some (row ++ [k + 1], nm, r2.drop 1) else none
end
def T (s : RS) : Bool × RS := trun (s.r.length + 1) s
/-- what the parser must tell -/
def due (l : List Nat) : Option (List Int × List (List Nat)) := match rdP (2 * l.length + 1) l with
  | some (row, nm, r) => if r = [] ∧ row.length ≤ 24 ∧ maxL row ≤ 5 then some (row, nm) else none
  | none => none
end DL
namespace DL
open PySem PySem.Spec L2
open PyProof.Rows hiding St
end DL
namespace DL
open PySem PySem.Spec L2
open PyProof.Rows hiding St
def rlF (now st dn ch bz : D) : List (Str × D) := [("now", now), ("states", st), ("done", dn), ("chosen", ch), ("is_busy", bz)]
def rlO (now st dn ch bz : D) : Ob := .ins "Reel" (rlF now st dn ch bz)
section
variable {S : Sto} {n : Nat} {now st dn ch bz : D}
theorem set_set (o p : Ob) : (S.set n o).set n p = S.set n p := List.set_set ..
end
end DL
namespace DL
open PySem PySem.Spec L2
open PyProof.Rows hiding St
end DL
namespace DL
open PySem PySem.Spec L2
open PyProof.Rows hiding St
structure Rg (l : List Int) : Prop where
  pos : 0 < l.length
  len : l.length ≤ 24
  ar : ∀ t ∈ l, Arity t
def putT (l : List Int) (p : Nat) (a : Int) : List Int := l.take p ++ [a] ++ l.drop (p + 1)
def insT (l : List Int) (p : Nat) (a : Int) : List Int := l.take p ++ [a] ++ l.drop p
def delT (l : List Int) (p : Nat) : List Int := l.take p ++ l.drop (p + 1)
theorem Rg.putT {l : List Int} (h : Rg l) {p : Nat} {a : Int} (hp : p < l.length) (ha : Arity a) : Rg (putT l p a) := by
  have hlen : (DL.putT l p a).length = l.length := by unfold DL.putT; simp; omega
  refine ⟨by rw [hlen]; exact h.pos, by rw [hlen]; exact h.len, fun t ht => ?_⟩
  unfold DL.putT at ht
  rcases List.mem_append.mp ht with ht | ht
  · rcases List.mem_append.mp ht with ht | ht
    · exact h.ar t (List.mem_of_mem_take ht)
    · rw [List.mem_singleton.mp ht]; exact ha
  · exact h.ar t (List.mem_of_mem_drop ht)
theorem Rg.insT {l : List Int} (h : Rg l) {p : Nat} {a : Int} (hp : p ≤ l.length) (hl : ¬ l.length = 24) (ha : Arity a) : Rg (insT l p a) := by
  have hlen : (DL.insT l p a).length = l.length + 1 := by unfold DL.insT; simp; omega
  have := h.len
  refine ⟨by rw [hlen]; omega, by rw [hlen]; omega, fun t ht => ?_⟩
  unfold DL.insT at ht
  rcases List.mem_append.mp ht with ht | ht
  · rcases List.mem_append.mp ht with ht | ht
    · exact h.ar t (List.mem_of_mem_take ht)
    · rw [List.mem_singleton.mp ht]; exact ha
  · exact h.ar t (List.mem_of_mem_drop ht)
theorem Rg.delT {l : List Int} (h : Rg l) {p : Nat} (hp : p < l.length) (hl : ¬ l.length = 1) : Rg (delT l p) := by
  have hlen : (DL.delT l p).length = l.length - 1 := by unfold DL.delT; simp; omega
  have := h.len
  have := h.pos
  refine ⟨by rw [hlen]; omega, by rw [hlen]; omega, fun t ht => ?_⟩
  unfold DL.delT at ht
  rcases List.mem_append.mp ht with ht | ht
  · exact h.ar t (List.mem_of_mem_take ht)
  · exact h.ar t (List.mem_of_mem_drop ht)
def noArity (v : D) : Ex := ⟨.own "NoArity", [("value", v)]⟩
def tooLong : Ex := ⟨.own "TooLong", [("limit", .int 24)]⟩
def lastTok : Ex := ⟨.own "LastToken", []⟩
/-- an edit as it is asked for -/
inductive Ed where
  | put (v a : D)
  | ins (v a : D)
  | rem (v : D)
def Ed.d : Ed → D
  | .put v a => .tup [.str "put", v, a]
  | .ins v a => .tup [.str "insert", v, a]
  | .rem v => .tup [.str "remove", v]
def Ed.on (l : List Int) : Ed → Except Ex (List Int)
  | .put v a => match plc l.length v with
    | none => .error (noPlace v)
    | some p => match plc 6 a with
      | none => .error (noArity a)
      | some t => .ok (putT l p t)
  | .ins v a => match plc (l.length + 1) v with
    | none => .error (noPlace v)
    | some p => match plc 6 a with
      | none => .error (noArity a)
      | some t => if l.length = 24 then .error tooLong else .ok (insT l p t)
  | .rem v => match plc l.length v with
    | none => .error (noPlace v)
    | some p => if l.length = 1 then .error lastTok else .ok (delT l p)
theorem ar6 {t : Nat} (h : t < 6) : Arity (t : Int) := by unfold Arity; omega
theorem Ed.rg {l r : List Int} (h : Rg l) : ∀ {e : Ed}, e.on l = .ok r → Rg r := by
  intro e
  cases e with
  | put v a =>
    intro he
    unfold Ed.on at he
    cases e1 : plc l.length v with
    | none => simp only [e1] at he; cases he
    | some p =>
      cases e2 : plc 6 a with
      | none => simp only [e1, e2] at he; cases he
      | some t =>
        simp only [e1, e2] at he
        cases he
        exact h.putT (plc_some e1).2 (ar6 (plc_some e2).2)
  | ins v a =>
    intro he
    unfold Ed.on at he
    cases e1 : plc (l.length + 1) v with
    | none => simp only [e1] at he; cases he
    | some p =>
      cases e2 : plc 6 a with
      | none => simp only [e1, e2] at he; cases he
      | some t =>
        simp only [e1, e2] at he
        split at he
        · cases he
        · rename_i hc
          cases he
          exact h.insT (by have := (plc_some e1).2; omega) hc (ar6 (plc_some e2).2)
  | rem v =>
    intro he
    unfold Ed.on at he
    cases e1 : plc l.length v with
    | none => simp only [e1] at he; cases he
    | some p =>
      simp only [e1] at he
      split at he
      · cases he
      · rename_i hc
        cases he
        exact h.delT (plc_some e1).2 hc
end DL
namespace DL
open PySem PySem.Spec L2
open PyProof.Rows hiding St
section
variable {S : Sto} {n : Nat} {l : List Int} {st ch bz : D} {dn : List D}
theorem begs_len_le (l : List Int) : (begs l).length ≤ l.length := by
  unfold begs
  exact Nat.le_trans (List.length_filter_le _ _) (by simp)
end
end DL
namespace DL
open PySem PySem.Spec L2
open PyProof.Rows hiding St
theorem i1 (a b c : D) (S : Sto) : dIx (.tup [a, b, c]) (.int 1) S = .ok b S := rfl
theorem i2 (a b c : D) (S : Sto) : dIx (.tup [a, b, c]) (.int 2) S = .ok c S := rfl
theorem ixl {S : Sto} {g : Nat} {xs : List D} {d : D} (h : S[g]? = some (.lst (xs ++ [d]))) : dIx (.loc g) (.int (-1)) S = .ok d S := dIx_loc (xs := xs ++ [d]) (by unfold getQ; rw [h]) (by
  unfold atI ixN
  have e : (-1 + ((xs.length : Int) + 1)).toNat = xs.length := by omega
  have e2 : (1 : Int) ≤ (xs.length : Int) + 1 := by omega
  simp [e, e2])
/-- reel, rings and edits go side by side -/
structure RI (S : Sto) (r g d : Nat) (l : List Int) (sts dn : List D) (ch : D) : Prop where
  reel : S[r]? = some (rlO (ti l) (.tup (sts ++ [ti l])) (.tup dn) ch (.bl false))
  rings : S[g]? = some (.lst (sts ++ [ti l]))
  done : S[d]? = some (.lst dn)
  rg : Rg l
  all : ∀ x ∈ sts, ∃ k, Rg k ∧ x = ti k
  len : sts.length = dn.length
  most : dn.length ≤ 60
  shw : ∀ x ∈ dn, Shw 21 1 x
  ng : g ≠ r ∧ d ≠ r ∧ d ≠ g
  low : 2 ≤ r ∧ 2 ≤ g ∧ 2 ≤ d
theorem Strm.get {S : Sto} {n : Nat} {rest : Sto} (h : Strm S n rest) {i : Nat} (hi : 2 ≤ i) : S[i]? = rest[i - 2]? := by
  obtain ⟨big, cells, t, rfl, _⟩ := h
  obtain ⟨k, rfl⟩ : ∃ k, i = k + 2 := ⟨i - 2, by omega⟩
  rfl
theorem Strm.set {S : Sto} {n : Nat} {rest : Sto} (h : Strm S n rest) {i : Nat} (hi : 2 ≤ i) (o : Ob) : Strm (S.set i o) n (rest.set (i - 2) o) := by
  obtain ⟨big, cells, t, rfl, hk⟩ := h
  obtain ⟨k, rfl⟩ : ∃ k, i = k + 2 := ⟨i - 2, by omega⟩
  exact ⟨big, cells, t, rfl, hk⟩
theorem get_app {S : Sto} {i : Nat} {o : Ob} (h : S[i]? = some o) (t : Sto) : (S ++ t)[i]? = some o := by
  obtain ⟨hn, _⟩ := List.getElem?_eq_some_iff.mp h
  rw [List.getElem?_append_left hn]; exact h
theorem RI.app {S : Sto} {r g d : Nat} {l : List Int} {sts dn : List D} {ch : D} (h : RI S r g d l sts dn ch) (t : Sto) : RI (S ++ t) r g d l sts dn ch :=
  ⟨get_app h.reel t, get_app h.rings t, get_app h.done t, h.rg, h.all, h.len, h.most, h.shw, h.ng, h.low⟩
theorem q2 (a b : D) (S : Sto) : dIx (.fl [a, b]) (.int 0) S = .ok a S := rfl
theorem q3 (a b : D) (S : Sto) : dIx (.fl [a, b]) (.int 1) S = .ok b S := rfl
end DL
namespace DL
open PySem PySem.Spec L2
open PyProof.Rows hiding St
mutual
theorem low_rok : ∀ {d : D}, rok d = true → ∀ n, low n d = true
  | .int _, _, _ => rfl
  | .bl _, _, _ => rfl
  | .non, _, _ => rfl
  | .str _, _, _ => rfl
  | .tup ds, h, n => by
    rw [low]; exact lowL_rok (by rw [rok] at h; exact h) n
  | .fl ds, h, n => by
    rw [low]; exact lowL_rok (by rw [rok] at h; exact h) n
  | .kl ds, h, n => by simp [rok] at h
  | .ktp ds, h, n => by simp [rok] at h
  | .ztp ds, h, n => by simp [rok] at h
  | .loc _, h, _ => by simp [rok] at h
  | .ty _, h, _ => by simp [rok] at h
  | .fn _, h, _ => by simp [rok] at h
  | .exc _ _, h, _ => by simp [rok] at h
  | .fd kvs, h, n => by
    rw [low]; exact lowK_rok (by rw [rok] at h; exact h) n
theorem lowL_rok : ∀ {ds : List D}, rokL ds = true → ∀ n, lowL n ds = true
  | [], _, _ => rfl
  | d :: ds, h, n => by
    rw [rokL, Bool.and_eq_true] at h
    rw [lowL, low_rok h.1 n, lowL_rok h.2 n]; rfl
theorem lowK_rok : ∀ {ds : List (Key × D)}, rokK ds = true → ∀ n, lowK n ds = true
  | [], _, _ => rfl
  | (k, d) :: ds, h, n => by
    have h' : rok d = true ∧ rokK ds = true := by
      cases k <;> (simp only [rokK, Bool.and_eq_true] at h; exact ⟨h.1.2, h.2⟩)
    rw [lowK, low_rok h'.1 n, lowK_rok h'.2 n]; rfl
end
theorem lowL_all {n : Nat} : ∀ {ds : List D}, (∀ d ∈ ds, low n d = true) → lowL n ds = true
  | [], _ => rfl
  | d :: ds, h => by
    rw [lowL, h d List.mem_cons_self, lowL_all fun x hx => h x (List.mem_cons_of_mem _ hx)]; rfl
theorem low_ti (l : List Int) (n : Nat) : low n (ti l) = true := by
  unfold ti
  rw [low]
  exact lowL_all fun d hd => by
    obtain ⟨i, _, rfl⟩ := List.mem_map.mp hd
    rfl
theorem RI.trunc {S S' : Sto} {n m : Nat} {rest rest' : Sto} {r g d : Nat} {l : List Int} {sts dn : List D} {ch : D} (s : Strm S n rest) (s' : Strm S' m rest') (h : RI S' r g d l sts dn ch) (hc : rok ch = true) (hb : r < S.length ∧ g < S.length ∧ d < S.length) (hlen : S.length ≤ S'.length)
    (far : ∀ i, 2 ≤ i → i < S.length → i ≠ r → i ≠ g → i ≠ d → S'[i]? = S[i]?) : Trunc S S' ∧ RI (S'.take S.length) r g d l sts dn ch ∧ ∃ rest2, Strm (S'.take S.length) m rest2 := by
  have lsts : lowL S.length (sts ++ [ti l]) = true := lowL_all fun x hx => by
    rcases List.mem_append.mp hx with hx | hx
    · obtain ⟨k, _, rfl⟩ := h.all x hx
      exact low_ti k _
    · rw [List.mem_singleton.mp hx]; exact low_ti l _
  have ldn : lowL S.length dn = true := lowL_all fun x hx => low_rok (h.shw x hx).ok _
  have tk : ∀ i, i < S.length → (S'.take S.length)[i]? = S'[i]? := fun i hi => List.getElem?_take_of_lt hi
  have two : 2 ≤ S.length := by have := s.len; omega
  refine ⟨⟨hlen, fun k o hk e => ?_⟩, ⟨by rw [tk r hb.1]; exact h.reel, by rw [tk g hb.2.1]; exact h.rings, by rw [tk d hb.2.2]; exact h.done, h.rg, h.all, h.len, h.most, h.shw, h.ng, h.low⟩, ?_⟩
  · by_cases k2 : 2 ≤ k
    · by_cases kr : k = r
      · subst kr
        rw [h.reel] at e
        cases e
        right
        have e1 : DL.low S.length (.tup (sts ++ [ti l])) = true := by rw [DL.low]; exact lsts
        have e2 : DL.low S.length (.tup dn) = true := by rw [DL.low]; exact ldn
        have e3 : DL.low S.length (.bl false) = true := rfl
        simp only [rlO, rlF, lowO, lowF, low_ti, e1, e2, e3, low_rok hc, Bool.and_true]
      · by_cases kg : k = g
        · subst kg
          rw [h.rings] at e
          cases e
          right
          exact lsts
        · by_cases kd : k = d
          · subst kd
            rw [h.done] at e
            cases e
            right
            exact ldn
          · left
            rw [← far k k2 hk kr kg kd]
            exact e
    · right
      obtain ⟨b', c', t', rfl, o'⟩ := s'
      match k, k2, e with
      | 0, _, e => cases e; simp [lowO, lowL_ints]
      | 1, _, e =>
        cases e
        have z : 0 < S.length := by omega
        simp [lowO, lowL, DL.low, lowL_ints]
        exact z
      | k + 2, k2, _ => omega
  · obtain ⟨b', c', t', rfl, o'⟩ := s'
    obtain ⟨N, hN⟩ : ∃ N, S.length = N + 2 := ⟨S.length - 2, by omega⟩
    rw [hN]
    exact ⟨rest'.take N, b', c', t', rfl, o'⟩
end DL
namespace DL
open PySem PySem.Spec L2
open PyProof.Rows hiding St
end DL
namespace DL
open PySem PySem.Spec L2
open PyProof.Rows hiding St
def nxA (h : Int) : Nat → List Int → List Nat
  | _, [] => []
  | a, c :: cs => (if 0 < c ∧ (a : Int) ≤ h then [a] else []) ++ nxA h (a + 1) cs
end DL
namespace DL
open PySem PySem.Spec L2
open PyProof.Rows hiding St
/-- one token of arity a less -/
def decr (c : List Int) (a : Nat) : List Int := c.take a ++ (c.getD a 0 - 1) :: c.drop (a + 1)
/-- the rows in which all tokens can be read from a height on, in ascending order -/
def cmpl : Nat → Int → List Int → List (List Int)
  | 0, _, _ => [[]]
  | n + 1, h, c => (nxA h 0 c).flatMap fun a => (cmpl n (h + 1 - (a : Nat)) (decr c a)).map fun r => ((a : Nat) : Int) :: r
def wys (n : Nat) (h : Int) (c : List Int) : Nat := (cmpl n h c).length
def balC : Nat → List Int → Int
  | _, [] => 0
  | k, x :: cs => x * (1 - (k : Nat)) + balC (k + 1) cs
def keyC (c : List Int) : List Key := c.map Sum.inl
theorem keyC_inj {a b : List Int} (h : keyC a = keyC b) : a = b := by
  unfold keyC at h
  exact (List.map_inj_right (fun x y e => Sum.inl.inj e)).mp h
def Memo (E : Int) (kvs : List (List Key × D)) : Prop := ∀ c v, lookT kvs (keyC c) = some v → v = .int ((wys c.sum.toNat (E - balC 0 c) c : Nat) : Int)
theorem lookT_put {kvs : List (List Key × D)} {k : List Key} {v : D} : lookT (putTD kvs k v) k = some v := by
  unfold putTD
  split
  · rename_i h
    obtain ⟨q, hq, e⟩ := List.any_eq_true.mp h
    have e := of_decide_eq_true e
    induction kvs with
    | nil => cases hq
    | cons p r ih =>
      rw [List.map_cons]
      unfold lookT
      by_cases hp : p.1 = k
      · simp [List.find?_cons, hp]
      · rw [if_neg hp, List.find?_cons]
        have : decide (p.1 = k) = false := decide_eq_false hp
        rw [this]
        have hq' : q ∈ r := by
          rcases List.mem_cons.mp hq with rfl | hq
          · exact absurd e hp
          · exact hq
        exact ih (List.any_eq_true.mpr ⟨q, hq', decide_eq_true e⟩) hq'
  · rename_i h
    have : kvs.find? (fun kv => decide (kv.1 = k)) = none := by
      rw [List.find?_eq_none]
      intro q hq z
      exact h (List.any_eq_true.mpr ⟨q, hq, z⟩)
    unfold lookT
    rw [List.find?_append, this]
    simp
theorem lookT_other {kvs : List (List Key × D)} {k j : List Key} {v : D} (hj : j ≠ k) : lookT (putTD kvs k v) j = lookT kvs j := by
  unfold putTD
  split
  · rename_i hh
    clear hh
    induction kvs with
    | nil => rfl
    | cons p r ih =>
      rw [List.map_cons]
      unfold lookT at ih ⊢
      by_cases hp : p.1 = k
      · rw [if_pos hp, List.find?_cons, List.find?_cons]
        have : decide (p.1 = j) = false := decide_eq_false fun z => hj (z.symm.trans hp)
        simp only [this]
        exact ih
      · rw [if_neg hp, List.find?_cons, List.find?_cons]
        cases decide (p.1 = j) with
        | true => rfl
        | false => exact ih
  · unfold lookT
    rw [List.find?_append]
    cases kvs.find? (fun kv => decide (kv.1 = j)) with
    | some q => rfl
    | none =>
      have : decide (k = j) = false := decide_eq_false fun z => hj z.symm
      simp [this]
theorem Memo.put {E : Int} {kvs : List (List Key × D)} (h : Memo E kvs) (c : List Int) : Memo E (putTD kvs (keyC c) (.int ((wys c.sum.toNat (E - balC 0 c) c : Nat) : Int))) := by
  intro c2 v hv
  by_cases e : c2 = c
  · subst e
    rw [lookT_put] at hv
    exact (Option.some.inj hv).symm
  · rw [lookT_other (fun z => e (keyC_inj z))] at hv
    exact h c2 v hv
theorem Memo.nil (E : Int) : Memo E [] := fun c v h => by cases h
/-- how many results a call may add -/
def TT : Nat → Nat
  | 0 => 0
  | n + 1 => 1 + 6 * TT n
end DL
namespace DL
open PySem PySem.Spec L2
open PyProof.Rows hiding St
end DL
namespace DL
open PySem PySem.Spec L2
open PyProof.Rows hiding St
end DL
namespace DL
open PySem PySem.Spec L2
open PyProof.Rows hiding St
end DL
namespace DL
open PySem PySem.Spec L2
open PyProof.Rows hiding St
end DL
namespace DL
open PySem PySem.Spec L2
open PyProof.Rows hiding St
def s2 (S : Sto) (xs : List D) (kvs : List (List Key × D)) : Sto := S ++ [.lst xs, .dkt kvs]
end DL
namespace DL
open PySem PySem.Spec L2
open PyProof.Rows hiding St
def comps : Nat → Nat → List (List Int)
  | 0, 0 => [[]]
  | 0, _ + 1 => []
  | k + 1, n => (List.range (n + 1)).flatMap fun a => (comps k (n - a)).map fun c => ((a : Nat) : Int) :: c
theorem sum_nn0 : ∀ {l : List Int}, (∀ x ∈ l, 0 ≤ x) → 0 ≤ l.sum
  | [], _ => by decide
  | y :: l, h => by
    rw [List.sum_cons]
    have h1 := h y List.mem_cons_self
    have h2 := sum_nn0 (l := l) fun z hz => h z (List.mem_cons_of_mem _ hz)
    omega
theorem comps_mem : ∀ {c : List Int} {n : Nat}, (∀ x ∈ c, 0 ≤ x) → c.sum = ((n : Nat) : Int) → c ∈ comps c.length n
  | [], 0, _, _ => by rw [List.length_nil, comps]; exact List.mem_singleton.mpr rfl
  | [], n + 1, _, h => by rw [List.sum_nil] at h; omega
  | x :: cs, n, hc, hs => by
    have hx := hc x List.mem_cons_self
    rw [List.sum_cons] at hs
    have hcs : 0 ≤ cs.sum := sum_nn0 fun z hz => hc z (List.mem_cons_of_mem _ hz)
    rw [List.length_cons, comps, List.mem_flatMap]
    refine ⟨x.toNat, List.mem_range.mpr (by omega), List.mem_map.mpr ⟨cs, comps_mem (fun z hz => hc z (List.mem_cons_of_mem _ hz)) (by omega), ?_⟩⟩
    congr 1
    omega
end DL
namespace DL
open PySem PySem.Spec L2
open PyProof.Rows hiding St
def S6 (f : Nat → Int) : Int := f 0 + (f 1 + (f 2 + (f 3 + (f 4 + f 5))))
end DL
namespace DL
open PySem PySem.Spec L2
open PyProof.Rows hiding St
end DL
namespace DL
open PySem PySem.Spec L2
open PyProof.Rows hiding St
end DL
namespace DL
open PySem PySem.Spec L2
open PyProof.Rows hiding St
abbrev En := List (List Int × Int)
def enc (es : En) : List (List Key × D) := es.map fun e => (keyC e.1, .int e.2)
/-- what stands at a key: counts that sum to n -/
def GoodE (n : Nat) (es : En) : Prop := (es.map (·.1)).Nodup ∧ ∀ c ∈ es.map (·.1), c.length = 6 ∧ (∀ x ∈ c, 0 ≤ x) ∧ c.sum = ((n : Nat) : Int)
theorem nodup_le {α : Type} [DecidableEq α] : ∀ {l m : List α}, l.Nodup → (∀ x ∈ l, x ∈ m) → l.length ≤ m.length
  | [], m, _, _ => Nat.zero_le _
  | x :: l, m, hn, h => by
    obtain ⟨n1, n2⟩ := List.nodup_cons.mp hn
    have hx := h x List.mem_cons_self
    have := nodup_le (l := l) (m := m.erase x) n2 fun y hy => (List.mem_erase_of_ne (fun z => n1 (by rw [← z]; exact hy))).mpr (h y (List.mem_cons_of_mem _ hy))
    rw [List.length_erase_of_mem hx] at this
    have := List.length_pos_of_mem hx
    rw [List.length_cons]
    omega
theorem comps_few : ((List.range 11).all fun n => decide ((comps 6 n).length ≤ 5000)) = true := by decide +kernel
theorem GoodE.few {n : Nat} {es : En} (g : GoodE n es) (hn : n ≤ 10) : (enc es).length ≤ 5000 := by
  have h1 := nodup_le (m := comps 6 n) g.1 fun c hc => by
    obtain ⟨a1, a2, a3⟩ := g.2 c hc
    have := comps_mem a2 a3
    rw [a1] at this
    exact this
  have h2 := of_decide_eq_true (List.all_eq_true.mp comps_few n (List.mem_range.mpr (by omega)))
  unfold enc
  rw [List.length_map] at h1 ⊢
  omega
end DL
namespace DL
open PySem PySem.Spec L2
open PyProof.Rows hiding St
structure Rk where
  ready : Bool
  logged : Bool
def Rk.nm (k : Rk) : Str := match k.ready, k.logged with
  | false, false => "Reel"
  | true, false => "ReadyReel"
  | false, true => "LoggedReel"
  | true, true => "LoggedReadyReel"
end DL
namespace TX
open PySem PySem.Spec L2 DL
open PyProof.Rows hiding St
def topS (i : Nat) : Stmt := PySem.Challenge.pw_ringpostfix_k34_whole_same_terms_turned.main.body.getD i (.Pass ⟨0, 0, 0, 0⟩)
abbrev st__law_stream : Stmt := topS 24
abbrev nm__law_stream : List Str := ["_law_script", "_law_cells", "_law_cell"]
abbrev st__law_draw : Stmt := topS 25
abbrev nm__law_draw : List Str := ["_law_stream_here", "_law_many", "_law_rest", "_law_turn", "_law_cell", "_law_mixed"]
abbrev st__law_ready : Stmt := topS 28
abbrev nm__law_ready : List Str := ["_law_stream_here", "_law_most", "_law_found", "_law_size", "_law_greed", "_law_k"]
abbrev st__law_from : Stmt := topS 26
abbrev nm__law_from : List Str := ["_law_ring", "_law_place"]
abbrev st__law_begun : Stmt := topS 29
abbrev nm__law_begun : List Str := ["_law_stream_here", "_law_most", "_law_row"]
abbrev st_heights_of : Stmt := topS 8
abbrev nm_heights_of : List Str := ["row", "found", "height", "arity"]
abbrev st_need_of : Stmt := topS 9
abbrev nm_need_of : List Str := ["row"]
abbrev st_is_integer : Stmt := topS 5
abbrev nm_is_integer : List Str := ["value", "low", "high"]
abbrev st_check_place : Stmt := topS 6
abbrev nm_check_place : List Str := ["ring", "value"]
abbrev st_turned : Stmt := topS 7
abbrev nm_turned : List Str := ["ring", "place"]
abbrev st_need : Stmt := topS 10
abbrev nm_need : List Str := ["ring", "place"]
abbrev st_beginnings : Stmt := topS 12
abbrev nm_beginnings : List Str := ["ring", "place"]
abbrev st_check_beginning : Stmt := topS 14
abbrev nm_check_beginning : List Str := ["ring", "place"]
abbrev st_term_of : Stmt := topS 16
abbrev nm_term_of : List Str := ["name", "parts"]
abbrev st_terms_from : Stmt := topS 17
abbrev nm_terms_from : List Str := ["ring", "names", "place", "found", "arity", "name", "at"]
abbrev st__law_same : Stmt := topS 27
abbrev nm__law_same : List Str := ["_law_found", "_law_expected", "_law_one", "_law_other"]
abbrev st__law_words : Stmt := topS 30
abbrev nm__law_words : List Str := ["_law_text", "_law_sign", "_law_word"]
abbrev st_later_places : Stmt := topS 19
abbrev nm_later_places : List Str := ["ring", "place", "step"]
abbrev st_find_taker : Stmt := topS 20
abbrev nm_find_taker : List Str := ["ring", "place", "above", "other"]
abbrev st_takers : Stmt := topS 21
abbrev nm_takers : List Str := ["ring", "place"]
abbrev st_free_places : Stmt := topS 22
abbrev nm_free_places : List Str := ["ring", "place", "other"]
abbrev st_law : Stmt := topS 31
abbrev nm_law : List Str := ["_law_script", "_law_stream_here", "_law_turn", "_law_ring", "_law_k", "_law_names", "_law_places", "_law_first", "_law_place", "_law_found", "_law_heads", "_law_term"]
noncomputable def E1__law_words (ρ : Ev) (S : Sto) : R D :=
  (eVar 2) ρ S
noncomputable def Q1__law_words (ρ : Ev) (S : Sto) : R Bool :=
  (eT (eOp (dEq true) (eVar 2) (eC (.str "")))) ρ S
noncomputable def B__law_words : Ev → Sto → SR :=
  (sSeq (sRepl 0 1 "()," 32)
    (sRet (eLc finFl (iSeq (eMt isStr (mSplit mkFl) (eVar 0) (aCons (eC (.str " ")) aNil))) (tN 2) [2] Q1__law_words E1__law_words)))
noncomputable def F__law_words : Fn := fnC close 3 1 B__law_words
noncomputable def E1_law (ρ : Ev) (S : Sto) : R D :=
  (eOp dMulS (eOp dIx (eC (.str "abcdefghijklmnopqrstuvwxyz")) (eVar 4)) (eOp dAdd (eC (.int 1)) (eOp dMod (eVar 4) (eC (.int 8))))) ρ S
noncomputable def L1_law (ρ : Ev) (S : Sto) : SR :=
  (sSeq (sSet 9 (eCall F_terms_from (aCons (eVar 3) (aCons (eVar 5) (aCons (eVar 8) aNil)))))
    (sIf (eOr (eNot (eT (eCall (F__law_same 40) (aCons (eVar 9) (aCons (eOp dAdd (eSl mkFl (eVar 7) (oSome (eVar 4)) oNone) (eSl mkFl (eVar 7) oNone (oSome (eVar 4)))) aNil))))) (eT (eOp (dEq true) (eOp dIx (eCall F__law_words (aCons (eOp dIx (eVar 9) (eNeg (eC (.int 1)))) aNil)) (eC (.int 0))) (eOp dIx (eVar 5) (eOp dSub (eVar 8) (eC (.int 1))))))) (sRet (eC (.bl false))) sNil)) ρ S
noncomputable def E2_law (ρ : Ev) (S : Sto) : R D :=
  (eOp dIx (eCall F__law_words (aCons (eVar 11) aNil)) (eC (.int 0))) ρ S
noncomputable def E3_law (ρ : Ev) (S : Sto) : R D :=
  (eOp dIx (eVar 5) (eVar 8)) ρ S
noncomputable def L2_law (ρ : Ev) (S : Sto) : SR :=
  (sSeq (sSet 3 (eCall F__law_begun (aCons (eVar 1) (aCons (eC (.int 24)) aNil))))
    (sSeq (sSet 5 (eCall bTuple (aCons (eLc finFl (iRange1 (aCons (eCall bLen (aCons (eVar 3) aNil)) aNil)) (tN 4) [4] cYes E1_law) aNil)))
    (sSeq (sSet 6 (eCall F_beginnings (aCons (eVar 3) aNil)))
    (sSeq (sSet 7 (eCall F_terms_from (aCons (eVar 3) (aCons (eVar 5) (aCons (eOp dIx (eVar 6) (eC (.int 0))) aNil)))))
    (sSeq (sFor (iEnumD (aCons (eVar 6) aNil)) (tTup 2 (tCons (tN 4) (tCons (tN 8) tNil))) L1_law sNil)
    (sSeq (sIf (eT (eOp (dEq true) (eCall bSortT (aCons (eCall F__law_words (aCons (eMt isStr mJoin (eC (.str " ")) (aCons (eVar 7) aNil)) aNil)) aNil)) (eCall bSortT (aCons (eVar 5) aNil)))) (sRet (eC (.bl false))) sNil)
    (sSeq (sSet 10 (eLc finFl (iSeq (eVar 7)) (tN 11) [11] cYes E2_law))
    (sIf (eT (eOp (dEq true) (eCall bSortT (aCons (eVar 10) aNil)) (eCall bSortT (aCons (eLc finFl (iSeq (eCall F_free_places (aCons (eVar 3) aNil))) (tN 8) [8] cYes E3_law) aNil)))) (sRet (eC (.bl false))) sNil)))))))) ρ S
noncomputable def B_law : Ev → Sto → SR :=
  (sSeq (sSet 1 (eCall F__law_stream (aCons (eVar 0) aNil)))
    (sSeq (sFor (iRange1 (aCons (eC (.int 8)) aNil)) (tN 2) L2_law sNil)
    (sRet (eC (.bl true)))))
noncomputable def F_law : Fn := fnC close 12 1 B_law
end TX
namespace TX
open PySem PySem.Spec L2 DL
open PyProof.Rows hiding St
local macro_rules
  | `(tactic| simp! [$ls,*]) => `(tactic| simp only [eVar, eC, eOp, eT, eAnd, eOr, eNot, eIf, eAndV, eOrV, eNotV, eCall, aNil, aCons, aStar, sOf, eTup, eFl, eLoc, eSl, oNone, oSome, iOf, eNeg, eChain, eMt, bOf, eDict0, eRev, eListRg, iZipD, sRaise1, sRaise0, eCallV, List.lookup, R.bind_ok, R.bind_er, R.bind_stuck, R.toS_ok, R.toS_er, R.toS_stuck, SR.next_nx, SR.next_rt, SR.next_er, SR.next_bk, SR.next_ct, SR.next_stuck, sNil, sSeq, sBrk, sCnt, sExp, sRet, sRetN, sIf, sSet, sAsg, sAug, sPar2, sPar3, tN, DL.tTup, DL.tNil, DL.tCons, DL.tSub, iSeq, srcOf_tup, srcOf_fl, srcOf_kl, srcOf_ti, iRange1, iRange2, sFor, startD, List.map_cons, List.map_nil, List.length_cons, List.length_nil, List.replicate, List.cons_append, List.nil_append, List.getElem?_cons_zero, List.getElem?_cons_succ, List.set_cons_zero, List.set_cons_succ, dSub_int, dFdiv_int, dMod_int, dLt_int, dLe_int, dGt_int, dGe_int, dAddI_int, dSubI_int, dIsN_non, isN, dAdd_int, ll0, ll1, ll2, ll3, ll4, ll5, ll6, ll7, ll8, ll9, ll10, ll11, ll12, ll13, ll14, ll15, ll16, ll17, ll18, ll19, ll20, ll21, ll22, ll23, ll24, ll25, ll26, ll27, ll28, ll29, ll30, ll31, ll32, ll33, ll34, ll35, ll36, ll37, ll38, ll39, ll40, Nat.reduceSub, Nat.reduceAdd, Nat.reduceEqDiff, if_true, if_false, ifp_t, ifp_f, reduceIte, Bool.true_eq_false, Bool.false_eq_true, Option.map_some, Option.map_none, Option.bind_some, Option.bind_none, tSq, sSet2, seqOf_fl, seqOf_tup, seqOf_ti, $ls,*])
theorem pos_iff (l : List Int) : ne l = 0 ↔ ∀ s, 1 ≤ s → s ≤ l.length → 0 < ht (l.take s) := by
  rw [← fst_ne]
  constructor
  · intro h s h1 h2
    have := fst_none h s h1 h2
    omega
  · intro h
    exact fst_no fun s h1 h2 => by
      have := h s h1 h2
      omega
theorem ht_pos {l : List Int} (h : ne l = 0) (h0 : l ≠ []) : 0 < ht l := by
  have := (pos_iff l).mp h l.length (List.length_pos_iff.mpr h0) (Nat.le_refl _)
  rwa [List.take_of_length_le (Nat.le_refl _)] at this
theorem ht_nn {l : List Int} (h : ne l = 0) : 0 ≤ ht l := by
  by_cases h0 : l = []
  · subst h0; exact Int.le_refl _
  · have := ht_pos h h0; omega
theorem take_app3 (a M b : List Int) (s : Nat) (h : a.length + M.length ≤ s) : (a ++ M ++ b).take s = a ++ M ++ b.take (s - a.length - M.length) := by
  rw [List.take_append, List.take_of_length_le (by rw [List.length_append]; omega), List.length_append, show s - (a.length + M.length) = s - a.length - M.length by omega]
theorem ne_mid {a M b : List Int} (ha : a ≠ []) (h : ne (a ++ b) = 0) (hM : ne M = 0) : ne (a ++ M ++ b) = 0 := by
  rw [pos_iff] at h ⊢
  have la : 0 < a.length := List.length_pos_iff.mpr ha
  have ha' : 0 < ht a := by
    have := h a.length la (by simp)
    rwa [List.take_left] at this
  have hm := ht_nn hM
  intro s h1 h2
  by_cases c1 : s ≤ a.length
  · have := h s h1 (by rw [List.length_append]; omega)
    rw [List.take_append_of_le_length c1] at this
    rw [List.append_assoc, List.take_append_of_le_length c1]
    exact this
  · by_cases c2 : s ≤ a.length + M.length
    · have e : (a ++ M ++ b).take s = a ++ M.take (s - a.length) := by
        rw [List.take_append_of_le_length (by rw [List.length_append]; omega), List.take_append, List.take_of_length_le (by omega)]
      rw [e, ht_app]
      have := (pos_iff M).mp hM (s - a.length) (by omega) (by omega)
      omega
    · rw [take_app3 a M b s (by omega), ht_app, ht_app]
      rw [List.length_append, List.length_append] at h2
      have := h (a.length + (s - a.length - M.length)) (by omega) (by rw [List.length_append]; omega)
      rw [List.take_append, List.take_of_length_le (by omega), Nat.add_sub_cancel_left, ht_app] at this
      omega
theorem ne_app {a b : List Int} (ha : ne a = 0) (hb : ne b = 0) : ne (a ++ b) = 0 := by
  by_cases h0 : a = []
  · subst h0; exact hb
  · have := ne_mid (b := []) h0 (by rw [List.append_nil]; exact ha) hb
    rwa [List.append_nil] at this
theorem ne_flat : ∀ {rs : List (List Int)}, (∀ r ∈ rs, ne r = 0) → ne rs.flatten = 0
  | [], _ => rfl
  | r :: rs, h => by
    rw [List.flatten_cons]
    exact ne_app (h r List.mem_cons_self) (ne_flat fun x hx => h x (List.mem_cons_of_mem _ hx))
theorem ne_turn {X r Y : List Int} (hX : ne X = 0) (hY : ne Y = 0) {p : Nat} (hp : p < r.length) (h : ne (rot r p) = 0) : ne (rot (X ++ r ++ Y) (X.length + p)) = 0 := by
  have e : rot (X ++ r ++ Y) (X.length + p) = r.drop p ++ (Y ++ X) ++ r.take p := by
    unfold rot
    rw [List.append_assoc, List.drop_append, List.take_append, List.drop_of_length_le (by omega), List.take_of_length_le (l := X) (by omega), Nat.add_sub_cancel_left, List.drop_append_of_le_length (by omega), List.take_append_of_le_length (by omega)]
    simp
  rw [e]
  refine ne_mid (fun hc => ?_) h (ne_app hY hX)
  have : (r.drop p).length = 0 := by rw [hc]; rfl
  rw [List.length_drop] at this
  omega
def dueP : List (List Int) → Nat → Bool
  | [], _ => false
  | r :: rs, p => if p < r.length then decide (ne (rot r p) = 0) else dueP rs (p - r.length)
def due (k : Nat) : List (List Int) → List Nat
  | [] => []
  | r :: rs => (begs r).map (k + ·) ++ due (k + r.length) rs
theorem dueP_ok : ∀ (rs : List (List Int)) (X : List Int) (p : Nat), ne X = 0 → (∀ r ∈ rs, ne r = 0) → dueP rs p = true → ne (rot (X ++ rs.flatten) (X.length + p)) = 0
  | [], _, _, _, _, h => by cases h
  | r :: rs, X, p, hX, hr, h => by
    rw [dueP] at h
    have h2 : ∀ x ∈ rs, ne x = 0 := fun x hx => hr x (List.mem_cons_of_mem _ hx)
    split at h
    · rename_i hp
      rw [List.flatten_cons, ← List.append_assoc]
      exact ne_turn hX (ne_flat h2) hp (by simpa using h)
    · rename_i hp
      have := dueP_ok rs (X ++ r) (p - r.length) (ne_app hX (hr r List.mem_cons_self)) h2 h
      rw [List.length_append, show X.length + r.length + (p - r.length) = X.length + p by omega, List.append_assoc] at this
      rwa [List.flatten_cons]
theorem due_filter : ∀ (rs : List (List Int)) (k : Nat), due k rs = ((List.range rs.flatten.length).filter (dueP rs)).map (k + ·)
  | [], k => rfl
  | r :: rs, k => by
    rw [due, due_filter rs (k + r.length), List.flatten_cons, List.length_append, List.range_add, List.filter_append, List.map_append]
    congr 1
    · unfold begs
      congr 1
      refine List.filter_congr fun p hp => ?_
      rw [dueP, if_pos (List.mem_range.mp hp)]
    · rw [List.filter_map, List.map_map]
      have e : (dueP (r :: rs) ∘ fun x => r.length + x) = dueP rs := by
        funext x
        show dueP (r :: rs) (r.length + x) = _
        rw [dueP, if_neg (by omega), Nat.add_sub_cancel_left]
      rw [e]
      refine List.map_congr_left fun x _ => ?_
      show k + r.length + x = k + (r.length + x)
      omega
theorem filter_same {α : Type} {p q : α → Bool} : ∀ (l : List α), (∀ x ∈ l, p x = true → q x = true) → (l.filter p).length = (l.filter q).length → l.filter p = l.filter q
  | [], _, _ => rfl
  | x :: l, h, hl => by
    have mono : ∀ l : List α, (∀ x ∈ l, p x = true → q x = true) → (l.filter p).length ≤ (l.filter q).length := fun l hm => by
      induction l with
      | nil => simp
      | cons y l ih =>
        have i2 := ih fun z hz => hm z (List.mem_cons_of_mem _ hz)
        cases hp : p y with
        | true => rw [List.filter_cons_of_pos hp, List.filter_cons_of_pos (hm y List.mem_cons_self hp), List.length_cons, List.length_cons]; omega
        | false =>
          rw [List.filter_cons_of_neg (by simp [hp])]
          cases hq : q y with
          | true => rw [List.filter_cons_of_pos hq, List.length_cons]; omega
          | false => rw [List.filter_cons_of_neg (by simp [hq])]; exact i2
    have h2 : ∀ x ∈ l, p x = true → q x = true := fun z hz => h z (List.mem_cons_of_mem _ hz)
    have m := mono l h2
    cases hp : p x with
    | true =>
      have hq := h x List.mem_cons_self hp
      rw [List.filter_cons_of_pos hp, List.filter_cons_of_pos hq] at hl ⊢
      rw [filter_same l h2 (by simpa using hl)]
    | false =>
      rw [List.filter_cons_of_neg (by simp [hp])] at hl ⊢
      cases hq : q x with
      | true => rw [List.filter_cons_of_pos hq, List.length_cons] at hl; omega
      | false =>
        rw [List.filter_cons_of_neg (by simp [hq])] at hl ⊢
        exact filter_same l h2 hl
theorem begs_rd {l : List Int} (h : ne l = 0) (ha : ∀ t ∈ l, 0 ≤ t) : ((begs l).length : Int) = ht l := by
  have := begs_count ha
  have := ht_nn h
  rw [ht_eq] at *
  omega
theorem due_len : ∀ (rs : List (List Int)) (k : Nat), (∀ r ∈ rs, ne r = 0 ∧ ∀ t ∈ r, 0 ≤ t) → ((due k rs).length : Int) = ht rs.flatten
  | [], _, _ => rfl
  | r :: rs, k, h => by
    have h1 := h r List.mem_cons_self
    have ih := due_len rs (k + r.length) fun x hx => h x (List.mem_cons_of_mem _ hx)
    rw [due, List.length_append, List.length_map, List.flatten_cons, ht_app, ← begs_rd h1.1 h1.2]
    omega
theorem begs_flat (rs : List (List Int)) (h : ∀ r ∈ rs, ne r = 0 ∧ ∀ t ∈ r, 0 ≤ t) : begs rs.flatten = due 0 rs := by
  have hd := due_filter rs 0
  have hl := due_len rs 0 h
  have hf := begs_rd (ne_flat fun r hr => (h r hr).1) (fun t ht => by
    obtain ⟨r, hr, htr⟩ := List.mem_flatten.mp ht
    exact (h r hr).2 t htr)
  have e : due 0 rs = (List.range rs.flatten.length).filter (dueP rs) := by
    rw [hd]
    have : (fun x => 0 + x) = (id : Nat → Nat) := funext fun x => Nat.zero_add x
    rw [this, List.map_id]
  rw [e] at hl ⊢
  symm
  refine filter_same _ (fun p hp hx => ?_) (by
    have : (begs rs.flatten).length = ((List.range rs.flatten.length).filter fun p => decide (ne (rot rs.flatten p) = 0)).length := rfl
    omega)
  have := dueP_ok rs [] p rfl (fun r hr => (h r hr).1) hx
  simpa using this
theorem filter_lt : ∀ {bs : List Nat} {j : Nat} {b : Nat}, bs.Pairwise (· < ·) → bs[j]? = some b → (bs.filter fun x => decide (x < b)).length = j
  | c :: bs, 0, b, h, e => by
    have : c = b := by simpa using e
    subst this
    have h' := (List.pairwise_cons.mp h).1
    rw [List.filter_cons_of_neg (by simp)]
    rw [List.filter_eq_nil_iff.mpr fun x hx => by have := h' x hx; simp; omega]
    rfl
  | c :: bs, j + 1, b, h, e => by
    have h' := List.pairwise_cons.mp h
    have e' : bs[j]? = some b := by simpa using e
    have hc : c < b := h'.1 b (List.mem_of_getElem? e')
    rw [List.filter_cons_of_pos (by simpa using hc), List.length_cons, filter_lt h'.2 e']
theorem rot_zero {α : Type} (l : List α) : rot l 0 = l := by unfold rot; simp
/-- the row from a to b, and the rest -/
theorem rot_split {α : Type} (l : List α) {a b : Nat} (h : a ≤ b) (hb : b ≤ l.length) : rot l a = (l.drop a).take (b - a) ++ (l.drop b ++ l.take a) ∧ rot l b = (l.drop b ++ l.take a) ++ (l.drop a).take (b - a) := by
  have e1 : l.drop a = (l.drop a).take (b - a) ++ l.drop b := by
    have := (List.take_append_drop (b - a) (l.drop a)).symm
    rw [List.drop_drop, show a + (b - a) = b by omega] at this
    exact this
  have e2 : l.take b = l.take a ++ (l.drop a).take (b - a) := by
    have : b = a + (b - a) := by omega
    rw [this, List.take_add]
    simp
  unfold rot
  refine ⟨?_, ?_⟩
  · rw [← List.append_assoc, ← e1]
  · rw [e2, List.append_assoc]
theorem ne_pre {a b : List Int} (h : ne (a ++ b) = 0) : ne a = 0 := by
  rw [pos_iff] at h ⊢
  intro s h1 h2
  have := h s h1 (by rw [List.length_append]; omega)
  rwa [List.take_append_of_le_length h2] at this
theorem begs_shift {l : List Int} {a : Nat} {bs : List Nat} (e : begs l = a :: bs) (ha : a < l.length) : begs (rot l a) = (begs l).map (· - a) := by
  have hr := begs_rot l a ha
  have pw := begs_lt l
  have hlt : ∀ x ∈ begs l, a ≤ x ∧ x < l.length := fun x hx => by
    refine ⟨?_, (mem_begs.mp hx).1⟩
    rw [e] at hx pw
    rcases List.mem_cons.mp hx with rfl | hx
    · exact Nat.le_refl _
    · exact Nat.le_of_lt ((List.pairwise_cons.mp pw).1 x hx)
  have em : ((begs l).map fun b : Nat => ((b : Int) - a) % (l.length : Int)) = ((begs l).map (· - a)).map (fun k : Nat => (k : Int)) := by
    rw [List.map_map]
    refine List.map_congr_left fun x hx => ?_
    have := hlt x hx
    show ((x : Int) - a) % (l.length : Int) = ((x - a : Nat) : Int)
    rw [Int.emod_eq_of_lt (by omega) (by omega)]
    omega
  rw [em] at hr
  have srt : (((begs l).map (· - a)).map (fun k : Nat => (k : Int))).Pairwise (· ≤ ·) := by
    rw [List.map_map, List.pairwise_map]
    refine List.Pairwise.imp_of_mem ?_ pw
    intro x y hx hy hxy
    have := hlt x hx
    have := hlt y hy
    show ((x - a : Nat) : Int) ≤ ((y - a : Nat) : Int)
    omega
  have es : sortI (((begs l).map (· - a)).map (fun k : Nat => (k : Int))) = ((begs l).map (· - a)).map (fun k : Nat => (k : Int)) := sorted_unique (sortI_perm _) (sortI_sorted _) srt
  rw [es] at hr
  have inj : ∀ {x y : List Nat}, x.map (fun k : Nat => (k : Int)) = y.map (fun k : Nat => (k : Int)) → x = y := fun {x y} h => by
    have := congrArg (List.map Int.toNat) h
    rw [List.map_map, List.map_map] at this
    have id1 : ∀ l : List Nat, l.map (Int.toNat ∘ fun k : Nat => (k : Int)) = l := fun l => by
      induction l with
      | nil => rfl
      | cons x l ih => rw [List.map_cons, ih]; rfl
    rwa [id1, id1] at this
  exact inj hr
/-- the height from the first beginning to the j-th is j -/
theorem ht_units {l : List Int} (hn : ∀ t ∈ l, 0 ≤ t) {a b j : Nat} {bs : List Nat} (e : begs l = a :: bs) (hj : (begs l)[j]? = some b) (h0 : ne (rot l a) = 0) (h1 : ne (rot l b) = 0) (hb : b < l.length) (hab : a ≤ b) :
    ht ((l.drop a).take (b - a)) = (j : Int) := by
  obtain ⟨r1, r2⟩ := rot_split l hab (Nat.le_of_lt hb)
  rw [r1] at h0
  rw [r2] at h1
  have nA := ne_pre h0
  have nB := ne_pre h1
  have mA : ∀ t ∈ (l.drop a).take (b - a), 0 ≤ t := fun t ht => hn t (List.mem_of_mem_drop (List.mem_of_mem_take ht))
  have mB : ∀ t ∈ l.drop b ++ l.take a, 0 ≤ t := fun t ht => by
    rcases List.mem_append.mp ht with h | h
    · exact hn t (List.mem_of_mem_drop h)
    · exact hn t (List.mem_of_mem_take h)
  have hf := begs_flat [(l.drop a).take (b - a), l.drop b ++ l.take a] (by
    simp only [List.mem_cons, List.not_mem_nil, or_false]
    rintro r (rfl | rfl)
    · exact ⟨nA, mA⟩
    · exact ⟨nB, mB⟩)
  rw [show ([(l.drop a).take (b - a), l.drop b ++ l.take a] : List (List Int)).flatten = (l.drop a).take (b - a) ++ (l.drop b ++ l.take a) by simp, ← r1] at hf
  have lA : ((l.drop a).take (b - a)).length = b - a := by rw [List.length_take, List.length_drop]; omega
  have ha : a < l.length := by omega
  rw [begs_shift e ha] at hf
  simp only [due, Nat.zero_add, List.append_nil, lA] at hf
  have hc := begs_rd nA mA
  rw [← hc]
  congr 1
  have f1 : ((begs ((l.drop a).take (b - a))).map (fun x => 0 + x)) = begs ((l.drop a).take (b - a)) := by
    have id1 : ∀ l : List Nat, l.map (fun x => 0 + x) = l := fun l => by
      induction l with
      | nil => rfl
      | cons x l ih => rw [List.map_cons, ih, Nat.zero_add]
    exact id1 _
  have key : ((begs l).map (· - a)).filter (fun x => decide (x < b - a)) = begs ((l.drop a).take (b - a)) := by
    rw [hf, List.filter_append]
    have g1 : (List.map (fun x => x) (begs ((l.drop a).take (b - a)))).filter (fun x => decide (x < b - a)) = begs ((l.drop a).take (b - a)) := by
      rw [List.map_id']
      refine List.filter_eq_self.mpr fun x hx => ?_
      have := (mem_begs.mp hx).1
      simp; omega
    have g2 : (List.map (fun x => b - a + x) (begs (l.drop b ++ l.take a))).filter (fun x => decide (x < b - a)) = [] := by
      refine List.filter_eq_nil_iff.mpr fun x hx => ?_
      obtain ⟨y, _, rfl⟩ := List.mem_map.mp hx
      simp
    first
    | rw [g1, g2, List.append_nil]
    | (rw [f1] at *; rw [g1, g2, List.append_nil])
  rw [← key, List.filter_map, List.length_map]
  have fl := filter_lt (begs_lt l) hj
  rw [← fl]
  congr 1
  refine List.filter_congr fun x hx => ?_
  have hx' : a ≤ x := by
    have pw := begs_lt l
    rw [e] at hx pw
    rcases List.mem_cons.mp hx with rfl | hx
    · exact Nat.le_refl _
    · exact Nat.le_of_lt ((List.pairwise_cons.mp pw).1 x hx)
  show decide (x - a < b - a) = decide (x < b)
  exact decide_eq_decide.mpr (by omega)
theorem tms_over {B : List (Int × Str)} (hB : ∀ n q, B[n]? = some q → q.1 ≤ ((tms (B.take n)).length : Int)) (f : List Str) : B.foldl tstk f = f ++ tms B := by
  have key : ∀ n, n ≤ B.length → (B.take n).foldl tstk f = f ++ tms (B.take n) := by
    intro n
    induction n with
    | zero => intro _; simp [tms]
    | succ n ih =>
      intro hn
      have ih := ih (by omega)
      have hx : B[n]? = some B[n] := List.getElem?_eq_getElem (by omega)
      have et : B.take (n + 1) = B.take n ++ [B[n]] := by rw [List.take_succ, hx]; rfl
      have hq := hB n _ hx
      rw [et, List.foldl_append, ih, tms_snoc]
      show tstk (f ++ tms (B.take n)) B[n] = f ++ tstk (tms (B.take n)) B[n]
      unfold tstk
      have hl : (f ++ tms (B.take n)).length - (B[n]).1.toNat = f.length + ((tms (B.take n)).length - (B[n]).1.toNat) := by
        rw [List.length_append]; omega
      rw [hl, List.take_length_add_append, List.drop_length_add_append, List.append_assoc]
  have := key B.length (Nat.le_refl _)
  rwa [List.take_length] at this
theorem tms_cat {A B : List (Int × Str)} (hB : ∀ n q, B[n]? = some q → q.1 ≤ ((tms (B.take n)).length : Int)) : tms (A ++ B) = tms A ++ tms B := by
  have e : tms (A ++ B) = B.foldl tstk (tms A) := by unfold tms; rw [List.foldl_append]
  rw [e, tms_over hB]
theorem zs_pre {A B : List (Int × Str)} (h : Zs (A ++ B)) : ∀ n q, A[n]? = some q → q.1 ≤ ((tms (A.take n)).length : Int) := fun n q hq => by
  have hn : n < A.length := (List.getElem?_eq_some_iff.mp hq).1
  have := (h.hts n (by rw [List.length_append]; omega)).2 q (by rw [List.getElem?_append_left hn]; exact hq)
  rwa [List.take_append_of_le_length (by omega)] at this
theorem zp_rot (l : List Int) (ns : List Str) (h : ns.length = l.length) (p : Nat) (hp : p ≤ l.length) : zp l ns p = rot (l.zip ns) p := by
  unfold zp rot
  rw [List.zip_append (by rw [List.length_drop, List.length_drop]; omega)]
  unfold List.zip
  rw [List.drop_zipWith, List.take_zipWith]
/-- THE LAW OF TURNED TERMS -/
theorem tms_turn {l : List Int} {ns : List Str} (h : Rn l ns) {a b j : Nat} {bs : List Nat} (e : begs l = a :: bs) (hj : (begs l)[j]? = some b) :
    tms (zp l ns b) = (tms (zp l ns a)).drop j ++ (tms (zp l ns a)).take j := by
  have ma : a ∈ begs l := by rw [e]; exact List.mem_cons_self
  have mb : b ∈ begs l := List.mem_of_getElem? hj
  obtain ⟨ha, na⟩ := mem_begs.mp ma
  obtain ⟨hb, nb⟩ := mem_begs.mp mb
  have hab : a ≤ b := by
    have pw := begs_lt l
    rw [e] at pw mb
    rcases List.mem_cons.mp mb with rfl | hx
    · exact Nat.le_refl _
    · exact Nat.le_of_lt ((List.pairwise_cons.mp pw).1 b hx)
  have za := h.zs ha na
  have zb := h.zs hb nb
  have lz : (l.zip ns).length = l.length := by rw [List.length_zip, h.eq]; omega
  rw [zp_rot l ns h.eq a (by omega)] at za ⊢
  rw [zp_rot l ns h.eq b (by omega)] at zb ⊢
  obtain ⟨r1, r2⟩ := rot_split (l.zip ns) hab (by omega)
  rw [r1] at za ⊢
  rw [r2] at zb ⊢
  have pA := zs_pre za
  have pB := zs_pre zb
  rw [tms_cat pA, tms_cat pB]
  have hn : ∀ t ∈ l, 0 ≤ t := fun t ht => (h.ar t ht).1
  have hu := ht_units hn e hj na nb hb hab
  have lA : (((l.zip ns).drop a).take (b - a)).length = b - a := by rw [List.length_take, List.length_drop, lz]; omega
  have ln : (tms (((l.zip ns).drop a).take (b - a))).length = j := by
    have := (za.hts (b - a) (by rw [List.length_append]; omega)).1
    rw [List.take_append_of_le_length (by omega), List.take_of_length_le (by omega)] at this
    have e1 : (((((l.zip ns).drop a).take (b - a) ++ ((l.zip ns).drop b ++ (l.zip ns).take a)).map (·.1)).take (b - a)) = (l.drop a).take (b - a) := by
      rw [List.map_append, List.take_append_of_le_length (by rw [List.length_map]; omega), List.take_of_length_le (by rw [List.length_map]; omega), List.map_take, List.map_drop, List.map_fst_zip (by rw [h.eq]; omega)]
    rw [e1, hu] at this
    omega
  have fin : ∀ (T1 T2 : List Str), T1.length = j → T2 ++ T1 = (T1 ++ T2).drop j ++ (T1 ++ T2).take j := fun T1 T2 h => by
    subst h
    simp
  exact fin _ _ ln
def spc : Str := " "
def sepB (c : Nat) : Bool := c == 32 || (c == 40 || (c == 41 || c == 44))
def wlA : List Nat → List Nat × List (List Nat)
  | [] => ([], [])
  | c :: r => if sepB c = true then ([], if (wlA r).1 = [] then (wlA r).2 else (wlA r).1 :: (wlA r).2) else (c :: (wlA r).1, (wlA r).2)
def psh (p : List Nat × List (List Nat)) : List (List Nat) := if p.1 = [] then p.2 else p.1 :: p.2
def wl (l : List Nat) : List (List Nat) := psh (wlA l)
theorem psh_app (x : List Nat) (y z : List (List Nat)) : psh (x, y ++ z) = psh (x, y) ++ z := by
  unfold psh
  by_cases h : x = []
  · rw [if_pos h, if_pos h]
  · rw [if_neg h, if_neg h, List.cons_append]
theorem wlA_sep {s : Nat} (hs : sepB s = true) (b : List Nat) : ∀ a : List Nat, wlA (a ++ s :: b) = ((wlA a).1, (wlA a).2 ++ wl b)
  | [] => by
    have e : wlA (s :: b) = ([], psh (wlA b)) := by
      rw [wlA, if_pos hs]
      rfl
    show wlA (s :: b) = _
    rw [e]
    rfl
  | c :: a => by
    have ih := wlA_sep hs b a
    rw [List.cons_append, wlA, ih, wlA]
    by_cases h : sepB c = true
    · rw [if_pos h, if_pos h]
      have := psh_app (wlA a).1 (wlA a).2 (wl b)
      unfold psh at this
      exact congrArg (Prod.mk _) this
    · rw [if_neg h, if_neg h]
theorem wl_sep {s : Nat} (hs : sepB s = true) (a b : List Nat) : wl (a ++ s :: b) = wl a ++ wl b := by
  unfold wl
  rw [wlA_sep hs b a, psh_app]
  rfl
theorem wlA_word : ∀ {a : List Nat}, (∀ c ∈ a, sepB c = false) → wlA a = (a, [])
  | [], _ => rfl
  | c :: a, h => by
    rw [wlA, if_neg (by rw [h c List.mem_cons_self]; simp), wlA_word fun x hx => h x (List.mem_cons_of_mem _ hx)]
theorem wl_nil : wl [] = [] := rfl
theorem wl_word {a : List Nat} (h : ∀ c ∈ a, sepB c = false) (h0 : a ≠ []) : wl a = [a] := by
  unfold wl psh
  rw [wlA_word h, if_neg h0]
theorem wl_cons {s : Nat} (hs : sepB s = true) (b : List Nat) : wl (s :: b) = wl b := by
  have := wl_sep hs [] b
  rw [List.nil_append, wl_nil, List.nil_append] at this
  exact this
def spA : List Nat → List Nat × List (List Nat)
  | [] => ([], [])
  | c :: r => if sepB c = true then ([], (spA r).1 :: (spA r).2) else (c :: (spA r).1, (spA r).2)
def pcs (l : List Nat) : List (List Nat) := (spA l).1 :: (spA l).2
theorem pcs_sep {c : Nat} {r : List Nat} (h : sepB c = true) : pcs (c :: r) = [] :: pcs r := by
  unfold pcs
  rw [spA, if_pos h]
theorem pcs_wl : ∀ l : List Nat, (spA l).1 = (wlA l).1 ∧ (spA l).2.filter (fun p => !p.isEmpty) = (wlA l).2
  | [] => ⟨rfl, rfl⟩
  | c :: r => by
    obtain ⟨h1, h2⟩ := pcs_wl r
    rw [spA, wlA]
    by_cases h : sepB c = true
    · rw [if_pos h, if_pos h]
      refine ⟨rfl, ?_⟩
      show (((spA r).1 :: (spA r).2).filter fun p => !p.isEmpty) = if (wlA r).1 = [] then (wlA r).2 else (wlA r).1 :: (wlA r).2
      rw [← h1]
      by_cases h0 : (spA r).1 = []
      · rw [if_pos h0, List.filter_cons_of_neg (by simp [h0]), h2]
      · rw [if_neg h0, List.filter_cons_of_pos (by simp [h0]), h2]
    · rw [if_neg h, if_neg h]
      exact ⟨by rw [h1], h2⟩
theorem pcs_words (l : List Nat) : (pcs l).filter (fun p => !p.isEmpty) = wl l := by
  obtain ⟨h1, h2⟩ := pcs_wl l
  unfold pcs wl psh
  rw [← h1, ← h2]
  by_cases h0 : (spA l).1 = []
  · rw [if_pos h0, List.filter_cons_of_neg (by simp [h0])]
  · rw [if_neg h0, List.filter_cons_of_pos (by simp [h0])]
theorem pcs_no : ∀ (l : List Nat), ∀ p ∈ pcs l, 32 ∉ p
  | [], p, hp => by
    have : p = [] := by simpa [pcs, spA] using hp
    rw [this]; simp
  | c :: r, p, hp => by
    have ih := pcs_no r
    by_cases h : sepB c = true
    · rw [pcs_sep h] at hp
      rcases List.mem_cons.mp hp with rfl | hp
      · simp
      · exact ih p hp
    · unfold pcs at hp
      rw [spA, if_neg h] at hp
      rcases List.mem_cons.mp hp with rfl | hp
      · have h32 : c ≠ 32 := fun e => h (by rw [e]; rfl)
        have := ih _ (show (spA r).1 ∈ pcs r from List.mem_cons_self)
        intro hm
        rcases List.mem_cons.mp hm with e | hm
        · exact h32 e.symm
        · exact this hm
      · exact ih p (List.mem_cons_of_mem _ hp)
def blank (d : Nat) : Nat := if sepB d = true then 32 else d
def mkS (l : List Nat) : Str := ⟨l.toArray⟩
theorem str_app (a b : Str) : (a ++ b).cps.toList = a.cps.toList ++ b.cps.toList := by
  show (a.cps ++ b.cps).toList = _
  exact Array.toList_append
theorem join_cons (y x : Str) (r : List Str) (h : r ≠ []) : Str.join y (x :: r) = x ++ y ++ Str.join y r := by
  cases r with
  | nil => exact absurd rfl h
  | cons z r => rfl
theorem join_pcs : ∀ l : List Nat, (Str.join spc ((pcs l).map mkS)).cps.toList = l.map blank
  | [] => by simp [pcs, spA, Str.join, mkS]
  | c :: r => by
    have ih := join_pcs r
    have hsp : spc.cps.toList = [32] := by decide +kernel
    by_cases h : sepB c = true
    · rw [pcs_sep h, List.map_cons, join_cons _ _ _ (by simp [pcs]), str_app, str_app, hsp, ih]
      simp [mkS, blank, h]
    · have e : pcs (c :: r) = (c :: (spA r).1) :: (spA r).2 := by unfold pcs; rw [spA, if_neg h]
      have e2 : pcs r = (spA r).1 :: (spA r).2 := rfl
      rw [e2] at ih
      rw [e, List.map_cons]
      rw [List.map_cons] at ih
      by_cases h0 : (spA r).2.map mkS = []
      · rw [h0] at ih ⊢
        have ih' : (mkS (spA r).1).cps.toList = r.map blank := ih
        show (mkS (c :: (spA r).1)).cps.toList = _
        simp [mkS] at ih'
        simp [mkS, blank, h, ih']
      · rw [join_cons _ _ _ h0, str_app] at ih ⊢
        rw [str_app] at ih ⊢
        have e3 : (mkS (c :: (spA r).1)).cps.toList = c :: (mkS (spA r).1).cps.toList := by simp [mkS]
        rw [e3, List.cons_append, List.cons_append, ih, List.map_cons]
        simp [blank, h]
theorem sg_list : ("()," : Str).cps.toList = [40, 41, 44] := by decide +kernel
theorem blank_all (w : Str) : (repAll 32 [40, 41, 44] w).cps.toList = w.cps.toList.map blank := by
  show (repC 44 32 (repC 41 32 (repC 40 32 w))).cps.toList = _
  simp only [repC, repN, List.toList_toArray, List.map_map]
  refine List.map_congr_left fun d _ => ?_
  show (if (if (if d = 40 then 32 else d) = 41 then 32 else (if d = 40 then 32 else d)) = 44 then 32 else (if (if d = 40 then 32 else d) = 41 then 32 else (if d = 40 then 32 else d))) = blank d
  by_cases h0 : d = 40
  · subst h0; rfl
  · by_cases h1 : d = 41
    · subst h1; rfl
    · by_cases h2 : d = 44
      · subst h2; rfl
      · by_cases h3 : d = 32
        · subst h3; rfl
        · simp [h0, h1, h2, blank, sepB, h3]
theorem split_blank (w : Str) : Txt.split (repAll 32 [40, 41, 44] w) spc = (pcs w.cps.toList).map mkS := by
  have e : repAll 32 [40, 41, 44] w = Str.join spc ((pcs w.cps.toList).map mkS) := DL.str_of_list (by rw [blank_all, join_pcs])
  rw [e, ← TL.join_eq]
  refine TL.split_join (s := 32) (S := []) (by decide +kernel) (by decide +kernel) (by simp [pcs]) fun p hp => ?_
  obtain ⟨q, hq, rfl⟩ := List.mem_map.mp hp
  have := pcs_no _ q hq
  simpa [mkS] using this
/-- the words of a text -/
def wdsS (w : Str) : List Str := (wl w.cps.toList).map mkS
theorem wdsS_eq (w : Str) : (Txt.split (repAll 32 [40, 41, 44] w) spc).filter (fun x => !decide (x = ("" : Str))) = wdsS w := by
  rw [split_blank, List.filter_map]
  unfold wdsS
  rw [← pcs_words]
  congr 1
  refine List.filter_congr fun p _ => ?_
  show (!decide (mkS p = ("" : Str))) = !p.isEmpty
  congr 1
  have he : ("" : Str) = mkS [] := by decide +kernel
  rw [he]
  cases p with
  | nil => simp
  | cons c p => simp [mkS]
theorem words_ok {w : Str} (hl : w.length ≤ 10 ^ 5) (S : Sto) : F__law_words [.str w] S = .ok (.fl ((wdsS w).map D.str)) S := by
  refine fnC_rt rfl ?_ rfl
  have hst : startD 3 [D.str w] = [some (.str w), none, none] := rfl
  rw [hst]
  unfold B__law_words
  obtain ⟨u, hu⟩ : ∃ u, u = repAll 32 [40, 41, 44] w := ⟨_, rfl⟩
  have ul : u.length = w.length := by rw [hu, repAll_len]
  have rp : sRepl 0 1 "()," 32 [some (.str w), none, none] S = .nx [some (.str u), some (.str ⟨#[44]⟩), none] S := by
    unfold sRepl
    rw [sg_list]
    show (ifp (1 < 3 ∧ w.length + (w.length + 1) * 1 ≤ 16777216) _ _ : SR) = _
    rw [ifp_pos ⟨by omega, by omega⟩, ← hu]
    rfl
  have sl : ∀ S, mSplit mkFl (.str u) [.str " "] S = .ok (.fl ((Txt.split u spc).map D.str)) S := fun S => by
    show ifp ((spc.length == 0) = false ∧ u.length + 2 ≤ sizeLine) (mkFl ((Txt.split u spc).map D.str) S) .stuck = _
    rw [ifp_pos ⟨by decide, by rw [ul]; exact Nat.le_trans (show w.length + 2 ≤ 10 ^ 6 by omega) (by decide)⟩]
    rfl
  have is1 : ∀ S, isStr S (.str u) = true := fun S => rfl
  have lp : ((Txt.split u spc).map D.str).length ≤ sizeLine := by
    rw [hu, split_blank, List.length_map, List.length_map]
    have : ∀ l : List Nat, (pcs l).length ≤ l.length + 1 := fun l => by
      induction l with
      | nil => simp [pcs, spA]
      | cons c r ih =>
        by_cases h : sepB c = true
        · rw [pcs_sep h]; simp; omega
        · have : (pcs (c :: r)).length = (pcs r).length := by unfold pcs; rw [spA, if_neg h]; simp
          rw [this]; simp; omega
    have h2 := this w.cps.toList
    have h3 : w.cps.toList.length = w.length := by simp [Str.length]
    exact Nat.le_trans (show _ ≤ 10 ^ 6 by omega) (by decide)
  have key := eLc_pure (src := iSeq (eMt isStr (mSplit mkFl) (eVar 0) (aCons (eC (.str " ")) aNil))) (T := tN 2) (vs := [2]) (c := Q1__law_words) (f := E1__law_words) (ρ := [some (.str u), some (.str ⟨#[44]⟩), none]) (S := S) ((Txt.split u spc).map D.str) (fun d => [some (.str u), some (.str ⟨#[44]⟩), some d]) (fun d => match d with
    | .str x => !decide (x = ("" : Str))
    | _ => false) (fun d => d) (by
      generalize (Txt.split u spc).map D.str = Q at *
      simp! [is1, sl]) (by
      intro d hd S'
      obtain ⟨x, _, rfl⟩ := List.mem_map.mp hd
      have q : ∀ S, dEq true (.str x) (.str "") S = .ok (.bl (!decide (x = ("" : Str)))) S := fun S => dEq_str ..
      refine ⟨rfl, ?_, fun _ => rfl⟩
      simp! [Q1__law_words, q]) lp (by
      intro d hd _
      obtain ⟨x, _, rfl⟩ := List.mem_map.mp hd
      rfl)
  have ek : (((Txt.split u spc).map D.str).filter fun d => match d with
    | .str x => !decide (x = ("" : Str))
    | _ => false).map (fun d => d) = (wdsS w).map D.str := by
    rw [List.map_id', List.filter_map, ← wdsS_eq, ← hu]
    rfl
  rw [ek] at key
  generalize eLc finFl (iSeq (eMt isStr (mSplit mkFl) (eVar 0) (aCons (eC (.str " ")) aNil))) (tN 2) [2] Q1__law_words E1__law_words = LC at *
  simp! [rp, key]
abbrev Wl (s : Str) : List (List Nat) := wl s.cps.toList
theorem lt_sep {w : Str} (h : ltS w) : ∀ c ∈ w.cps.toList, sepB c = false := fun c hc => by
  have := h c hc
  have e1 : (c == 32) = false := by rw [beq_eq_false_iff_ne]; omega
  have e2 : (c == 40) = false := by rw [beq_eq_false_iff_ne]; omega
  have e3 : (c == 41) = false := by rw [beq_eq_false_iff_ne]; omega
  have e4 : (c == 44) = false := by rw [beq_eq_false_iff_ne]; omega
  simp [sepB, e1, e2, e3, e4]
theorem wl_name {w : Str} (h : ltS w) (h0 : w.cps.toList ≠ []) : Wl w = [w.cps.toList] := wl_word (lt_sep h) h0
theorem cm_list : cm.cps.toList = [44, 32] := by decide +kernel
theorem po_list : po.cps.toList = [40] := by decide +kernel
theorem pc_list : pc.cps.toList = [41] := by decide +kernel
theorem spc_list : spc.cps.toList = [32] := by decide +kernel
theorem wl_joinc : ∀ ps : List Str, Wl (Str.join cm ps) = (ps.map Wl).flatten
  | [] => rfl
  | [x] => by
    show Wl x = _
    simp
  | x :: y :: r => by
    have ih := wl_joinc (y :: r)
    show wl (x ++ cm ++ Str.join cm (y :: r)).cps.toList = _
    rw [str_app, str_app, cm_list, List.append_assoc]
    show wl (x.cps.toList ++ 44 :: 32 :: (Str.join cm (y :: r)).cps.toList) = _
    rw [wl_sep (by rfl), wl_cons (by rfl), List.map_cons, List.flatten_cons]
    exact congrArg _ ih
theorem wl_joins : ∀ ps : List Str, Wl (Str.join spc ps) = (ps.map Wl).flatten
  | [] => rfl
  | [x] => by
    show Wl x = _
    simp
  | x :: y :: r => by
    have ih := wl_joins (y :: r)
    show wl (x ++ spc ++ Str.join spc (y :: r)).cps.toList = _
    rw [str_app, str_app, spc_list, List.append_assoc]
    show wl (x.cps.toList ++ 32 :: (Str.join spc (y :: r)).cps.toList) = _
    rw [wl_sep (by rfl), List.map_cons, List.flatten_cons]
    exact congrArg _ ih
theorem wl_term {nm : Str} (h : ltS nm) (h0 : nm.cps.toList ≠ []) (ps : List Str) : Wl (term nm ps) = nm.cps.toList :: (ps.map Wl).flatten := by
  have hn := wl_name h h0
  unfold term
  by_cases hp : ps.isEmpty = true
  · rw [if_pos hp, List.isEmpty_iff.mp hp]
    exact hn
  · rw [if_neg hp]
    show wl (nm ++ (po ++ Str.join cm ps ++ pc)).cps.toList = _
    rw [str_app, str_app, str_app, po_list, pc_list]
    show wl (nm.cps.toList ++ 40 :: ((Str.join cm ps).cps.toList ++ 41 :: [])) = _
    rw [wl_sep (by rfl), wl_sep (by rfl), wl_nil, List.append_nil]
    have e : wl (Str.join cm ps).cps.toList = (ps.map Wl).flatten := wl_joinc ps
    have hn' : wl nm.cps.toList = [nm.cps.toList] := hn
    rw [e, hn']; rfl
def Nms (z : List (Int × Str)) : Prop := ∀ q ∈ z, ltS q.2 ∧ q.2.cps.toList ≠ []
theorem wl_fold : ∀ (z : List (Int × Str)) (f : List Str), Nms z → ((z.foldl tstk f).map Wl).flatten.Perm ((f.map Wl).flatten ++ z.map fun q => q.2.cps.toList)
  | [], f, _ => by simp
  | q :: z, f, h => by
    have ih := wl_fold z (tstk f q) fun x hx => h x (List.mem_cons_of_mem _ hx)
    obtain ⟨h1, h2⟩ := h q List.mem_cons_self
    show ((z.foldl tstk (tstk f q)).map Wl).flatten.Perm _
    refine ih.trans ?_
    have e : ((tstk f q).map Wl).flatten.Perm ((f.map Wl).flatten ++ [q.2.cps.toList]) := by
      unfold tstk
      obtain ⟨k, hk⟩ : ∃ k, k = f.length - q.1.toNat := ⟨_, rfl⟩
      rw [← hk, List.map_append, List.flatten_append, List.map_cons, List.map_nil, List.flatten_cons, List.flatten_nil, List.append_nil, wl_term h1 h2]
      refine List.perm_middle.trans ?_
      rw [← List.flatten_append, ← List.map_append, List.take_append_drop]
      exact (List.perm_append_singleton _ _).symm
    rw [List.map_cons]
    have := e.append_right (z.map fun q => q.2.cps.toList)
    rw [List.append_assoc] at this
    exact this
theorem wl_tms {z : List (Int × Str)} (h : Nms z) : ((tms z).map Wl).flatten.Perm (z.map fun q => q.2.cps.toList) := by
  have := wl_fold z [] h
  simpa [tms] using this
theorem mkS_cps (w : Str) : mkS w.cps.toList = w := by cases w; rfl
/-- all words of the terms, one after the other, are the names in some order -/
theorem words_perm {z : List (Int × Str)} (h : Nms z) : (wdsS (Str.join spc (tms z))).Perm (z.map (·.2)) := by
  unfold wdsS
  have e : wl (Str.join spc (tms z)).cps.toList = ((tms z).map Wl).flatten := wl_joins _
  rw [e]
  have := (wl_tms h).map mkS
  rw [List.map_map] at this
  have e2 : z.map (mkS ∘ fun q => q.2.cps.toList) = z.map (·.2) := List.map_congr_left fun q _ => mkS_cps q.2
  rwa [e2] at this
/-- the first word of a text -/
def hdS (w : Str) : Str := (wdsS w).headD spc
theorem last_head {z : List (Int × Str)} {q : Int × Str} (h : Nms (z ++ [q])) : ∃ f t r, tms (z ++ [q]) = f ++ [t] ∧ wdsS t = q.2 :: r := by
  obtain ⟨h1, h2⟩ := h q (by simp)
  rw [tms_snoc]
  refine ⟨_, _, (((tms z).drop ((tms z).length - q.1.toNat)).map Wl).flatten.map mkS, rfl, ?_⟩
  unfold wdsS
  have := wl_term h1 h2 ((tms z).drop ((tms z).length - q.1.toNat))
  have e : wl (term q.2 ((tms z).drop ((tms z).length - q.1.toNat))).cps.toList = q.2.cps.toList :: (((tms z).drop ((tms z).length - q.1.toNat)).map Wl).flatten := this
  rw [e, List.map_cons, mkS_cps]
/-- each term has a first word -/
theorem has_head {z : List (Int × Str)} (h : Nms z) : ∀ t ∈ tms z, wdsS t = hdS t :: (wdsS t).tail := by
  have key : ∀ (z : List (Int × Str)) (f : List Str), Nms z → (∀ t ∈ f, wdsS t ≠ []) → ∀ t ∈ z.foldl tstk f, wdsS t ≠ [] := by
    intro z
    induction z with
    | nil => exact fun f _ hf => hf
    | cons q z ih =>
      intro f hz hf
      refine ih (tstk f q) (fun x hx => hz x (List.mem_cons_of_mem _ hx)) fun t ht => ?_
      obtain ⟨h1, h2⟩ := hz q List.mem_cons_self
      unfold tstk at ht
      rcases List.mem_append.mp ht with ht | ht
      · exact hf t (List.mem_of_mem_take ht)
      · rw [List.mem_singleton.mp ht]
        unfold wdsS
        have e : wl (term q.2 (f.drop (f.length - q.1.toNat))).cps.toList = q.2.cps.toList :: ((f.drop (f.length - q.1.toNat)).map Wl).flatten := wl_term h1 h2 _
        rw [e]; simp
  intro t ht
  have := key z [] h (by simp) t ht
  unfold hdS
  cases hw : wdsS t with
  | nil => exact absurd hw this
  | cons x r => rfl
theorem pyL_strs (l : List Str) : pyL (l.map D.str) = some (l.map PyData.str) := by
  induction l with
  | nil => rfl
  | cons i l ih => simp [pyL, py, ih]
theorem depthAll_strs (l : List Str) : PyData.depthAll (l.map PyData.str) = 0 := by
  induction l with
  | nil => rfl
  | cons i l ih => simp [PyData.depthAll, PyData.depth, ih]
theorem canLay_strs : ∀ (l : List Str), (∀ w ∈ l, PyData.strOk w = true) → PyData.canLayAll0 (l.map PyData.str) = true
  | [], _ => rfl
  | i :: l, h => by
    have ih := canLay_strs l fun w hw => h w (List.mem_cons_of_mem _ hw)
    simp [PyData.canLayAll0, PyData.canLay0, ih, h i List.mem_cons_self]
theorem shaped_strs (l : List Str) (h : ∀ w ∈ l, PyData.strOk w = true) : SeqAt.shaped (.list (l.map PyData.str)) = true := by
  simp [SeqAt.shaped, PyData.canLay0, canLay_strs l h, PyData.depth, depthAll_strs]
theorem eqv_strs (l : List Str) : PyData.eqvAll (l.map PyData.str) (l.map PyData.str) = true := by
  induction l with
  | nil => simp [PyData.eqvAll]
  | cons i l ih => simp [PyData.eqvAll, PyData.eqv, ih]
theorem ne_strs (l : List Str) (hl : ∀ w ∈ l, PyData.strOk w = true) (S : Sto) : dEq true (.fl (sD l)) (.fl (sD l)) S = .ok (.bl false) S := by
  have h : pyS S (.fl (sD l)) = some (.list (l.map PyData.str)) := by
    show (pyL (l.map D.str)).map PyData.list = _
    rw [pyL_strs]; rfl
  show dEqP true (.fl (sD l)) (.fl (sD l)) S = _
  rw [dEqP_py h h (shaped_strs _ hl) (shaped_strs _ hl)]
  simp [PyData.eqv, eqv_strs]
theorem ready_pos {S : Sto} {n : Nat} {rest : Sto} (h : Strm S n rest) (hn : n + 40 < 2 ^ 60) : ∃ (r : List Int) (S' : Sto), F__law_ready [.loc 1, .int 24] S = .ok (ti r) S' ∧ r ≠ [] ∧ r.length ≤ 24 ∧ (∀ t ∈ r, Arity t) ∧ 1 ≤ ht r ∧ Strm S' (n + 40) rest := by
  have sA := h.app [.lst []]
  have hlen : S.length = rest.length + 2 := h.len
  obtain ⟨g, S1, g1, g2, g3, s1⟩ := draw_ok sA (m := 5) (by decide) (by decide) (by omega)
  obtain ⟨z, S2, z1, z2, z3, s2⟩ := draw_ok s1 (m := 24) (by decide) (by decide) (by omega)
  obtain ⟨size, hsz⟩ : ∃ size : Nat, 1 + z = (size : Int) := ⟨(1 + z).toNat, by omega⟩
  have hr : ((-(2 ^ 62) : Int) ≤ (size : Int) ∧ (size : Int) < 2 ^ 62) = True := by simp; omega
  obtain ⟨ρ', S3, ⟨r, s3, l3, r3, sz, hs0, hs1, x5, rfl⟩, hf⟩ := forD_all (T := tN 5) (B := L1__law_ready) (Z := sNil) (fun i ρ S => ∃ r : List Int, Strm S (n + 2 + i) (rest ++ [.lst (r.map D.int)]) ∧ r.length = i ∧ (∀ t ∈ r, Arity t) ∧ ∃ sz : Int, ht r = sz ∧ (r = [] ∧ sz = 0 ∨ 1 ≤ sz) ∧ ∃ x5, ρ = [some (.loc 1), some (.int 24), some (.loc (rest.length + 2)), some (.int sz), some (.int (1 + g)), x5])
    (rangeD 0 size) 0 [some (.loc 1), some (.int 24), some (.loc (rest.length + 2)), some (.int 0), some (.int (1 + g)), none] S2 ⟨[], s2, rfl, by simp, 0, rfl, .inl ⟨rfl, rfl⟩, none, rfl⟩ (by
      rintro j d ρ S' hj ⟨r, sj, lj, rj, sz, hs0, hs1, x5, rfl⟩
      obtain ⟨hj', rfl⟩ := rangeD_get hj
      rw [Nat.zero_add] at sj lj ⊢
      have hsz0 : 0 ≤ sz := by rcases hs1 with h | h <;> omega
      obtain ⟨t, S'', t1, t2, t3, t4⟩ := ready_step sj (by omega) hsz0 (show 1 ≤ 1 + g by omega) (by omega) (by omega) (some (.int 24)) (some (.int (0 + (j : Int))))
      refine ⟨_, _, _, S'', rfl, .inl t3, r ++ [t], t4, by simp; omega, ?_, sz + 1 - t, ?_, .inr (by omega), _, rfl⟩
      · intro x hx
        rcases List.mem_append.mp hx with hx | hx
        · exact rj x hx
        · rw [List.mem_singleton.mp hx]; exact t1
      · rw [ht_eq] at hs0 ⊢
        simp [List.sum_append]
        omega)
  rw [rangeD_len, Nat.zero_add] at l3 s3
  have tp : bTuple [.loc (rest.length + 2)] S3 = .ok (ti r) S3 := bTuple_loc s3.getQ_end
  have hst : startD 6 [D.loc 1, .int 24] = [some (.loc 1), some (.int 24), none, none, none, none] := rfl
  have key := fnC_strm (n := 6) (m := 2) (B := B__law_ready) (ds := [D.loc 1, .int 24]) (S := S) (S6 := S3) (d := ti r) h (l := [.lst (r.map D.int)]) s3 (by simp) rfl ?_ (by show lowL _ _ = true; exact lowL_ints _ _)
  · have hne : r ≠ [] := fun hc => by rw [hc] at l3; simp at l3; omega
    have h1 : 1 ≤ ht r := by
      rcases hs1 with h | h
      · exact absurd h.1 hne
      · omega
    exact ⟨r, _, key.1, hne, by omega, r3, h1, key.2.mono (by omega)⟩
  · rw [hst]
    unfold B__law_ready
    simp! [hlen, g1, z1, hsz, hr, Int.toNat_natCast, hf, tp]
theorem begun_pos {S : Sto} {n : Nat} {rest : Sto} (h : Strm S n rest) (hn : n + 41 < 2 ^ 60) : ∃ (r : List Int) (S' : Sto), F__law_begun [.loc 1, .int 24] S = .ok (ti r) S' ∧ r ≠ [] ∧ r.length ≤ 24 ∧ (∀ t ∈ r, Arity t) ∧ begs r ≠ [] ∧ Strm S' (n + 41) rest := by
  obtain ⟨r, S1, r1, r2, r3, r4, r5, s1⟩ := ready_pos h (by omega)
  have l0 := List.length_pos_iff.mpr r2
  obtain ⟨z, S2, z1, z2, z3, s2⟩ := draw_ok s1 (m := (r.length : Int)) (by omega) (log2_small 8 (by omega) (by decide) (by decide)) (by omega)
  obtain ⟨p, rfl⟩ : ∃ p : Nat, z = (p : Int) := ⟨z.toNat, by omega⟩
  have fr := from_ok r p (by omega) (by omega)
  have hrl := DL.rot_length r p (by omega)
  refine ⟨rot r p, S2, ?_, fun hc => ?_, by omega, fun t ht => r4 t (rot_mem ht), fun hc => ?_, s2⟩
  · refine fnC_rt rfl ?_ (by rw [s2.len, h.len])
    unfold B__law_begun
    simp! [r1, ti_len, z1, fr]
  · rw [hc] at hrl; simp at hrl; omega
  · have bc := begs_count (l := rot r p) fun t ht => (r4 t (rot_mem ht)).1
    have sm : (rot r p).sum = r.sum := by
      unfold rot
      rw [List.sum_append]
      have := congrArg List.sum (List.take_append_drop p r)
      rw [List.sum_append] at this
      omega
    rw [hc, hrl, sm] at bc
    rw [ht_eq] at r5
    simp at bc
    omega
def lett (k : Nat) : Str := ⟨#[97 + k]⟩
def nmK (k : Nat) : Str := Txt.mul (lett k) (1 + (k : Int) % 8)
def nmB (k : Nat) : Bool := (nmK k).cps.toList.all (fun c => decide (97 ≤ c ∧ c ≤ 122)) && (!(nmK k).cps.toList.isEmpty && decide ((nmK k).length ≤ 8))
theorem nm_all : ∀ k, k < 24 → nmB k = true := by decide +kernel
theorem nm_ok {k : Nat} (h : k < 24) : ltS (nmK k) ∧ (nmK k).cps.toList ≠ [] ∧ (nmK k).length ≤ 8 := by
  have := nm_all k h
  simp only [nmB, Bool.and_eq_true, decide_eq_true_eq, List.all_eq_true, Bool.not_eq_true'] at this
  refine ⟨fun c hc => this.1 c hc, fun e => ?_, this.2.2⟩
  rw [e] at this
  exact absurd this.2.1 (by simp)
def nmsL (n : Nat) : List Str := (List.range n).map nmK
theorem abc_at : ∀ k, k < 24 → abc.cps.toList[k]? = some (97 + k) := by decide +kernel
theorem abc_ix {k : Nat} (h : k < 24) (S : Sto) : dIx (.str "abcdefghijklmnopqrstuvwxyz") (.int (k : Int)) S = .ok (.str (lett k)) S := by
  have e : dIx (.str abc) (.int (k : Int)) S = ifp (abc.length ≤ sizeLine) (match atI abc.cps.toList (k : Int) with
    | some c => .ok (.str ⟨#[c]⟩) S
    | none => .stuck) .stuck := rfl
  have hl : abc.cps.toList.length = 26 := by decide +kernel
  have ha : atI abc.cps.toList (k : Int) = some (97 + k) := by
    rw [atI_nn (by omega) (by rw [hl]; omega)]
    simpa using abc_at k h
  show dIx (.str abc) (.int (k : Int)) S = _
  rw [e, ifp_pos (by decide +kernel), ha]
  rfl
theorem mul_ok {k : Nat} (h : k < 24) (S : Sto) : dMulS (.str (lett k)) (.int (1 + (k : Int) % 8)) S = .ok (.str (nmK k)) S := by
  show ifp (PySem.MulOk (lett k) (1 + (k : Int) % 8)) (R.ok (D.str (Txt.mul (lett k) (1 + (k : Int) % 8))) S) .stuck = _
  have hl : (lett k).length = 1 := rfl
  rw [ifp_pos (by
    unfold PySem.MulOk
    rw [hl]
    refine ⟨?_, fun _ _ => ?_, fun _ _ => ?_⟩
    · rw [Bool.or_eq_false_iff]
      exact ⟨decide_eq_false (by omega), decide_eq_false (by omega)⟩
    · have : (2 ^ 63 - 1 : Int) / (1 + (k : Int) % 8) ≥ 1 := by
        have h8 : 1 + (k : Int) % 8 ≤ 8 := by omega
        have h1 : 0 < 1 + (k : Int) % 8 := by omega
        exact (Int.le_ediv_iff_mul_le h1).mpr (by omega)
      omega
    · unfold Builtin.Str.tooLong
      exact decide_eq_false (by have : (8 : Nat) ≤ sizeLine := by decide
                                omega))]
  rfl
theorem nms_lc {n : Nat} (hn : n ≤ 24) (ρ : Ev) (S : Sto) (l : List Int) (hl : l.length = n) (h3 : ρ[3]? = some (some (ti l))) (h12 : ρ.length = 12) :
    eLc finFl (iRange1 (aCons (eCall bLen (aCons (eVar 3) aNil)) aNil)) (tN 4) [4] cYes E1_law ρ S = .ok (.fl (sD (nmsL n))) S := by
  have ln : ∀ S, bLen [ti l] S = .ok (.int (n : Int)) S := fun S => by
    show R.ok (D.int ((l.map D.int).length : Nat)) S = _
    rw [List.length_map, hl]
  have hr : ((-(2 ^ 62) : Int) ≤ (n : Int) ∧ (n : Int) < 2 ^ 62) = True := by simp; omega
  have key := eLc_pure (src := iRange1 (aCons (eCall bLen (aCons (eVar 3) aNil)) aNil)) (T := tN 4) (vs := [4]) (c := cYes) (f := E1_law) (ρ := ρ) (S := S) (rangeD 0 n) (fun d => (wipeD ρ [4]).set 4 (some d)) (fun _ => true) (fun d => match d with
    | .int k => .str (nmK k.toNat)
    | _ => .non) (by
      generalize ti l = L at *
      simp! [h3, ln, hr, Int.toNat_natCast]) (by
      intro d hd S'
      obtain ⟨j, hj⟩ := List.mem_iff_getElem?.mp hd
      obtain ⟨hj', rfl⟩ := rangeD_get hj
      rw [Int.zero_add]
      have w4 : ((wipeD ρ [4]).set 4 (some (.int (j : Int))))[4]? = some (some (.int (j : Int))) := by
        have hw : (wipeD ρ [4]).length = 12 := by simp [wipeD, h12]
        rw [List.getElem?_set_self (by rw [hw]; omega)]
      have ix := abc_ix (show j < 24 by omega)
      have mu := mul_ok (show j < 24 by omega)
      have md : ∀ S, dMod (.int (j : Int)) (.int 8) S = .ok (.int ((j : Int) % 8)) S := fun S => rfl
      refine ⟨rfl, rfl, fun _ => ?_⟩
      show E1_law _ _ = .ok (.str (nmK (j : Int).toNat)) S'
      rw [Int.toNat_natCast]
      generalize (wipeD ρ [4]).set 4 (some (.int (j : Int))) = P at *
      generalize lett j = LJ at *
      simp! [E1_law, w4, ix, md, mu]) (by rw [rangeD_len]; exact Nat.le_trans (show n ≤ 10 ^ 6 by omega) (by decide)) (by
      intro d hd _
      obtain ⟨j, hj⟩ := List.mem_iff_getElem?.mp hd
      obtain ⟨hj', rfl⟩ := rangeD_get hj
      rfl)
  rw [key, List.filter_eq_self.mpr (fun _ _ => rfl)]
  congr 2
  unfold nmsL sD
  rw [List.map_map]
  refine List.ext_getElem? fun i => ?_
  rw [List.getElem?_map, List.getElem?_map]
  by_cases hi : i < n
  · rw [List.getElem?_range hi]
    have : (rangeD 0 n)[i]? = some (.int (i : Int)) := by
      have h1 : i < (rangeD 0 n).length := by rw [rangeD_len]; exact hi
      have h2 := List.getElem?_eq_getElem h1
      obtain ⟨_, e⟩ := rangeD_get h2
      rw [h2, e, Int.zero_add]
    rw [this]
    simp
  · rw [List.getElem?_eq_none (by rw [rangeD_len]; omega), List.getElem?_eq_none (by rw [List.length_range]; omega)]
    rfl
def gN (ns : List Str) (b : Nat) : Str := (rot ns b).getLastD spc
theorem getLastD_app {α : Type} (x : List α) (a d : α) : (x ++ [a]).getLastD d = a := by
  cases x with
  | nil => rfl
  | cons c x =>
    have : ∀ (y : List α) (h : y ++ [a] ≠ []), (y ++ [a]).getLast h = a := fun y h => by simp
    exact this (c :: x) (by simp)
theorem gN_pos {ns : List Str} {b : Nat} (h0 : 0 < b) (hb : b ≤ ns.length) : gN ns b = ns.getD (b - 1) spc := by
  obtain ⟨c, rfl⟩ : ∃ c, b = c + 1 := ⟨b - 1, by omega⟩
  have hx : ns[c]? = some ns[c] := List.getElem?_eq_getElem (by omega)
  have et : ns.take (c + 1) = ns.take c ++ [ns[c]] := by
    rw [List.take_succ, hx]; rfl
  unfold gN rot
  rw [Nat.add_sub_cancel, et, ← List.append_assoc, getLastD_app, List.getD_eq_getElem?_getD, hx]; rfl
theorem gN_zero {ns : List Str} (h0 : 0 < ns.length) : gN ns 0 = ns.getD (ns.length - 1) spc := by
  have hx : ns[ns.length - 1]? = some ns[ns.length - 1] := List.getElem?_eq_getElem (by omega)
  have et : ns = ns.take (ns.length - 1) ++ [ns[ns.length - 1]] := by
    have h := List.take_length (l := ns)
    have : ns.take ((ns.length - 1) + 1) = ns.take (ns.length - 1) ++ [ns[ns.length - 1]] := by rw [List.take_succ, hx]; rfl
    rw [show (ns.length - 1) + 1 = ns.length by omega, h] at this
    exact this
  have e1 : gN ns 0 = ns.getLastD spc := by unfold gN; rw [rot_zero]
  have e2 : ns.getLastD spc = ns[ns.length - 1] := by
    have := getLastD_app (ns.take (ns.length - 1)) ns[ns.length - 1] spc
    rwa [← et] at this
  rw [e1, e2, List.getD_eq_getElem?_getD, hx]; rfl
theorem sD_get {ns : List Str} {i : Nat} (h : i < ns.length) : (sD ns)[i]? = some (.str (ns.getD i spc)) := by
  unfold sD
  rw [List.getElem?_map, List.getElem?_eq_getElem h, List.getD_eq_getElem?_getD, List.getElem?_eq_getElem h]; rfl
theorem sD_len (ns : List Str) : (sD ns).length = ns.length := List.length_map ..
theorem gN_at {ns : List Str} {b : Nat} (hb : b < ns.length) : atI (sD ns) ((b : Int) - 1) = some (.str (gN ns b)) := by
  by_cases h0 : b = 0
  · subst h0
    have hx : ns[ns.length - 1]? = some ns[ns.length - 1] := List.getElem?_eq_getElem (by omega)
    have et : ns = ns.take (ns.length - 1) ++ [ns[ns.length - 1]] := by
      have : ns.take ((ns.length - 1) + 1) = ns.take (ns.length - 1) ++ [ns[ns.length - 1]] := by rw [List.take_succ, hx]; rfl
      rw [show (ns.length - 1) + 1 = ns.length by omega, List.take_length] at this
      exact this
    have e : sD ns = sD (ns.take (ns.length - 1)) ++ [.str (gN ns 0)] := by
      have hg : gN ns 0 = ns[ns.length - 1] := by rw [gN_zero hb, List.getD_eq_getElem?_getD, hx]; rfl
      rw [hg]
      have := congrArg sD et
      rw [this]
      unfold sD
      rw [List.map_append]; rfl
    rw [e]
    exact at_last _ _
  · have hb1 : (b : Int) - 1 = ((b - 1 : Nat) : Int) := by omega
    rw [hb1, atI_nn (by omega) (by rw [sD_len]; omega), gN_pos (by omega) (by omega)]
    simpa using sD_get (ns := ns) (i := b - 1) (by omega)
theorem zp_last {l : List Int} {ns : List Str} (h : Rn l ns) {b : Nat} (hb : b < l.length) : ∃ z t, zp l ns b = z ++ [(t, gN ns b)] := by
  obtain ⟨l1, l2⟩ := h.l2 hb
  have p := h.pos
  have n1 : rot l b ≠ [] := fun e => by rw [e] at l1; simp at l1; omega
  have n2 : rot ns b ≠ [] := fun e => by rw [e] at l2; simp at l2; omega
  have e1 := (List.dropLast_concat_getLast n1).symm
  have e2 := (List.dropLast_concat_getLast n2).symm
  have eg : gN ns b = (rot ns b).getLast n2 := by
    unfold gN
    have := getLastD_app (rot ns b).dropLast ((rot ns b).getLast n2) spc
    rwa [← e2] at this
  refine ⟨(rot l b).dropLast.zip (rot ns b).dropLast, (rot l b).getLast n1, ?_⟩
  rw [eg]
  unfold zp
  have := List.zip_append (l₁ := (rot l b).dropLast) (l₂ := (rot ns b).dropLast) (r₁ := [(rot l b).getLast n1]) (r₂ := [(rot ns b).getLast n2]) (by rw [List.length_dropLast, List.length_dropLast]; omega)
  rw [← e1, ← e2] at this
  exact this
theorem nms_zp {l : List Int} {ns : List Str} (hn : ∀ x ∈ ns, ltS x ∧ x.cps.toList ≠ []) (b : Nat) : Nms (zp l ns b) := fun q hq => hn _ (rot_mem (List.of_mem_zip hq).2)
section
variable {l : List Int} {ns : List Str} {a : Nat} {bs : List Nat}
theorem tms_count (h : Rn l ns) (e : begs l = a :: bs) : (tms (zp l ns a)).length = (begs l).length := by
  have ma : a ∈ begs l := by rw [e]; exact List.mem_cons_self
  obtain ⟨ha, na⟩ := mem_begs.mp ma
  have za := h.zs ha na
  have h1 := (za.hts (zp l ns a).length (Nat.le_refl _)).1
  have em : (zp l ns a).map (·.1) = rot l a := by
    obtain ⟨l1, l2⟩ := h.l2 ha
    unfold zp
    exact List.map_fst_zip (by omega)
  rw [List.take_length, em, List.take_of_length_le (by unfold zp; rw [List.length_zip]; have := h.l2 ha; omega)] at h1
  have h2 := begs_rd na (fun t ht => (h.ar t (rot_mem ht)).1)
  rw [← h2, begs_shift e ha, List.length_map] at h1
  omega
theorem last_eq (h : Rn l ns) (hn : ∀ x ∈ ns, ltS x ∧ x.cps.toList ≠ []) (e : begs l = a :: bs) {j b : Nat} (hj : (begs l)[j]? = some b) :
    ∃ f t r, (tms (zp l ns a)).drop j ++ (tms (zp l ns a)).take j = f ++ [t] ∧ wdsS t = gN ns b :: r := by
  have mb : b ∈ begs l := List.mem_of_getElem? hj
  obtain ⟨hb, nb⟩ := mem_begs.mp mb
  obtain ⟨z, t0, ez⟩ := zp_last h hb
  have nz := nms_zp (l := l) hn b
  rw [ez] at nz
  obtain ⟨f, t, r, h1, h2⟩ := last_head nz
  refine ⟨f, t, r, ?_, h2⟩
  rw [← tms_turn h e hj, ez]
  exact h1
theorem heads_rot (h : Rn l ns) (hn : ∀ x ∈ ns, ltS x ∧ x.cps.toList ≠ []) (e : begs l = a :: bs) :
    ((tms (zp l ns a)).drop ((begs l).length - 1) ++ (tms (zp l ns a)).take ((begs l).length - 1)).map hdS = (begs l).map (gN ns) := by
  obtain ⟨F, hF⟩ : ∃ F, F = tms (zp l ns a) := ⟨_, rfl⟩
  have hc := tms_count h e
  rw [← hF] at hc ⊢
  have hk : 0 < (begs l).length := by rw [e]; simp
  refine List.ext_getElem? fun j => ?_
  rw [List.getElem?_map, List.getElem?_map]
  by_cases hj : j < (begs l).length
  · have hx : (begs l)[j]? = some (begs l)[j] := List.getElem?_eq_getElem hj
    obtain ⟨f, t, r, h1, h2⟩ := last_eq h hn e hx
    rw [← hF] at h1
    have ht : hdS t = gN ns (begs l)[j] := by unfold hdS; rw [h2]; rfl
    have hlast : (F.drop ((begs l).length - 1) ++ F.take ((begs l).length - 1))[j]? = some t := by
      have hl := congrArg (fun x : List Str => x[x.length - 1]?) h1
      have lenL : (F.drop j ++ F.take j).length = (begs l).length := by rw [List.length_append, List.length_drop, List.length_take]; omega
      simp only [lenL] at hl
      have hr : (f ++ [t])[(f ++ [t]).length - 1]? = some t := by simp
      rw [hr] at hl
      rw [← hl]
      by_cases h0 : j = 0
      · subst h0
        rw [List.getElem?_append_left (by rw [List.length_drop]; omega), List.getElem?_append_left (by rw [List.length_drop]; omega), List.getElem?_drop, List.getElem?_drop]
        congr 1
        omega
      · rw [List.getElem?_append_right (by rw [List.length_drop]; omega), List.getElem?_append_right (by rw [List.length_drop]; omega), List.length_drop, List.length_drop, List.getElem?_take_of_lt (by omega), List.getElem?_take_of_lt (by omega)]
        congr 1
        omega
    rw [hlast, hx]
    show some (hdS t) = some (gN ns (begs l)[j])
    rw [ht]
  · rw [List.getElem?_eq_none (l := begs l) (by omega), List.getElem?_eq_none (by rw [List.length_append, List.length_drop, List.length_take]; omega)]
    rfl
theorem heads_perm (h : Rn l ns) (hn : ∀ x ∈ ns, ltS x ∧ x.cps.toList ≠ []) (e : begs l = a :: bs) : ((tms (zp l ns a)).map hdS).Perm ((frees l).map fun p => ns.getD p spc) := by
  have hr := heads_rot h hn e
  obtain ⟨k, hk⟩ : ∃ k, k = (begs l).length - 1 := ⟨_, rfl⟩
  rw [← hk] at hr
  have p1 : ((tms (zp l ns a)).map hdS).Perm ((begs l).map (gN ns)) := by
    rw [← hr]
    refine List.Perm.map _ ?_
    have := List.perm_append_comm (l₁ := (tms (zp l ns a)).take k) (l₂ := (tms (zp l ns a)).drop k)
    rwa [List.take_append_drop] at this
  refine p1.trans ?_
  have bf := begs_frees l
  have p2 : ((begs l).map (fun k : Nat => (k : Int))).Perm ((frees l).map fun p : Nat => ((p : Int) + 1) % (l.length : Int)) := by
    rw [bf]; exact sortI_perm _
  have p3 := p2.map fun x : Int => gN ns x.toNat
  rw [List.map_map, List.map_map] at p3
  have e1 : (begs l).map ((fun x : Int => gN ns x.toNat) ∘ fun k : Nat => (k : Int)) = (begs l).map (gN ns) := List.map_congr_left fun x _ => rfl
  rw [e1] at p3
  refine p3.trans ?_
  refine List.Perm.of_eq (List.map_congr_left fun p hp => ?_)
  have hpl := (mem_frees.mp hp).1
  have hl := h.eq
  show gN ns (((p : Int) + 1) % (l.length : Int)).toNat = ns.getD p spc
  by_cases hc : p + 1 < l.length
  · have : (((p : Int) + 1) % (l.length : Int)).toNat = p + 1 := by rw [Int.emod_eq_of_lt (by omega) (by omega)]; omega
    rw [this, gN_pos (by omega) (by omega)]
    rfl
  · have hp1 : (p : Int) + 1 = (l.length : Int) := by omega
    have : (((p : Int) + 1) % (l.length : Int)).toNat = 0 := by rw [hp1, Int.emod_self]; rfl
    rw [this, gN_zero (by omega)]
    congr 1
    omega
end
theorem rn_ok {l : List Int} (h0 : l ≠ []) (hl : l.length ≤ 24) (ha : ∀ t ∈ l, Arity t) : Rn l (nmsL l.length) ∧ ∀ x ∈ nmsL l.length, ltS x ∧ x.cps.toList ≠ [] := by
  have mem : ∀ x ∈ nmsL l.length, ltS x ∧ x.cps.toList ≠ [] ∧ x.length ≤ 8 := fun x hx => by
    obtain ⟨k, hk, rfl⟩ := List.mem_map.mp hx
    exact nm_ok (by have := List.mem_range.mp hk; omega)
  refine ⟨⟨ha, List.length_pos_iff.mpr h0, hl, by simp [nmsL], fun x hx => by have := (mem x hx).2.2; omega⟩, fun x hx => ⟨(mem x hx).1, (mem x hx).2.1⟩⟩
theorem join_len (y : Str) : ∀ ws : List Str, (Str.join y ws).length ≤ (ws.map (·.length)).sum + ws.length * y.length
  | [] => by simp [Str.join, Str.empty, Str.length]
  | [x] => by simp [Str.join]
  | x :: z :: r => by
    have ih := join_len y (z :: r)
    show (x ++ y ++ Str.join y (z :: r)).length ≤ _
    rw [Str.length_append, Str.length_append]
    rw [List.length_cons (as := z :: r), Nat.add_mul, List.map_cons, List.sum_cons]
    omega
section
variable {l : List Int} {ns : List Str} {a : Nat} {bs : List Nat}
theorem tm_len (h : Rn l ns) {b : Nat} (hb : b < l.length) (nb : ne (rot l b) = 0) : (∀ t ∈ tms (zp l ns b), t.length ≤ 3120) ∧ ((tms (zp l ns b)).map (·.length)).sum + 2 * (tms (zp l ns b)).length ≤ 3120 := by
  have zb := h.zs hb nb
  have hs := zb.small (zp l ns b).length
  rw [List.take_length] at hs
  have ht := tot_sum (tms (zp l ns b))
  refine ⟨fun t ht' => ?_, by omega⟩
  have : t.length ≤ ((tms (zp l ns b)).map (·.length)).sum := by
    have : ∀ ws : List Str, t ∈ ws → t.length ≤ (ws.map (·.length)).sum := fun ws => by
      induction ws with
      | nil => intro h; cases h
      | cons w ws ih =>
        intro h
        rw [List.map_cons, List.sum_cons]
        rcases List.mem_cons.mp h with rfl | h
        · omega
        · have := ih h; omega
    exact this _ ht'
  omega
theorem step34 (h : Rn l ns) (hn : ∀ x ∈ ns, ltS x ∧ x.cps.toList ≠ []) (e : begs l = a :: bs) {j b : Nat} (hj : (begs l)[j]? = some b) (x0 x1 x2 x9 x10 x11 B6 : Option D) (S : Sto) :
    ∃ y9, L1_law [x0, x1, x2, some (ti l), some (.int (j : Nat)), some (.tup (sD ns)), B6, some (.tup (sD (tms (zp l ns a)))), some (.int (b : Nat)), x9, x10, x11] S = .nx [x0, x1, x2, some (ti l), some (.int (j : Nat)), some (.tup (sD ns)), B6, some (.tup (sD (tms (zp l ns a)))), some (.int (b : Nat)), y9, x10, x11] S := by
  have mb : b ∈ begs l := List.mem_of_getElem? hj
  obtain ⟨hb, nb⟩ := mem_begs.mp mb
  have hjl : j < (begs l).length := (List.getElem?_eq_some_iff.mp hj).1
  have hc := tms_count h e
  have hlen := h.len
  have bl := begs_len_le l
  have fr := from_any h (v := .int (b : Nat)) rfl
  have pc := plc_int hb
  simp only [pc, if_pos nb] at fr
  obtain ⟨f, t, r, e1, e2⟩ := last_eq h hn e hj
  have tt := tms_turn h e hj
  have etm : tms (zp l ns b) = f ++ [t] := by rw [tt, e1]
  have tl := (tm_len h hb nb).1 t (by rw [etm]; simp)
  obtain ⟨F0, hF0⟩ : ∃ F, F = tms (zp l ns a) := ⟨_, rfl⟩
  rw [← hF0] at hc e1 tt ⊢
  have sl1 : ∀ S, dSl mkFl (.tup (sD F0)) (some (j : Int)) none S = .ok (.tup (sD (F0.drop j))) S := fun S => by
    rw [DL.sl_fromD]; unfold sD; rw [List.map_drop]
  have sl2 : ∀ S, dSl mkFl (.tup (sD F0)) none (some (j : Int)) S = .ok (.tup (sD (F0.take j))) S := fun S => by
    rw [DL.sl_toD]; unfold sD; rw [List.map_take]
  have ad : ∀ S, dAdd (.tup (sD (F0.drop j))) (.tup (sD (F0.take j))) S = .ok (.tup (sD (f ++ [t]))) S := fun S => by
    rw [DL.add_tup _ _ (by rw [sD_len, sD_len, List.length_drop, List.length_take]; omega), ← e1]
    unfold sD
    rw [List.map_append]
  rw [etm] at fr
  have sm : Sam (.tup (sD (f ++ [t]))) := .tup (by rw [sD_len, ← e1, List.length_append, List.length_drop, List.length_take]; omega) fun d hd => by
    obtain ⟨x, _, rfl⟩ := List.mem_map.mp hd
    exact .str x
  have dp : depD (.tup (sD (f ++ [t]))) < 40 := by
    have : ∀ ws : List Str, depL (sD ws) = 0 := fun ws => by
      induction ws with
      | nil => rfl
      | cons w ws ih =>
        show depL (.str w :: sD ws) = 0
        rw [depL, ih]
        simp [depD]
    rw [depD, this]
    decide
  have same := same_refl sm 40 dp
  have ixl : ∀ S, dIx (.tup (sD (f ++ [t]))) (.int (-1)) S = .ok (.str t) S := fun S => dIx_tup (by
    have : sD (f ++ [t]) = sD f ++ [.str t] := by unfold sD; rw [List.map_append]; rfl
    rw [this]; exact at_last _ _)
  have wo := words_ok (w := t) (by omega)
  rw [e2] at wo
  have ix0 : ∀ S, dIx (.fl ((gN ns b :: r).map D.str)) (.int 0) S = .ok (.str (gN ns b)) S := fun S => dIx_fl (by rw [List.map_cons, atI_zero])
  have ixn : ∀ S, dIx (.tup (sD ns)) (.int ((b : Int) - 1)) S = .ok (.str (gN ns b)) S := fun S => dIx_tup (gN_at (by rw [h.eq]; exact hb))
  have nee : ∀ S, dEq true (.str (gN ns b)) (.str (gN ns b)) S = .ok (.bl false) S := fun S => by rw [dEq_str]; simp
  refine ⟨some (.tup (sD (f ++ [t]))), ?_⟩
  generalize (gN ns b :: r).map D.str = W at *
  generalize sD (f ++ [t]) = G at *
  generalize sD (F0.drop j) = G1 at *
  generalize sD (F0.take j) = G2 at *
  generalize sD F0 = G0 at *
  generalize sD ns = N at *
  generalize gN ns b = GB at *
  generalize ti l = L at *
  simp! [L1_law, fr, sl1, sl2, ad, same, Bool.not_true, ixl, wo, ix0, ixn, nee]
theorem loop34 (h : Rn l ns) (hn : ∀ x ∈ ns, ltS x ∧ x.cps.toList ≠ []) (e : begs l = a :: bs) (x0 x1 x2 x10 x11 B6 : Option D) (S : Sto) : ∀ (suf : List Nat) (k : Nat) (x4 x8 x9 : Option D), (∀ i b, suf[i]? = some b → (begs l)[k + i]? = some b) →
    ∃ y4 y8 y9, forD yes (tTup 2 (tCons (tN 4) (tCons (tN 8) tNil))) L1_law sNil (enumD k (ni suf)) [x0, x1, x2, some (ti l), x4, some (.tup (sD ns)), B6, some (.tup (sD (tms (zp l ns a)))), x8, x9, x10, x11] S = .nx [x0, x1, x2, some (ti l), y4, some (.tup (sD ns)), B6, some (.tup (sD (tms (zp l ns a)))), y8, y9, x10, x11] S
  | [], k, x4, x8, x9, _ => ⟨x4, x8, x9, forD_nil trivial⟩
  | b :: suf, k, x4, x8, x9, hs => by
    obtain ⟨z9, hz⟩ := step34 h hn e (hs 0 b rfl) x0 x1 x2 x9 x10 x11 B6 S
    rw [Nat.add_zero] at hz
    obtain ⟨y4, y8, y9, ih⟩ := loop34 h hn e x0 x1 x2 x10 x11 B6 S suf (k + 1) (some (.int (k : Nat))) (some (.int (b : Nat))) z9 fun i c hi => by
      have := hs (i + 1) c (by simpa using hi)
      rwa [show k + (i + 1) = k + 1 + i by omega] at this
    refine ⟨y4, y8, y9, ?_⟩
    have ee : enumD k (ni (b :: suf)) = .tup [.int (k : Int), .int (b : Int)] :: enumD (k + 1) (ni suf) := by
      show enumD k (D.int (b : Int) :: ni suf) = _
      rw [enumD]
    rw [ee, ← ih]
    exact forD_cons (g := yes) (T := tTup 2 (tCons (tN 4) (tCons (tN 8) tNil))) (ρ1 := [x0, x1, x2, some (ti l), some (.int (k : Nat)), some (.tup (sD ns)), B6, some (.tup (sD (tms (zp l ns a)))), some (.int (b : Nat)), x9, x10, x11]) (S1 := S) True.intro rfl hz
end
theorem lt_ok {w : Str} (h : ltS w) : PyData.strOk w = true := by
  unfold PyData.strOk
  rw [← Array.all_toList, List.all_eq_true]
  intro c hc
  have := h c hc
  simp
  omega
theorem turn34 (sc : Option D) {S : Sto} {n : Nat} (hS : Strm S n []) (hn : n + 100 < 2 ^ 60) (d : D) (x3 x4 x5 x6 x7 x8 x9 x10 x11 : Option D) :
    ∃ y3 y4 y5 y6 y7 y8 y9 y10 y11 S', L2_law [sc, some (.loc 1), some d, x3, x4, x5, x6, x7, x8, x9, x10, x11] S = .nx [sc, some (.loc 1), some d, y3, y4, y5, y6, y7, y8, y9, y10, y11] S' ∧ Strm S' (n + 100) [] := by
  obtain ⟨l, S1, r1, r2, r3, r4, r5, s1⟩ := begun_pos hS (by omega)
  obtain ⟨rn, hnm⟩ := rn_ok r2 r3 r4
  obtain ⟨ns, hns⟩ : ∃ ns, ns = nmsL l.length := ⟨_, rfl⟩
  have nl := nms_lc r3 [sc, some (.loc 1), some d, some (ti l), x4, x5, x6, x7, x8, x9, x10, x11] S1 l rfl rfl rfl
  rw [← hns] at rn hnm nl
  obtain ⟨a, bs, e⟩ : ∃ a bs, begs l = a :: bs := by
    cases hb : begs l with
    | nil => exact absurd hb r5
    | cons a bs => exact ⟨a, bs, rfl⟩
  have ma : a ∈ begs l := by rw [e]; exact List.mem_cons_self
  obtain ⟨ha, na⟩ := mem_begs.mp ma
  have hl0 := List.length_pos_iff.mpr r2
  have bg := beginnings_ok l (by omega)
  have fr := from_any rn (v := .int (a : Nat)) rfl
  have pc := plc_int ha
  simp only [pc, if_pos na] at fr
  have ixa : ∀ S, dIx (.tup (ni (begs l))) (.int 0) S = .ok (.int (a : Nat)) S := fun S => dIx_tup (by rw [e]; show atI (D.int (a : Int) :: ni bs) 0 = _; exact atI_zero _ _)
  obtain ⟨F0, hF0⟩ : ∃ F, F = tms (zp l ns a) := ⟨_, rfl⟩
  obtain ⟨tl1, tl2⟩ := tm_len rn ha na
  have cnt := tms_count rn e
  have bl := begs_len_le l
  obtain ⟨y4, y8, y9, lp⟩ := loop34 rn hnm e sc (some (.loc 1)) (some d) x10 x11 (some (.tup (ni (begs l)))) S1 (begs l) 0 x4 x8 x9 fun i b h => by rw [Nat.zero_add]; exact h
  -- all words
  have wp := words_perm (nms_zp (l := l) hnm a)
  have hp := heads_perm rn hnm e
  have hh := has_head (nms_zp (l := l) hnm a)
  rw [← hF0] at fr tl1 tl2 cnt lp wp hp hh
  have zlen : (zp l ns a).length = l.length := by have := rn.l2 ha; unfold zp; rw [List.length_zip]; omega
  have pn : ((zp l ns a).map (·.2)).Perm ns := by
    have : (zp l ns a).map (·.2) = rot ns a := by have := rn.l2 ha; unfold zp; exact List.map_snd_zip (by omega)
    rw [this]
    have := List.perm_append_comm (l₁ := ns.take a) (l₂ := ns.drop a)
    rw [List.take_append_drop] at this
    exact this.symm
  have wn := wp.trans pn
  have nsl : ns.length ≤ 24 := by rw [rn.eq]; exact r3
  have jn : ∀ S, mJoin (.str " ") [.tup (sD F0)] S = .ok (.str (Str.join spc F0)) S := fun S => by
    have e' : mJoin (.str " ") [.tup (sD F0)] S = (match strsOf (F0.map D.str) with
      | some ys => ifp ((ys.map (·.length)).sum + ys.length * spc.length ≤ 16777216) (.ok (.str (Txt.join spc ys)) S) .stuck
      | none => .stuck) := rfl
    rw [e', DL.strs_of]
    dsimp only
    have h1 : spc.length = 1 := by decide
    rw [ifp_pos (by rw [h1]; omega), show Txt.join spc F0 = Str.join spc F0 from StrLaws.glued_eq_join spc F0]
  have jl : (Str.join spc F0).length ≤ 10 ^ 5 := by
    have := join_len spc F0
    have h1 : spc.length = 1 := by decide
    rw [h1] at this
    omega
  have wo := words_ok jl
  obtain ⟨WJ, hWJ⟩ : ∃ W, W = wdsS (Str.join spc F0) := ⟨_, rfl⟩
  rw [← hWJ] at wo wn
  have st : ∀ (ws : List Str) (S : Sto), ws.length < 64 → bSortT [.fl (ws.map D.str)] S = .ok (.fl (sD (sortS ws))) S := fun ws S hw => by
    have e' : bSortT [.fl (ws.map D.str)] S = (match strsOf (ws.map D.str) with
      | some ys => ifp (ys.length < 64) (.ok (.fl ((sortS ys).map D.str)) S) .stuck
      | none => .stuck) := rfl
    rw [e', DL.strs_of]
    exact ifp_pos hw
  have stt : ∀ (ws : List Str) (S : Sto), ws.length < 64 → bSortT [.tup (sD ws)] S = .ok (.fl (sD (sortS ws))) S := fun ws S hw => by
    have e' : bSortT [.tup (sD ws)] S = (match strsOf (ws.map D.str) with
      | some ys => ifp (ys.length < 64) (.ok (.fl ((sortS ys).map D.str)) S) .stuck
      | none => .stuck) := rfl
    rw [e', DL.strs_of]
    exact ifp_pos hw
  have so1 := fun S => st WJ S (by rw [wn.length_eq]; omega)
  have so2 := fun S => stt ns S (by omega)
  rw [sortS_eq wn] at so1
  have ok1 : ∀ w ∈ sortS ns, PyData.strOk w = true := fun w hw => lt_ok (hnm w ((sortS_perm ns).mem_iff.mp hw)).1
  have nq1 := ne_strs (sortS ns) ok1
  -- the heads
  have hl1 : F0.length ≤ 24 := by omega
  have lc1 : ∀ (ρ : Ev) (S : Sto), ρ[7]? = some (some (.tup (sD F0))) → ρ.length = 12 → eLc finFl (iSeq (eVar 7)) (tN 11) [11] cYes E2_law ρ S = .ok (.fl (sD (F0.map hdS))) S := fun ρ S h7 h12 => by
    have key := eLc_pure (src := iSeq (eVar 7)) (T := tN 11) (vs := [11]) (c := cYes) (f := E2_law) (ρ := ρ) (S := S) (sD F0) (fun z => (wipeD ρ [11]).set 11 (some z)) (fun _ => true) (fun z => match z with
      | .str t => .str (hdS t)
      | _ => .non) (by simp! [h7]) (fun z hz S' => by
        obtain ⟨t, ht, rfl⟩ := List.mem_map.mp hz
        have w11 : ((wipeD ρ [11]).set 11 (some (.str t)))[11]? = some (some (.str t)) := by
          have hw : (wipeD ρ [11]).length = 12 := by simp [wipeD, h12]
          rw [List.getElem?_set_self (by rw [hw]; omega)]
        have wt := words_ok (w := t) (by have := tl1 t ht; omega)
        rw [hh t ht] at wt
        have ix : ∀ S, dIx (.fl ((hdS t :: (wdsS t).tail).map D.str)) (.int 0) S = .ok (.str (hdS t)) S := fun S => dIx_fl (by rw [List.map_cons, atI_zero])
        refine ⟨rfl, rfl, fun _ => ?_⟩
        generalize (hdS t :: (wdsS t).tail).map D.str = W at *
        generalize (wipeD ρ [11]).set 11 (some (.str t)) = P at *
        simp! [E2_law, w11, wt, ix]) (by rw [sD_len]; exact Nat.le_trans (show F0.length ≤ 10 ^ 6 by omega) (by decide)) (fun z hz _ => by
        obtain ⟨t, ht, rfl⟩ := List.mem_map.mp hz
        rfl)
    rw [key, List.filter_eq_self.mpr (fun _ _ => rfl)]
    unfold sD
    rw [List.map_map, List.map_map]
    rfl
  have fp := free_places_ok l hl0 (by omega)
  have fl24 : (frees l).length ≤ 24 := by
    have : (frees l).length ≤ (List.range l.length).length := List.length_filter_le ..
    rw [List.length_range] at this
    omega
  have lc2 : ∀ (ρ : Ev) (S : Sto), ρ[3]? = some (some (ti l)) → ρ[5]? = some (some (.tup (sD ns))) → ρ.length = 12 → eLc finFl (iSeq (eCall F_free_places (aCons (eVar 3) aNil))) (tN 8) [8] cYes E3_law ρ S = .ok (.fl (sD ((frees l).map fun p => ns.getD p spc))) S := fun ρ S h3 h5 h12 => by
    have key := eLc_pure (src := iSeq (eCall F_free_places (aCons (eVar 3) aNil))) (T := tN 8) (vs := [8]) (c := cYes) (f := E3_law) (ρ := ρ) (S := S) (ni (frees l)) (fun z => (wipeD ρ [8]).set 8 (some z)) (fun _ => true) (fun z => match z with
      | .int p => .str (ns.getD p.toNat spc)
      | _ => .non) (by
        generalize ti l = L at *
        generalize ni (frees l) = NF at *
        simp! [h3, fp]) (fun z hz S' => by
        obtain ⟨p, hp, rfl⟩ := List.mem_map.mp hz
        have hpl := (mem_frees.mp hp).1
        have hw : (wipeD ρ [8]).length = 12 := by simp [wipeD, h12]
        have w8 : ((wipeD ρ [8]).set 8 (some (.int (p : Int))))[8]? = some (some (.int (p : Int))) := by
          rw [List.getElem?_set_self (by rw [hw]; omega)]
        have w5 : ((wipeD ρ [8]).set 8 (some (.int (p : Int))))[5]? = some (some (.tup (sD ns))) := by
          rw [List.getElem?_set_ne (by decide)]
          unfold wipeD
          rw [List.getElem?_mapIdx, h5]
          rfl
        have ix : ∀ S, dIx (.tup (sD ns)) (.int (p : Int)) S = .ok (.str (ns.getD p spc)) S := fun S => dIx_tup (by
          rw [atI_nn (by omega) (by rw [sD_len, rn.eq]; omega)]
          simpa using sD_get (ns := ns) (i := p) (by rw [rn.eq]; exact hpl))
        refine ⟨rfl, rfl, fun _ => ?_⟩
        show E3_law _ S' = .ok (.str (ns.getD (p : Int).toNat spc)) S'
        rw [Int.toNat_natCast]
        generalize (wipeD ρ [8]).set 8 (some (.int (p : Int))) = P at *
        generalize sD ns = N at *
        simp! [E3_law, w5, w8, ix]) (by unfold ni; rw [List.length_map]; exact Nat.le_trans (show (frees l).length ≤ 10 ^ 6 by omega) (by decide)) (fun z hz _ => by
        obtain ⟨t, ht, rfl⟩ := List.mem_map.mp hz
        rfl)
    rw [key, List.filter_eq_self.mpr (fun _ _ => rfl)]
    unfold sD ni
    rw [List.map_map, List.map_map]
    rfl
  have so3 := fun S => st (F0.map hdS) S (by rw [List.length_map]; omega)
  have so4 := fun S => st ((frees l).map fun p => ns.getD p spc) S (by rw [List.length_map]; omega)
  rw [sortS_eq hp] at so3
  obtain ⟨FN, hFN⟩ : ∃ FN, FN = (frees l).map fun p => ns.getD p spc := ⟨_, rfl⟩
  have ok2 : ∀ w ∈ sortS FN, PyData.strOk w = true := fun w hw => by
    have hw' := (sortS_perm FN).mem_iff.mp hw
    rw [hFN] at hw'
    obtain ⟨p, hp, rfl⟩ := List.mem_map.mp hw'
    have hpl := (mem_frees.mp hp).1
    have hm : ns.getD p spc ∈ ns := by
      have hpn : p < ns.length := by rw [rn.eq]; exact hpl
      have : ns[p]? = some ns[p] := List.getElem?_eq_getElem hpn
      rw [List.getD_eq_getElem?_getD, this]
      exact List.mem_of_getElem? this
    exact lt_ok (hnm _ hm).1
  have nq2 := ne_strs (sortS FN) ok2
  rw [← hFN] at so3 so4 lc2
  have L1 := lc1 [sc, some (.loc 1), some d, some (ti l), y4, some (.tup (sD ns)), some (.tup (ni (begs l))), some (.tup (sD F0)), y8, y9, x10, x11] S1 rfl rfl
  have L2 := lc2 [sc, some (.loc 1), some d, some (ti l), y4, some (.tup (sD ns)), some (.tup (ni (begs l))), some (.tup (sD F0)), y8, y9, some (.fl (sD (F0.map hdS))), x11] S1 rfl rfl rfl
  have tb : ∀ xs S, bTuple [.fl xs] S = .ok (.tup xs) S := fun xs S => rfl
  have is1 : ∀ S, isStr S (.str " ") = true := fun S => rfl
  have src : ∀ S, (srcOf (.tup (ni (begs l))) S).bind (fun q S2 => R.ok (enumD 0 q.1, q.2) S2) = .ok (enumD 0 (ni (begs l)), yes) S := fun S => rfl
  have sD1 : WJ.map D.str = sD WJ := rfl
  have sD2 : (F0.map hdS).map D.str = sD (F0.map hdS) := rfl
  have sD3 : FN.map D.str = sD FN := rfl
  rw [sD1] at so1 wo
  rw [sD2] at so3
  rw [sD3] at so4
  refine ⟨some (ti l), y4, some (.tup (sD ns)), some (.tup (ni (begs l))), some (.tup (sD F0)), y8, y9, some (.fl (sD (F0.map hdS))), x11, S1, ?_, s1.mono (by omega)⟩
  unfold L2_law
  generalize sD (F0.map hdS) = G1 at *
  generalize sD FN = G2 at *
  generalize sD WJ = G3 at *
  generalize sD (sortS FN) = G4 at *
  generalize sD (sortS ns) = G5 at *
  generalize sD F0 = G6 at *
  generalize sD ns = G7 at *
  generalize ni (begs l) = G8 at *
  generalize ti l = G9 at *
  simp! [r1, nl, tb, bg, ixa, fr, iEnumD, src, lp, is1, jn, wo, so1, so2, nq1, L1, so3, L2, so4, nq2]
theorem law_ok : LawOk F_law := by
  refine law_num (N := 8) (cost := 100) (fun sc ρ => ∃ x2 x3 x4 x5 x6 x7 x8 x9 x10 x11, ρ = [sc, some (.loc 1), x2, x3, x4, x5, x6, x7, x8, x9, x10, x11]) (by decide) (by decide) (fun sc => ⟨_, _, _, _, _, _, _, _, _, _, rfl⟩) (by decide) ?_
  rintro sc i ρ S n _ ⟨x2, x3, x4, x5, x6, x7, x8, x9, x10, x11, rfl⟩ hS hn
  obtain ⟨y3, y4, y5, y6, y7, y8, y9, y10, y11, S', h1, h2⟩ := turn34 sc hS hn (.int (i : Int)) x3 x4 x5 x6 x7 x8 x9 x10 x11
  exact ⟨_, S', h1, ⟨_, _, _, _, _, _, _, _, _, _, rfl⟩, h2⟩
end TX
namespace TX
open PySem PySem.Spec L2 DL
open PyProof.Rows hiding St
structure Tx (K : W.Frag) (mg : Str → Option Value) (f__law_stream f__law_draw f__law_ready f__law_from f__law_begun f_heights_of f_need_of f_is_integer f_check_place f_turned f_need f_beginnings f_check_beginning f_term_of f_terms_from f__law_same f__law_words f_later_places f_find_taker f_takers f_free_places f_law : Addr) : Prop where
  mg__law_stream : mg "_law_stream" = some (.ref f__law_stream)
  kp__law_stream : W.keepIn K (.ref f__law_stream) = true
  mg__law_draw : mg "_law_draw" = some (.ref f__law_draw)
  kp__law_draw : W.keepIn K (.ref f__law_draw) = true
  mg__law_ready : mg "_law_ready" = some (.ref f__law_ready)
  kp__law_ready : W.keepIn K (.ref f__law_ready) = true
  mg__law_from : mg "_law_from" = some (.ref f__law_from)
  kp__law_from : W.keepIn K (.ref f__law_from) = true
  mg__law_begun : mg "_law_begun" = some (.ref f__law_begun)
  kp__law_begun : W.keepIn K (.ref f__law_begun) = true
  mg_heights_of : mg "heights_of" = some (.ref f_heights_of)
  kp_heights_of : W.keepIn K (.ref f_heights_of) = true
  mg_need_of : mg "need_of" = some (.ref f_need_of)
  kp_need_of : W.keepIn K (.ref f_need_of) = true
  mg_is_integer : mg "is_integer" = some (.ref f_is_integer)
  kp_is_integer : W.keepIn K (.ref f_is_integer) = true
  mg_check_place : mg "check_place" = some (.ref f_check_place)
  kp_check_place : W.keepIn K (.ref f_check_place) = true
  mg_turned : mg "turned" = some (.ref f_turned)
  kp_turned : W.keepIn K (.ref f_turned) = true
  mg_need : mg "need" = some (.ref f_need)
  kp_need : W.keepIn K (.ref f_need) = true
  mg_beginnings : mg "beginnings" = some (.ref f_beginnings)
  kp_beginnings : W.keepIn K (.ref f_beginnings) = true
  mg_check_beginning : mg "check_beginning" = some (.ref f_check_beginning)
  kp_check_beginning : W.keepIn K (.ref f_check_beginning) = true
  mg_term_of : mg "term_of" = some (.ref f_term_of)
  kp_term_of : W.keepIn K (.ref f_term_of) = true
  mg_terms_from : mg "terms_from" = some (.ref f_terms_from)
  kp_terms_from : W.keepIn K (.ref f_terms_from) = true
  mg__law_same : mg "_law_same" = some (.ref f__law_same)
  kp__law_same : W.keepIn K (.ref f__law_same) = true
  mg__law_words : mg "_law_words" = some (.ref f__law_words)
  kp__law_words : W.keepIn K (.ref f__law_words) = true
  mg_later_places : mg "later_places" = some (.ref f_later_places)
  kp_later_places : W.keepIn K (.ref f_later_places) = true
  mg_find_taker : mg "find_taker" = some (.ref f_find_taker)
  kp_find_taker : W.keepIn K (.ref f_find_taker) = true
  mg_takers : mg "takers" = some (.ref f_takers)
  kp_takers : W.keepIn K (.ref f_takers) = true
  mg_free_places : mg "free_places" = some (.ref f_free_places)
  kp_free_places : W.keepIn K (.ref f_free_places) = true
  n_range : mg "range" = none
  n_len : mg "len" = none
  n_tuple : mg "tuple" = none
  n_enumerate : mg "enumerate" = none
  n_sorted : mg "sorted" = none
  n_abs : mg "abs" = none
  n_min : mg "min" = none
  n_list : mg "list" = none
  n_int : mg "int" = none
  n_isinstance : mg "isinstance" = none
  n_bool : mg "bool" = none
  n_zip : mg "zip" = none
  n_all : mg "all" = none
  n_str : mg "str" = none
  n_repr : mg "repr" = none
section
variable {P : Program} {w : World} {K : W.Frag} {mg : Str → Option Value} {base : Heap} {f__law_stream f__law_draw f__law_ready f__law_from f__law_begun f_heights_of f_need_of f_is_integer f_check_place f_turned f_need f_beginnings f_check_beginning f_term_of f_terms_from f__law_same f__law_words f_later_places f_find_taker f_takers f_free_places f_law : Addr}
theorem sc__law_stream : FnScope nm__law_stream ["_law_script"] (defScope st__law_stream) := ⟨rfl, rfl, rfl, by decide +kernel, rfl, by decide +kernel, by decide +kernel⟩
theorem fn__law_stream {fd : FuncData} (T : Tx K mg f__law_stream f__law_draw f__law_ready f__law_from f__law_begun f_heights_of f_need_of f_is_integer f_check_place f_turned f_need f_beginnings f_check_beginning f_term_of f_terms_from f__law_same f__law_words f_later_places f_find_taker f_takers f_free_places f_law) (Fu : Fun K "_law_stream" "_law_stream" st__law_stream f__law_stream fd) : FnD true P w K mg base 1 f__law_stream F__law_stream := by
  have nd := (sc__law_stream).nd
  exact fnD_of Fu sc__law_stream (Fu.binds fun _ _ _ _ _ _ us hl => match us, hl with | [_], _ => rfl) cl_keep fun cdv A outer s H E hr hG tk po =>
    (dss_cons (ds_setLc 1 (own := [("_law_cell", 2)]) fin_fl (ct_name 2) rfl nd (di_seq (de_var 0)) (blkOk_by (own := [("_law_cell", 2)]) (N := nm__law_stream) (sc := defScope st__law_stream) (by decide +kernel)) (fun _ _ _ _ _ => pg_name (i := 2) nd rfl (Or.inl rfl)) (fun _ _ _ _ _ => dts_nil) (fun _ _ _ _ _ => (de_callB call_abs k_abs T.n_abs (by decide +kernel) (da_cons (de_var 2) da_nil))))
    (dss_one (ds_ret (de_loc (da_cons (de_lc (own := [("_law_cell", 2)]) fin_loc (ct_name 2) rfl nd (di_seq (de_var 1)) (blkOk_by (own := [("_law_cell", 2)]) (N := nm__law_stream) (sc := defScope st__law_stream) (by decide +kernel)) (fun _ _ _ _ _ => pg_name (i := 2) nd rfl (Or.inl rfl)) (fun _ _ _ _ _ => (dts_one (dt_cmp op_ge k_ge (de_var 2) (de_op op_pow k_pow de_int de_int) (nomark _)))) (fun _ _ _ _ _ => (de_var 2))) (da_cons (de_op or_add k_add (de_var 1) (de_fl (da_cons (de_op or_add k_add (de_callB c_len k_len T.n_len (by decide +kernel) (da_cons (de_var 1) da_nil)) de_int) da_nil))) (da_cons de_int da_nil)))))))
theorem sc__law_draw : FnScope nm__law_draw ["_law_stream_here", "_law_many"] (defScope st__law_draw) := ⟨rfl, rfl, rfl, by decide +kernel, rfl, by decide +kernel, by decide +kernel⟩
theorem fn__law_draw {fd : FuncData} (T : Tx K mg f__law_stream f__law_draw f__law_ready f__law_from f__law_begun f_heights_of f_need_of f_is_integer f_check_place f_turned f_need f_beginnings f_check_beginning f_term_of f_terms_from f__law_same f__law_words f_later_places f_find_taker f_takers f_free_places f_law) (Fu : Fun K "_law_draw" "_law_draw" st__law_draw f__law_draw fd) : FnD true P w K mg base 1 f__law_draw F__law_draw := by
  have nd := (sc__law_draw).nd
  exact fnD_of Fu sc__law_draw (Fu.binds fun _ _ _ _ _ _ us hl => match us, hl with | [_, _], _ => rfl) cl_drop fun cdv A outer s H E hr hG tk po =>
    (dss_cons (ds_while 4000 po (dt_cmp (or_ne hr.units) k_neD (de_ix (de_var 0) de_int) (de_fl da_nil) (nomark _)) (dss_cons (ds_set 2 nd (de_ix (de_ix (de_var 0) de_int) de_int))
    (dss_cons (ds_if (dt_cmp op_gt k_gt (de_var 2) de_int (nomark _)) (dss_cons (ds_asg (de_op op_fdivW k_fdiv (de_var 2) (de_var 1)) (dg_sub (W := (fun cls d _ H' => E cls d H')) (de_ix (de_var 0) de_int) de_int))
    (dss_one (ds_ret (de_op op_modN k_mod (de_var 2) (de_var 1))))) dss_nil)
    (dss_one (ds_expr (de_bm PySem.F.plainAttrs_list PySem.F.slot_list_pop PySem.F.type_list_pop mt_popAt k_popAt chk_lst (de_ix (de_var 0) de_int) (da_cons de_int da_nil)))))))
    (dss_cons (ds_set 3 nd (de_op or_add k_add (de_ix (de_var 0) de_int) de_int))
    (dss_cons (ds_asg (de_var 3) (dg_sub (W := (fun cls d _ H' => E cls d H')) (de_var 0) de_int))
    (dss_cons (ds_set 4 nd (de_op op_modN k_mod (de_ix (de_ix (de_var 0) de_int) (de_op op_modN k_mod (de_var 3) (de_callB c_len k_len T.n_len (by decide +kernel) (da_cons (de_ix (de_var 0) de_int) da_nil)))) de_int))
    (dss_cons (ds_set 5 nd (de_op op_modN k_mod (de_op or_add k_add (de_op or_add k_add (de_op or_mul k_mul (de_var 4) (de_op or_add k_add de_int (de_op or_mul k_mul de_int (de_var 3)))) (de_op or_mul k_mul (de_op or_mul k_mul de_int (de_var 3)) (de_var 3))) de_int) de_int))
    (dss_one (ds_ret (de_op op_modN k_mod (de_op op_fdivW k_fdiv (de_op op_modN k_mod (de_op or_mul k_mul (de_var 5) (de_var 5)) de_int) de_int) (de_var 1)))))))))
theorem sc__law_ready : FnScope nm__law_ready ["_law_stream_here", "_law_most"] (defScope st__law_ready) := ⟨rfl, rfl, rfl, by decide +kernel, rfl, by decide +kernel, by decide +kernel⟩
theorem fn__law_ready {fd : FuncData} (T : Tx K mg f__law_stream f__law_draw f__law_ready f__law_from f__law_begun f_heights_of f_need_of f_is_integer f_check_place f_turned f_need f_beginnings f_check_beginning f_term_of f_terms_from f__law_same f__law_words f_later_places f_find_taker f_takers f_free_places f_law) (Fu : Fun K "_law_ready" "_law_ready" st__law_ready f__law_ready fd) (G__law_draw : FnD true P w K mg base 1 f__law_draw F__law_draw) : FnD true P w K mg base 2 f__law_ready F__law_ready := by
  have nd := (sc__law_ready).nd
  exact fnD_of Fu sc__law_ready (Fu.binds fun _ _ _ _ _ _ us hl => match us, hl with | [_, _], _ => rfl) cl_drop fun cdv A outer s H E hr hG tk po =>
    (dss_cons (ds_par3 2 3 4 rfl nd (da_cons (de_loc da_nil) (da_cons de_int (da_cons (de_op or_add k_add de_int (de_callD G__law_draw (hr.mono (by decide)) hG tk T.mg__law_draw T.kp__law_draw (da_cons (de_var 0) (da_cons de_int da_nil)))) da_nil))))
    (dss_cons (ds_for po rfl (di_range1 rfl T.n_range (da_cons (de_op or_add k_add de_int (de_callD G__law_draw (hr.mono (by decide)) hG tk T.mg__law_draw T.kp__law_draw (da_cons (de_var 0) (da_cons (de_var 1) da_nil)))) da_nil)) (dg_name 5 nd) (dss_cons (ds_expr (de_bm PySem.F.plainAttrs_list PySem.F.slot_list_append PySem.F.type_list_append mt_append k_append chk_lst (de_var 2) (da_cons (de_callB (c_minT rfl) k_minT T.n_min (by decide +kernel) (da_cons (de_var 3) (da_cons (de_callD G__law_draw (hr.mono (by decide)) hG tk T.mg__law_draw T.kp__law_draw (da_cons (de_var 0) (da_cons (de_op or_add k_add (de_var 4) de_int) da_nil))) da_nil))) da_nil)))
    (dss_one (ds_set 3 nd (de_op op_sub k_sub (de_op or_add k_add (de_var 3) de_int) (de_ix (de_var 2) (de_neg de_int)))))) dss_nil)
    (dss_one (ds_ret (de_callTy call_tuple_of k_tuple T.n_tuple (by decide +kernel) (da_cons (de_var 2) da_nil))))))
theorem sc__law_from : FnScope nm__law_from ["_law_ring", "_law_place"] (defScope st__law_from) := ⟨rfl, rfl, rfl, by decide +kernel, rfl, by decide +kernel, by decide +kernel⟩
theorem fn__law_from {fd : FuncData} (T : Tx K mg f__law_stream f__law_draw f__law_ready f__law_from f__law_begun f_heights_of f_need_of f_is_integer f_check_place f_turned f_need f_beginnings f_check_beginning f_term_of f_terms_from f__law_same f__law_words f_later_places f_find_taker f_takers f_free_places f_law) (Fu : Fun K "_law_from" "_law_from" st__law_from f__law_from fd) : FnD true P w K mg base 1 f__law_from F__law_from := by
  have nd := (sc__law_from).nd
  exact fnD_of Fu sc__law_from (Fu.binds fun _ _ _ _ _ _ us hl => match us, hl with | [_, _], _ => rfl) cl_drop fun cdv A outer s H E hr hG tk po =>
    (dss_one (ds_ret (de_op or_add k_add (de_sl mk_fl (de_var 0) (do_some (de_var 1)) do_none) (de_sl mk_fl (de_var 0) do_none (do_some (de_var 1))))))
theorem sc__law_begun : FnScope nm__law_begun ["_law_stream_here", "_law_most"] (defScope st__law_begun) := ⟨rfl, rfl, rfl, by decide +kernel, rfl, by decide +kernel, by decide +kernel⟩
theorem fn__law_begun {fd : FuncData} (T : Tx K mg f__law_stream f__law_draw f__law_ready f__law_from f__law_begun f_heights_of f_need_of f_is_integer f_check_place f_turned f_need f_beginnings f_check_beginning f_term_of f_terms_from f__law_same f__law_words f_later_places f_find_taker f_takers f_free_places f_law) (Fu : Fun K "_law_begun" "_law_begun" st__law_begun f__law_begun fd) (G__law_ready : FnD true P w K mg base 2 f__law_ready F__law_ready) (G__law_from : FnD true P w K mg base 1 f__law_from F__law_from) (G__law_draw : FnD true P w K mg base 1 f__law_draw F__law_draw) : FnD true P w K mg base 3 f__law_begun F__law_begun := by
  have nd := (sc__law_begun).nd
  exact fnD_of Fu sc__law_begun (Fu.binds fun _ _ _ _ _ _ us hl => match us, hl with | [_, _], _ => rfl) cl_drop fun cdv A outer s H E hr hG tk po =>
    (dss_cons (ds_set 2 nd (de_callD G__law_ready (hr.mono (by decide)) hG tk T.mg__law_ready T.kp__law_ready (da_cons (de_var 0) (da_cons (de_var 1) da_nil))))
    (dss_one (ds_ret (de_callD G__law_from (hr.mono (by decide)) hG tk T.mg__law_from T.kp__law_from (da_cons (de_var 2) (da_cons (de_callD G__law_draw (hr.mono (by decide)) hG tk T.mg__law_draw T.kp__law_draw (da_cons (de_var 0) (da_cons (de_callB c_len k_len T.n_len (by decide +kernel) (da_cons (de_var 2) da_nil)) da_nil))) da_nil))))))
theorem sc_heights_of : FnScope nm_heights_of ["row"] (defScope st_heights_of) := ⟨rfl, rfl, rfl, by decide +kernel, rfl, by decide +kernel, by decide +kernel⟩
theorem fn_heights_of {fd : FuncData} (T : Tx K mg f__law_stream f__law_draw f__law_ready f__law_from f__law_begun f_heights_of f_need_of f_is_integer f_check_place f_turned f_need f_beginnings f_check_beginning f_term_of f_terms_from f__law_same f__law_words f_later_places f_find_taker f_takers f_free_places f_law) (Fu : Fun K "heights_of" "heights_of" st_heights_of f_heights_of fd) : FnD false P w K mg base 1 f_heights_of F_heights_of := by
  have nd := (sc_heights_of).nd
  exact fnD_of Fu sc_heights_of (Fu.binds fun _ _ _ _ _ _ us hl => match us, hl with | [_], _ => rfl) cl_drop fun cdv A outer s H E hr hG tk po =>
    (dss_cons (ds_set 1 nd (de_loc da_nil))
    (dss_cons (ds_set 2 nd de_int)
    (dss_cons (ds_for po rfl (di_seq (de_var 0)) (dg_name 3 nd) (dss_cons (ds_aug 2 nd (de_op op_sub k_sub de_int (de_var 3)) ip_add k_ipadd)
    (dss_one (ds_expr (de_bm PySem.F.plainAttrs_list PySem.F.slot_list_append PySem.F.type_list_append mt_append k_append chk_lst (de_var 1) (da_cons (de_var 2) da_nil))))) dss_nil)
    (dss_one (ds_ret (de_callTy call_tuple_of k_tuple T.n_tuple (by decide +kernel) (da_cons (de_var 1) da_nil)))))))
theorem sc_need_of : FnScope nm_need_of ["row"] (defScope st_need_of) := ⟨rfl, rfl, rfl, by decide +kernel, rfl, by decide +kernel, by decide +kernel⟩
theorem fn_need_of {fd : FuncData} (T : Tx K mg f__law_stream f__law_draw f__law_ready f__law_from f__law_begun f_heights_of f_need_of f_is_integer f_check_place f_turned f_need f_beginnings f_check_beginning f_term_of f_terms_from f__law_same f__law_words f_later_places f_find_taker f_takers f_free_places f_law) (Fu : Fun K "need_of" "need_of" st_need_of f_need_of fd) (G_heights_of : FnD false P w K mg base 1 f_heights_of F_heights_of) : FnD false P w K mg base 2 f_need_of F_need_of := by
  have nd := (sc_need_of).nd
  exact fnD_of Fu sc_need_of (Fu.binds fun _ _ _ _ _ _ us hl => match us, hl with | [_], _ => rfl) cl_drop fun cdv A outer s H E hr hG tk po =>
    (dss_one (ds_ret (de_op op_sub k_sub de_int (de_callB (c_min rfl) k_min T.n_min (by decide +kernel) (da_cons (de_op or_add k_add (de_fl (da_cons de_int da_nil)) (de_callTy call_list_of (k_list mk_fl) T.n_list (by decide +kernel) (da_cons (de_callD G_heights_of (hr.mono (by decide)) (fun z => nomatch z) tk T.mg_heights_of T.kp_heights_of (da_cons (de_var 0) da_nil)) da_nil))) da_nil)))))
theorem sc_is_integer : FnScope nm_is_integer ["value", "low", "high"] (defScope st_is_integer) := ⟨rfl, rfl, rfl, by decide +kernel, rfl, by decide +kernel, by decide +kernel⟩
theorem fn_is_integer {fd : FuncData} (T : Tx K mg f__law_stream f__law_draw f__law_ready f__law_from f__law_begun f_heights_of f_need_of f_is_integer f_check_place f_turned f_need f_beginnings f_check_beginning f_term_of f_terms_from f__law_same f__law_words f_later_places f_find_taker f_takers f_free_places f_law) (Fu : Fun K "is_integer" "is_integer" st_is_integer f_is_integer fd) : FnD false P w K mg base 1 f_is_integer F_is_integer := by
  have nd := (sc_is_integer).nd
  exact fnD_of Fu sc_is_integer (Fu.binds fun _ _ _ _ _ _ us hl => match us, hl with | [_, _, _], _ => rfl) cl_drop fun cdv A outer s H E hr hG tk po =>
    (dss_one (ds_ret (de_and (de_callB call_isi k_isi T.n_isinstance (by decide +kernel) (da_cons (de_var 0) (da_cons (de_bty T.n_int (by decide +kernel)) da_nil))) (de_and (de_not (de_callB call_isi k_isi T.n_isinstance (by decide +kernel) (da_cons (de_var 0) (da_cons (de_bty T.n_bool (by decide +kernel)) da_nil)))) (de_one (de_chain op_le k_le op_le k_le (de_var 1) (de_var 0) (de_var 2)))))))
theorem sc_check_place : FnScope nm_check_place ["ring", "value"] (defScope st_check_place) := ⟨rfl, rfl, rfl, by decide +kernel, rfl, by decide +kernel, by decide +kernel⟩
theorem fn_check_place {fd : FuncData} (T : Tx K mg f__law_stream f__law_draw f__law_ready f__law_from f__law_begun f_heights_of f_need_of f_is_integer f_check_place f_turned f_need f_beginnings f_check_beginning f_term_of f_terms_from f__law_same f__law_words f_later_places f_find_taker f_takers f_free_places f_law) (Fu : Fun K "check_place" "check_place" st_check_place f_check_place fd) (G_is_integer : FnD false P w K mg base 1 f_is_integer F_is_integer) {C_NoPlace : Addr} (T0_NoPlace : XCls K "NoPlace" C_NoPlace) (mc_NoPlace : mg "NoPlace" = some (.ref C_NoPlace)) {I_NoPlace : Addr} (TI_NoPlace : XInit K C_NoPlace I_NoPlace "NoPlace.__init__" "value") : FnD false P w K mg base 2 f_check_place F_check_place := by
  have nd := (sc_check_place).nd
  exact fnD_of Fu sc_check_place (Fu.binds fun _ _ _ _ _ _ us hl => match us, hl with | [_, _], _ => rfl) cl_drop fun cdv A outer s H E hr hG tk po =>
    (dss_one (ds_if (dt_not (dt_val (de_callD G_is_integer (hr.mono (by decide)) (fun z => nomatch z) tk T.mg_is_integer T.kp_is_integer (da_cons (de_var 1) (da_cons de_int (da_cons (de_op op_sub k_sub (de_callB c_len k_len T.n_len (by decide +kernel) (da_cons (de_var 0) da_nil)) de_int) da_nil)))))) (dss_one (ds_raise1 rfl tk T0_NoPlace TI_NoPlace hr mc_NoPlace (da_cons (de_var 1) da_nil))) dss_nil))
theorem sc_turned : FnScope nm_turned ["ring", "place"] (defScope st_turned) := ⟨rfl, rfl, rfl, by decide +kernel, rfl, by decide +kernel, by decide +kernel⟩
theorem fn_turned {fd : FuncData} (T : Tx K mg f__law_stream f__law_draw f__law_ready f__law_from f__law_begun f_heights_of f_need_of f_is_integer f_check_place f_turned f_need f_beginnings f_check_beginning f_term_of f_terms_from f__law_same f__law_words f_later_places f_find_taker f_takers f_free_places f_law) (Fu : Fun K "turned" "turned" st_turned f_turned fd) (G_check_place : FnD false P w K mg base 2 f_check_place F_check_place) : FnD false P w K mg base 3 f_turned F_turned := by
  have nd := (sc_turned).nd
  exact fnD_of Fu sc_turned (Fu.binds fun _ _ _ _ _ _ us hl => match us, hl with | [_, _], _ => rfl) cl_drop fun cdv A outer s H E hr hG tk po =>
    (dss_cons (ds_expr (de_callD G_check_place (hr.mono (by decide)) (fun z => nomatch z) tk T.mg_check_place T.kp_check_place (da_cons (de_var 0) (da_cons (de_var 1) da_nil))))
    (dss_one (ds_ret (de_tup (da_star (de_sl mk_fl (de_var 0) (do_some (de_var 1)) do_none) (da_star (de_sl mk_fl (de_var 0) do_none (do_some (de_var 1))) da_nil))))))
theorem sc_need : FnScope nm_need ["ring", "place"] (defScope st_need) := ⟨rfl, rfl, rfl, by decide +kernel, rfl, by decide +kernel, by decide +kernel⟩
theorem fn_need {fd : FuncData} (T : Tx K mg f__law_stream f__law_draw f__law_ready f__law_from f__law_begun f_heights_of f_need_of f_is_integer f_check_place f_turned f_need f_beginnings f_check_beginning f_term_of f_terms_from f__law_same f__law_words f_later_places f_find_taker f_takers f_free_places f_law) (Fu : Fun K "need" "need" st_need f_need fd) (G_need_of : FnD false P w K mg base 2 f_need_of F_need_of) (G_turned : FnD false P w K mg base 3 f_turned F_turned) : FnD false P w K mg base 4 f_need F_need := by
  have nd := (sc_need).nd
  exact fnD_of Fu sc_need (Fu.binds fun _ _ _ _ _ _ us hl => match us, hl with | [_, _], _ => rfl) cl_drop fun cdv A outer s H E hr hG tk po =>
    (dss_one (ds_ret (de_callD G_need_of (hr.mono (by decide)) (fun z => nomatch z) tk T.mg_need_of T.kp_need_of (da_cons (de_callD G_turned (hr.mono (by decide)) (fun z => nomatch z) tk T.mg_turned T.kp_turned (da_cons (de_var 0) (da_cons (de_var 1) da_nil))) da_nil))))
theorem sc_beginnings : FnScope nm_beginnings ["ring"] (defScope st_beginnings) := ⟨rfl, rfl, rfl, by decide +kernel, rfl, by decide +kernel, by decide +kernel⟩
theorem fn_beginnings {fd : FuncData} (T : Tx K mg f__law_stream f__law_draw f__law_ready f__law_from f__law_begun f_heights_of f_need_of f_is_integer f_check_place f_turned f_need f_beginnings f_check_beginning f_term_of f_terms_from f__law_same f__law_words f_later_places f_find_taker f_takers f_free_places f_law) (Fu : Fun K "beginnings" "beginnings" st_beginnings f_beginnings fd) (G_need : FnD false P w K mg base 4 f_need F_need) : FnD false P w K mg base 5 f_beginnings F_beginnings := by
  have nd := (sc_beginnings).nd
  exact fnD_of Fu sc_beginnings (Fu.binds fun _ _ _ _ _ _ us hl => match us, hl with | [_], _ => rfl) cl_drop fun cdv A outer s H E hr hG tk po =>
    (dss_one (ds_ret (de_callTy call_tuple_of k_tuple T.n_tuple (by decide +kernel) (da_cons (de_lc (own := [("place", 1)]) fin_fl (ct_name 1) rfl nd (di_range1 rfl T.n_range (da_cons (de_callB c_len k_len T.n_len (by decide +kernel) (da_cons (de_var 0) da_nil)) da_nil)) (blkOk_by (own := [("place", 1)]) (N := nm_beginnings) (sc := defScope st_beginnings) (by decide +kernel)) (fun _ _ _ _ _ => pg_name (i := 1) nd rfl (Or.inl rfl)) (fun _ _ _ _ _ => (dts_one (dt_cmp (or_eq hr.units) k_eqD (de_callD G_need (hr.mono (by decide)) (fun z => nomatch z) takes0 T.mg_need T.kp_need (da_cons (de_var 0) (da_cons (de_var 1) da_nil))) de_int (nomark _)))) (fun _ _ _ _ _ => (de_var 1))) da_nil))))
theorem sc_check_beginning : FnScope nm_check_beginning ["ring", "place"] (defScope st_check_beginning) := ⟨rfl, rfl, rfl, by decide +kernel, rfl, by decide +kernel, by decide +kernel⟩
theorem fn_check_beginning {fd : FuncData} (T : Tx K mg f__law_stream f__law_draw f__law_ready f__law_from f__law_begun f_heights_of f_need_of f_is_integer f_check_place f_turned f_need f_beginnings f_check_beginning f_term_of f_terms_from f__law_same f__law_words f_later_places f_find_taker f_takers f_free_places f_law) (Fu : Fun K "check_beginning" "check_beginning" st_check_beginning f_check_beginning fd) (G_check_place : FnD false P w K mg base 2 f_check_place F_check_place) (G_need : FnD false P w K mg base 4 f_need F_need) {C_NoBeginning : Addr} (T0_NoBeginning : XCls K "NoBeginning" C_NoBeginning) (mc_NoBeginning : mg "NoBeginning" = some (.ref C_NoBeginning)) {I_NoBeginning : Addr} (TI_NoBeginning : XInit K C_NoBeginning I_NoBeginning "NoBeginning.__init__" "value") : FnD false P w K mg base 5 f_check_beginning F_check_beginning := by
  have nd := (sc_check_beginning).nd
  exact fnD_of Fu sc_check_beginning (Fu.binds fun _ _ _ _ _ _ us hl => match us, hl with | [_, _], _ => rfl) cl_drop fun cdv A outer s H E hr hG tk po =>
    (dss_cons (ds_expr (de_callD G_check_place (hr.mono (by decide)) (fun z => nomatch z) tk T.mg_check_place T.kp_check_place (da_cons (de_var 0) (da_cons (de_var 1) da_nil))))
    (dss_one (ds_if (dt_cmp op_gt k_gt (de_callD G_need (hr.mono (by decide)) (fun z => nomatch z) tk T.mg_need T.kp_need (da_cons (de_var 0) (da_cons (de_var 1) da_nil))) de_int (nomark _)) (dss_one (ds_raise1 rfl tk T0_NoBeginning TI_NoBeginning hr mc_NoBeginning (da_cons (de_var 1) da_nil))) dss_nil)))
theorem sc_term_of : FnScope nm_term_of ["name", "parts"] (defScope st_term_of) := ⟨rfl, rfl, rfl, by decide +kernel, rfl, by decide +kernel, by decide +kernel⟩
theorem fn_term_of {fd : FuncData} (T : Tx K mg f__law_stream f__law_draw f__law_ready f__law_from f__law_begun f_heights_of f_need_of f_is_integer f_check_place f_turned f_need f_beginnings f_check_beginning f_term_of f_terms_from f__law_same f__law_words f_later_places f_find_taker f_takers f_free_places f_law) (Fu : Fun K "term_of" "term_of" st_term_of f_term_of fd) : FnD false P w K mg base 1 f_term_of F_term_of := by
  have nd := (sc_term_of).nd
  exact fnD_of Fu sc_term_of (Fu.binds fun _ _ _ _ _ _ us hl => match us, hl with | [_, _], _ => rfl) cl_drop fun cdv A outer s H E hr hG tk po =>
    (dss_one (ds_ret (de_if (dt_cmp (or_neY hr.units) k_neY (de_var 1) (de_fl da_nil) (nomark _)) (de_joined (.cons (de_fmt (de_var 0)) (.cons de_str (.cons (de_fmt (de_bm PySem.F.plainAttrs_str PySem.F.slot_str_join PySem.F.type_str_join mt_join k_join chk_str de_str (da_cons (de_var 1) da_nil))) (.cons de_str .nil))))) (de_var 0))))
theorem sc_terms_from : FnScope nm_terms_from ["ring", "names", "place"] (defScope st_terms_from) := ⟨rfl, rfl, rfl, by decide +kernel, rfl, by decide +kernel, by decide +kernel⟩
theorem fn_terms_from {fd : FuncData} (T : Tx K mg f__law_stream f__law_draw f__law_ready f__law_from f__law_begun f_heights_of f_need_of f_is_integer f_check_place f_turned f_need f_beginnings f_check_beginning f_term_of f_terms_from f__law_same f__law_words f_later_places f_find_taker f_takers f_free_places f_law) (Fu : Fun K "terms_from" "terms_from" st_terms_from f_terms_from fd) (G_check_beginning : FnD false P w K mg base 5 f_check_beginning F_check_beginning) (G_turned : FnD false P w K mg base 3 f_turned F_turned) (G_term_of : FnD false P w K mg base 1 f_term_of F_term_of) : FnD false P w K mg base 6 f_terms_from F_terms_from := by
  have nd := (sc_terms_from).nd
  exact fnD_of Fu sc_terms_from (Fu.binds fun _ _ _ _ _ _ us hl => match us, hl with | [_, _, _], _ => rfl) cl_drop fun cdv A outer s H E hr hG tk po =>
    (dss_cons (ds_expr (de_callD G_check_beginning (hr.mono (by decide)) (fun z => nomatch z) tk T.mg_check_beginning T.kp_check_beginning (da_cons (de_var 0) (da_cons (de_var 2) da_nil))))
    (dss_cons (ds_set 3 nd (de_fl da_nil))
    (dss_cons (ds_for po rfl (di_zip rfl T.n_zip (da_cons (de_callD G_turned (hr.mono (by decide)) (fun z => nomatch z) tk T.mg_turned T.kp_turned (da_cons (de_var 0) (da_cons (de_var 2) da_nil))) (da_cons (de_tup (da_star (de_sl mk_fl (de_var 1) (do_some (de_var 2)) do_none) (da_star (de_sl mk_fl (de_var 1) do_none (do_some (de_var 2))) da_nil))) da_nil))) (dg_tup rfl (dgs_cons (dg_name 4 nd) (dgs_cons (dg_name 5 nd) dgs_nil))) (dss_cons (ds_set 6 nd (de_op op_sub k_sub (de_callB c_len k_len T.n_len (by decide +kernel) (da_cons (de_var 3) da_nil)) (de_var 4)))
    (dss_one (ds_set 3 nd (de_fl (da_star (de_sl mk_fl (de_var 3) do_none (do_some (de_var 6))) (da_cons (de_callD G_term_of (hr.mono (by decide)) (fun z => nomatch z) tk T.mg_term_of T.kp_term_of (da_cons (de_var 5) (da_cons (de_sl mk_fl (de_var 3) (do_some (de_var 6)) do_none) da_nil))) da_nil)))))) dss_nil)
    (dss_one (ds_ret (de_callTy call_tuple_of k_tuple T.n_tuple (by decide +kernel) (da_cons (de_var 3) da_nil)))))))
theorem sc__law_same : FnScope nm__law_same ["_law_found", "_law_expected"] (defScope st__law_same) := ⟨rfl, rfl, rfl, by decide +kernel, rfl, by decide +kernel, by decide +kernel⟩
theorem fn__law_same {fd : FuncData} (T : Tx K mg f__law_stream f__law_draw f__law_ready f__law_from f__law_begun f_heights_of f_need_of f_is_integer f_check_place f_turned f_need f_beginnings f_check_beginning f_term_of f_terms_from f__law_same f__law_words f_later_places f_find_taker f_takers f_free_places f_law) (Fu : Fun K "_law_same" "_law_same" st__law_same f__law_same fd) (hsys : ∃ o, base.get? sysModules = some o) (n : Nat) : FnD true P w K mg base (1 + n) f__law_same (F__law_same n) := by
  induction n with
  | zero => exact fnD_stuck
  | succ n G__law_same =>
  have nd := (sc__law_same).nd
  show FnD true P w K mg base (1 + n + 1) f__law_same (fnC close 4 2 (B__law_same (F__law_same n)))
  exact fnD_of Fu sc__law_same (Fu.binds fun _ _ _ _ _ _ us hl => match us, hl with | [_, _], _ => rfl) cl_drop fun cdv A outer s H E hr hG tk po =>
    (dss_cons (ds_if (dt_val (de_callB call_isi k_isi T.n_isinstance (by decide +kernel) (da_cons (de_var 1) (da_cons (de_bty T.n_tuple (by decide +kernel)) da_nil)))) (dss_cons (ds_if (dw_t (dw_or (dt_not (dt_val (de_callB call_isi k_isi T.n_isinstance (by decide +kernel) (da_cons (de_var 0) (da_cons (de_bty T.n_tuple (by decide +kernel)) da_nil))))) (dw_or1 (dt_cmp (or_ne hr.units) k_neD (de_callB c_len k_len T.n_len (by decide +kernel) (da_cons (de_var 0) da_nil)) (de_callB c_len k_len T.n_len (by decide +kernel) (da_cons (de_var 1) da_nil)) (nomark _))))) (dss_one (ds_ret de_bl)) dss_nil)
    (dss_one (ds_ret (de_callB (cr_all rfl) k_all T.n_all (by decide +kernel) (da_cons (de_lc (own := [("_law_one", 2), ("_law_other", 3)]) fin_fl (ct_pair 2 3 (by decide)) rfl nd (di_zip rfl T.n_zip (da_cons (de_var 0) (da_cons (de_var 1) da_nil))) (blkOk_by (own := [("_law_one", 2), ("_law_other", 3)]) (N := nm__law_same) (sc := defScope st__law_same) (by decide +kernel)) (fun _ _ _ _ _ => pg_tup rfl (pgs_cons (pg_name (i := 2) nd rfl (Or.inl rfl)) (pgs_cons (pg_name (i := 3) nd rfl (Or.inl rfl)) pgs_nil))) (fun _ _ _ _ _ => dts_nil) (fun _ _ _ _ _ => (de_callD G__law_same (hr.mono (by omega)) hG takes0 T.mg__law_same T.kp__law_same (da_cons (de_var 2) (da_cons (de_var 3) da_nil))))) da_nil))))) dss_nil)
    (dss_cons (ds_if (dw_t (dw_or (dt_cmp op_isN k_isN (de_var 1) de_non (nomark _)) (dw_or1 (dt_cmp op_isN k_isN (de_var 0) de_non (nomark _))))) (dss_one (ds_ret (de_and (de_cmp op_isN k_isN (de_var 1) de_non (nomark _)) (de_one (de_cmp op_isN k_isN (de_var 0) de_non (nomark _)))))) dss_nil)
    (dss_cons (ds_if (dw_t (dw_or (dt_val (de_callB call_isi k_isi T.n_isinstance (by decide +kernel) (da_cons (de_var 1) (da_cons (de_bty T.n_bool (by decide +kernel)) da_nil)))) (dw_or1 (dt_val (de_callB call_isi k_isi T.n_isinstance (by decide +kernel) (da_cons (de_var 0) (da_cons (de_bty T.n_bool (by decide +kernel)) da_nil))))))) (dss_one (ds_ret (de_and (de_callB call_isi k_isi T.n_isinstance (by decide +kernel) (da_cons (de_var 1) (da_cons (de_bty T.n_bool (by decide +kernel)) da_nil))) (de_and (de_callB call_isi k_isi T.n_isinstance (by decide +kernel) (da_cons (de_var 0) (da_cons (de_bty T.n_bool (by decide +kernel)) da_nil))) (de_one (de_cmp (or_eq hr.units) k_eqD (de_var 0) (de_var 1) (nomark _))))))) dss_nil)
    (dss_cons (ds_if (dt_val (de_callB call_isi k_isi T.n_isinstance (by decide +kernel) (da_cons (de_var 1) (da_cons (de_bty T.n_int (by decide +kernel)) da_nil)))) (dss_one (ds_ret (de_and (de_callB call_isi k_isi T.n_isinstance (by decide +kernel) (da_cons (de_var 0) (da_cons (de_bty T.n_int (by decide +kernel)) da_nil))) (de_one (de_cmp (or_eq hr.units) k_eqD (de_var 0) (de_var 1) (nomark _)))))) dss_nil)
    (dss_cons (ds_if (dw_t (dw_or (dt_val (de_callB call_isi k_isi T.n_isinstance (by decide +kernel) (da_cons (de_var 1) (da_cons (de_bty T.n_str (by decide +kernel)) da_nil)))) (dw_or1 (dt_val (de_callB call_isi k_isi T.n_isinstance (by decide +kernel) (da_cons (de_var 0) (da_cons (de_bty T.n_str (by decide +kernel)) da_nil))))))) (dss_one (ds_ret (de_and (de_callB call_isi k_isi T.n_isinstance (by decide +kernel) (da_cons (de_var 1) (da_cons (de_bty T.n_str (by decide +kernel)) da_nil))) (de_and (de_callB call_isi k_isi T.n_isinstance (by decide +kernel) (da_cons (de_var 0) (da_cons (de_bty T.n_str (by decide +kernel)) da_nil))) (de_one (de_cmp (or_eq hr.units) k_eqD (de_var 0) (de_var 1) (nomark _))))))) dss_nil)
    (dss_one (ds_ret (de_cmp (or_eq hr.units) k_eqD (de_callB (c_repr hr (hG rfl) hsys) k_repr T.n_repr (by decide +kernel) (da_cons (de_var 0) da_nil)) (de_callB (c_repr hr (hG rfl) hsys) k_repr T.n_repr (by decide +kernel) (da_cons (de_var 1) da_nil)) (nomark _)))))))))
theorem sc__law_words : FnScope nm__law_words ["_law_text"] (defScope st__law_words) := ⟨rfl, rfl, rfl, by decide +kernel, rfl, by decide +kernel, by decide +kernel⟩
theorem fn__law_words {fd : FuncData} (T : Tx K mg f__law_stream f__law_draw f__law_ready f__law_from f__law_begun f_heights_of f_need_of f_is_integer f_check_place f_turned f_need f_beginnings f_check_beginning f_term_of f_terms_from f__law_same f__law_words f_later_places f_find_taker f_takers f_free_places f_law) (Fu : Fun K "_law_words" "_law_words" st__law_words f__law_words fd) : FnD true P w K mg base 1 f__law_words F__law_words := by
  have nd := (sc__law_words).nd
  exact fnD_of Fu sc__law_words (Fu.binds fun _ _ _ _ _ _ us hl => match us, hl with | [_], _ => rfl) cl_drop fun cdv A outer s H E hr hG tk po =>
    (dss_cons (ds_repl 0 1 32 rfl nd)
    (dss_one (ds_ret (de_lc (own := [("_law_word", 2)]) fin_fl (ct_name 2) rfl nd (di_seq (de_bm PySem.F.plainAttrs_str PySem.F.slot_str_split PySem.F.type_str_split mt_split (k_split mk_fl) chk_str (de_var 0) (da_cons de_str da_nil))) (blkOk_by (own := [("_law_word", 2)]) (N := nm__law_words) (sc := defScope st__law_words) (by decide +kernel)) (fun _ _ _ _ _ => pg_name (i := 2) nd rfl (Or.inl rfl)) (fun _ _ _ _ _ => (dts_one (dt_cmp (or_ne hr.units) k_neD (de_var 2) de_str (nomark _)))) (fun _ _ _ _ _ => (de_var 2))))))
theorem sc_later_places : GScope nm_later_places ["ring", "place"] (defScope st_later_places) := ⟨rfl, rfl, rfl, by decide +kernel, rfl, by decide +kernel, by decide +kernel⟩
theorem nn_later_places : ∀ y ∈ (defScope st_later_places).names, y.2 ≠ .cell ∧ y.2 ≠ .free := by decide +kernel
theorem fn_later_places {fd : FuncData} (T : Tx K mg f__law_stream f__law_draw f__law_ready f__law_from f__law_begun f_heights_of f_need_of f_is_integer f_check_place f_turned f_need f_beginnings f_check_beginning f_term_of f_terms_from f__law_same f__law_words f_later_places f_find_taker f_takers f_free_places f_law) (Fu : Fun K "later_places" "later_places" st_later_places f_later_places fd) : GnD P w K mg base 0 f_later_places G_later_places := by
  have nd := (sc_later_places).nd
  exact gnD_of Fu sc_later_places nn_later_places (Fu.binds fun _ _ _ _ _ _ us hl => match us, hl with | [_, _], _ => rfl) gb_later_places fun cdv L ga =>
    (gss_one (gs_forJ (fun X pv H s hX hr => by
      obtain ⟨rfl, rfl, rfl, rfl, rfl⟩ := hX
      exact (dj_range2 rfl T.n_range (da_cons de_int (da_cons (de_op or_add k_add (de_callB c_len k_len T.n_len (by decide +kernel) (da_cons (de_var 0) da_nil)) de_int) da_nil)))) (fun X pv H s hX hr => by
      obtain ⟨rfl, rfl, rfl, rfl, rfl⟩ := hX
      exact (dg_name 2 nd)) (gss_one (gs_yield (genv_of sc_later_places.kind nn_later_places) (fun X pv H s hX hr => by
      obtain ⟨rfl, rfl, rfl, rfl, rfl⟩ := hX
      exact (de_op op_modN k_mod (de_op or_add k_add (de_var 1) (de_var 2)) (de_callB c_len k_len T.n_len (by decide +kernel) (da_cons (de_var 0) da_nil))))))))
theorem sc_find_taker : FnScope nm_find_taker ["ring", "place"] (defScope st_find_taker) := ⟨rfl, rfl, rfl, by decide +kernel, rfl, by decide +kernel, by decide +kernel⟩
theorem fn_find_taker {fd : FuncData} (T : Tx K mg f__law_stream f__law_draw f__law_ready f__law_from f__law_begun f_heights_of f_need_of f_is_integer f_check_place f_turned f_need f_beginnings f_check_beginning f_term_of f_terms_from f__law_same f__law_words f_later_places f_find_taker f_takers f_free_places f_law) (Fu : Fun K "find_taker" "find_taker" st_find_taker f_find_taker fd) (G_later_places : GnD P w K mg base 0 f_later_places G_later_places) : FnD false P w K mg base 3 f_find_taker F_find_taker := by
  have nd := (sc_find_taker).nd
  exact fnD_of Fu sc_find_taker (Fu.binds fun _ _ _ _ _ _ us hl => match us, hl with | [_, _], _ => rfl) cl_drop fun cdv A outer s H E hr hG tk po =>
    (dss_cons (ds_set 2 nd de_int)
    (dss_cons (ds_forG po calm_cx (hr.mono (by decide)) (pgx_call G_later_places (hr.mono (by decide)) rfl T.mg_later_places T.kp_later_places (da_cons (de_var 0) (da_cons (de_var 1) da_nil))) (dg_name 3 nd) (dss_cons (ds_if (dt_cmp op_gt k_gt (de_ix (de_var 0) (de_var 3)) (de_var 2) (nomark _)) (dss_one (ds_ret (de_var 3))) dss_nil)
    (dss_one (ds_aug 2 nd (de_op op_sub k_sub de_int (de_ix (de_var 0) (de_var 3))) ip_add k_ipadd))) dss_nil)
    (dss_one (ds_ret de_non))))
theorem sc_takers : FnScope nm_takers ["ring"] (defScope st_takers) := ⟨rfl, rfl, rfl, by decide +kernel, rfl, by decide +kernel, by decide +kernel⟩
theorem fn_takers {fd : FuncData} (T : Tx K mg f__law_stream f__law_draw f__law_ready f__law_from f__law_begun f_heights_of f_need_of f_is_integer f_check_place f_turned f_need f_beginnings f_check_beginning f_term_of f_terms_from f__law_same f__law_words f_later_places f_find_taker f_takers f_free_places f_law) (Fu : Fun K "takers" "takers" st_takers f_takers fd) (G_find_taker : FnD false P w K mg base 3 f_find_taker F_find_taker) : FnD false P w K mg base 4 f_takers F_takers := by
  have nd := (sc_takers).nd
  exact fnD_of Fu sc_takers (Fu.binds fun _ _ _ _ _ _ us hl => match us, hl with | [_], _ => rfl) cl_drop fun cdv A outer s H E hr hG tk po =>
    (dss_one (ds_ret (de_callTy call_tuple_of k_tuple T.n_tuple (by decide +kernel) (da_cons (de_lc (own := [("place", 1)]) fin_fl (ct_name 1) rfl nd (di_range1 rfl T.n_range (da_cons (de_callB c_len k_len T.n_len (by decide +kernel) (da_cons (de_var 0) da_nil)) da_nil)) (blkOk_by (own := [("place", 1)]) (N := nm_takers) (sc := defScope st_takers) (by decide +kernel)) (fun _ _ _ _ _ => pg_name (i := 1) nd rfl (Or.inl rfl)) (fun _ _ _ _ _ => dts_nil) (fun _ _ _ _ _ => (de_callD G_find_taker (hr.mono (by decide)) (fun z => nomatch z) takes0 T.mg_find_taker T.kp_find_taker (da_cons (de_var 0) (da_cons (de_var 1) da_nil))))) da_nil))))
theorem sc_free_places : FnScope nm_free_places ["ring"] (defScope st_free_places) := ⟨rfl, rfl, rfl, by decide +kernel, rfl, by decide +kernel, by decide +kernel⟩
theorem fn_free_places {fd : FuncData} (T : Tx K mg f__law_stream f__law_draw f__law_ready f__law_from f__law_begun f_heights_of f_need_of f_is_integer f_check_place f_turned f_need f_beginnings f_check_beginning f_term_of f_terms_from f__law_same f__law_words f_later_places f_find_taker f_takers f_free_places f_law) (Fu : Fun K "free_places" "free_places" st_free_places f_free_places fd) (G_takers : FnD false P w K mg base 4 f_takers F_takers) : FnD false P w K mg base 5 f_free_places F_free_places := by
  have nd := (sc_free_places).nd
  exact fnD_of Fu sc_free_places (Fu.binds fun _ _ _ _ _ _ us hl => match us, hl with | [_], _ => rfl) cl_drop fun cdv A outer s H E hr hG tk po =>
    (dss_one (ds_ret (de_callTy call_tuple_of k_tuple T.n_tuple (by decide +kernel) (da_cons (de_lc (own := [("place", 1), ("other", 2)]) fin_fl (ct_pair 1 2 (by decide)) rfl nd (di_enum rfl T.n_enumerate (da_cons (de_callD G_takers (hr.mono (by decide)) (fun z => nomatch z) tk T.mg_takers T.kp_takers (da_cons (de_var 0) da_nil)) da_nil)) (blkOk_by (own := [("place", 1), ("other", 2)]) (N := nm_free_places) (sc := defScope st_free_places) (by decide +kernel)) (fun _ _ _ _ _ => pg_tup rfl (pgs_cons (pg_name (i := 1) nd rfl (Or.inl rfl)) (pgs_cons (pg_name (i := 2) nd rfl (Or.inl rfl)) pgs_nil))) (fun _ _ _ _ _ => (dts_one (dt_cmp op_isN k_isN (de_var 2) de_non (nomark _)))) (fun _ _ _ _ _ => (de_var 1))) da_nil))))
theorem sc_law : FnScope nm_law ["_law_script"] (defScope st_law) := ⟨rfl, rfl, rfl, by decide +kernel, rfl, by decide +kernel, by decide +kernel⟩
theorem fn_law {fd : FuncData} (T : Tx K mg f__law_stream f__law_draw f__law_ready f__law_from f__law_begun f_heights_of f_need_of f_is_integer f_check_place f_turned f_need f_beginnings f_check_beginning f_term_of f_terms_from f__law_same f__law_words f_later_places f_find_taker f_takers f_free_places f_law) (Fu : Fun K "law" "law" st_law f_law fd) (G__law_stream : FnD true P w K mg base 1 f__law_stream F__law_stream) (G__law_begun : FnD true P w K mg base 3 f__law_begun F__law_begun) (G_beginnings : FnD false P w K mg base 5 f_beginnings F_beginnings) (G_terms_from : FnD false P w K mg base 6 f_terms_from F_terms_from) (G__law_same : FnD true P w K mg base 41 f__law_same (F__law_same 40)) (G__law_words : FnD true P w K mg base 1 f__law_words F__law_words) (G_free_places : FnD false P w K mg base 5 f_free_places F_free_places) : FnD true P w K mg base 42 f_law F_law := by
  have nd := (sc_law).nd
  exact fnD_of Fu sc_law (Fu.binds fun _ _ _ _ _ _ us hl => match us, hl with | [_], _ => rfl) cl_drop fun cdv A outer s H E hr hG tk po =>
    (dss_cons (ds_set 1 nd (de_callD G__law_stream (hr.mono (by decide)) hG tk T.mg__law_stream T.kp__law_stream (da_cons (de_var 0) da_nil)))
    (dss_cons (ds_for po rfl (di_range1 rfl T.n_range (da_cons de_int da_nil)) (dg_name 2 nd) (dss_cons (ds_set 3 nd (de_callD G__law_begun (hr.mono (by decide)) hG tk T.mg__law_begun T.kp__law_begun (da_cons (de_var 1) (da_cons de_int da_nil))))
    (dss_cons (ds_set 5 nd (de_callTy call_tuple_of k_tuple T.n_tuple (by decide +kernel) (da_cons (de_lc (own := [("_law_k", 4)]) fin_fl (ct_name 4) rfl nd (di_range1 rfl T.n_range (da_cons (de_callB c_len k_len T.n_len (by decide +kernel) (da_cons (de_var 3) da_nil)) da_nil)) (blkOk_by (own := [("_law_k", 4)]) (N := nm_law) (sc := defScope st_law) (by decide +kernel)) (fun _ _ _ _ _ => pg_name (i := 4) nd rfl (Or.inl rfl)) (fun _ _ _ _ _ => dts_nil) (fun _ _ _ _ _ => (de_op op_mulS k_mulS (de_ix de_str (de_var 4)) (de_op or_add k_add de_int (de_op op_modN k_mod (de_var 4) de_int))))) da_nil)))
    (dss_cons (ds_set 6 nd (de_callD G_beginnings (hr.mono (by decide)) (fun z => nomatch z) tk T.mg_beginnings T.kp_beginnings (da_cons (de_var 3) da_nil)))
    (dss_cons (ds_set 7 nd (de_callD G_terms_from (hr.mono (by decide)) (fun z => nomatch z) tk T.mg_terms_from T.kp_terms_from (da_cons (de_var 3) (da_cons (de_var 5) (da_cons (de_ix (de_var 6) de_int) da_nil)))))
    (dss_cons (ds_for po rfl (di_enum rfl T.n_enumerate (da_cons (de_var 6) da_nil)) (dg_tup rfl (dgs_cons (dg_name 4 nd) (dgs_cons (dg_name 8 nd) dgs_nil))) (dss_cons (ds_set 9 nd (de_callD G_terms_from (hr.mono (by decide)) (fun z => nomatch z) tk T.mg_terms_from T.kp_terms_from (da_cons (de_var 3) (da_cons (de_var 5) (da_cons (de_var 8) da_nil)))))
    (dss_one (ds_if (dw_t (dw_or (dt_not (dt_val (de_callD G__law_same (hr.mono (by decide)) hG tk T.mg__law_same T.kp__law_same (da_cons (de_var 9) (da_cons (de_op or_add k_add (de_sl mk_fl (de_var 7) (do_some (de_var 4)) do_none) (de_sl mk_fl (de_var 7) do_none (do_some (de_var 4)))) da_nil))))) (dw_or1 (dt_cmp (or_ne hr.units) k_neD (de_ix (de_callD G__law_words (hr.mono (by decide)) hG tk T.mg__law_words T.kp__law_words (da_cons (de_ix (de_var 9) (de_neg de_int)) da_nil)) de_int) (de_ix (de_var 5) (de_op op_sub k_sub (de_var 8) de_int)) (nomark _))))) (dss_one (ds_ret de_bl)) dss_nil))) dss_nil)
    (dss_cons (ds_if (dt_cmp (or_ne hr.units) k_neD (de_callB cr_sortT k_sortT T.n_sorted (by decide +kernel) (da_cons (de_callD G__law_words (hr.mono (by decide)) hG tk T.mg__law_words T.kp__law_words (da_cons (de_bm PySem.F.plainAttrs_str PySem.F.slot_str_join PySem.F.type_str_join mt_join k_join chk_str de_str (da_cons (de_var 7) da_nil)) da_nil)) da_nil)) (de_callB cr_sortT k_sortT T.n_sorted (by decide +kernel) (da_cons (de_var 5) da_nil)) (nomark _)) (dss_one (ds_ret de_bl)) dss_nil)
    (dss_cons (ds_setLc 10 (own := [("_law_term", 11)]) fin_fl (ct_name 11) rfl nd (di_seq (de_var 7)) (blkOk_by (own := [("_law_term", 11)]) (N := nm_law) (sc := defScope st_law) (by decide +kernel)) (fun _ _ _ _ _ => pg_name (i := 11) nd rfl (Or.inl rfl)) (fun _ _ _ _ _ => dts_nil) (fun _ _ _ _ _ => (de_ix (de_callD G__law_words (hr.mono (by decide)) hG takes0 T.mg__law_words T.kp__law_words (da_cons (de_var 11) da_nil)) de_int)))
    (dss_one (ds_if (dt_cmp (or_ne hr.units) k_neD (de_callB cr_sortT k_sortT T.n_sorted (by decide +kernel) (da_cons (de_var 10) da_nil)) (de_callB cr_sortT k_sortT T.n_sorted (by decide +kernel) (da_cons (de_lc (own := [("_law_place", 8)]) fin_fl (ct_name 8) rfl nd (di_seq (de_callD G_free_places (hr.mono (by decide)) (fun z => nomatch z) tk T.mg_free_places T.kp_free_places (da_cons (de_var 3) da_nil))) (blkOk_by (own := [("_law_place", 8)]) (N := nm_law) (sc := defScope st_law) (by decide +kernel)) (fun _ _ _ _ _ => pg_name (i := 8) nd rfl (Or.inl rfl)) (fun _ _ _ _ _ => dts_nil) (fun _ _ _ _ _ => (de_ix (de_var 5) (de_var 8)))) da_nil)) (nomark _)) (dss_one (ds_ret de_bl)) dss_nil))))))))) dss_nil)
    (dss_one (ds_ret de_bl))))
end
theorem all_mk {l : W.OpenLaw} {w : World} {K : W.Frag} {h : Heap} {mg : Str → Option Value} {fa f__law_stream f__law_draw f__law_ready f__law_from f__law_begun f_heights_of f_need_of f_is_integer f_check_place f_turned f_need f_beginnings f_check_beginning f_term_of f_terms_from f__law_same f__law_words f_later_places f_find_taker f_takers f_free_places f_law : Addr} (X : K.In h) (G : h.Ns mainGlobals mg) (hfa : mg "law" = some (.ref fa))
    {od__law_stream an__law_stream : Option Addr} {sl__law_stream : Array (Option Value)} {oc__law_stream kV__law_stream dc__law_stream pm__law_stream cd__law_stream ct__law_stream : Value}
    {od__law_draw an__law_draw : Option Addr} {sl__law_draw : Array (Option Value)} {oc__law_draw kV__law_draw dc__law_draw pm__law_draw cd__law_draw ct__law_draw : Value}
    {od__law_ready an__law_ready : Option Addr} {sl__law_ready : Array (Option Value)} {oc__law_ready kV__law_ready dc__law_ready pm__law_ready cd__law_ready ct__law_ready : Value}
    {od__law_from an__law_from : Option Addr} {sl__law_from : Array (Option Value)} {oc__law_from kV__law_from dc__law_from pm__law_from cd__law_from ct__law_from : Value}
    {od__law_begun an__law_begun : Option Addr} {sl__law_begun : Array (Option Value)} {oc__law_begun kV__law_begun dc__law_begun pm__law_begun cd__law_begun ct__law_begun : Value}
    {od_heights_of an_heights_of : Option Addr} {sl_heights_of : Array (Option Value)} {oc_heights_of kV_heights_of dc_heights_of pm_heights_of cd_heights_of ct_heights_of : Value}
    {od_need_of an_need_of : Option Addr} {sl_need_of : Array (Option Value)} {oc_need_of kV_need_of dc_need_of pm_need_of cd_need_of ct_need_of : Value}
    {od_is_integer an_is_integer : Option Addr} {sl_is_integer : Array (Option Value)} {oc_is_integer kV_is_integer dc_is_integer pm_is_integer cd_is_integer ct_is_integer : Value}
    {od_check_place an_check_place : Option Addr} {sl_check_place : Array (Option Value)} {oc_check_place kV_check_place dc_check_place pm_check_place cd_check_place ct_check_place : Value}
    {od_turned an_turned : Option Addr} {sl_turned : Array (Option Value)} {oc_turned kV_turned dc_turned pm_turned cd_turned ct_turned : Value}
    {od_need an_need : Option Addr} {sl_need : Array (Option Value)} {oc_need kV_need dc_need pm_need cd_need ct_need : Value}
    {od_beginnings an_beginnings : Option Addr} {sl_beginnings : Array (Option Value)} {oc_beginnings kV_beginnings dc_beginnings pm_beginnings cd_beginnings ct_beginnings : Value}
    {od_check_beginning an_check_beginning : Option Addr} {sl_check_beginning : Array (Option Value)} {oc_check_beginning kV_check_beginning dc_check_beginning pm_check_beginning cd_check_beginning ct_check_beginning : Value}
    {od_term_of an_term_of : Option Addr} {sl_term_of : Array (Option Value)} {oc_term_of kV_term_of dc_term_of pm_term_of cd_term_of ct_term_of : Value}
    {od_terms_from an_terms_from : Option Addr} {sl_terms_from : Array (Option Value)} {oc_terms_from kV_terms_from dc_terms_from pm_terms_from cd_terms_from ct_terms_from : Value}
    {od__law_same an__law_same : Option Addr} {sl__law_same : Array (Option Value)} {oc__law_same kV__law_same dc__law_same pm__law_same cd__law_same ct__law_same : Value}
    {od__law_words an__law_words : Option Addr} {sl__law_words : Array (Option Value)} {oc__law_words kV__law_words dc__law_words pm__law_words cd__law_words ct__law_words : Value}
    {od_later_places an_later_places : Option Addr} {sl_later_places : Array (Option Value)} {oc_later_places kV_later_places dc_later_places pm_later_places cd_later_places ct_later_places : Value}
    {od_find_taker an_find_taker : Option Addr} {sl_find_taker : Array (Option Value)} {oc_find_taker kV_find_taker dc_find_taker pm_find_taker cd_find_taker ct_find_taker : Value}
    {od_takers an_takers : Option Addr} {sl_takers : Array (Option Value)} {oc_takers kV_takers dc_takers pm_takers cd_takers ct_takers : Value}
    {od_free_places an_free_places : Option Addr} {sl_free_places : Array (Option Value)} {oc_free_places kV_free_places dc_free_places pm_free_places cd_free_places ct_free_places : Value}
    {od_law an_law : Option Addr} {sl_law : Array (Option Value)} {oc_law kV_law dc_law pm_law cd_law ct_law : Value}
    {C_NoBeginning : Addr}
    {I_NoBeginning N_NoBeginning : Addr} {nm_NoBeginning q_NoBeginning : Str} {bs_NoBeginning bm_NoBeginning sub_NoBeginning : List Value} {sn_NoBeginning : List Str} {ab_NoBeginning : Bool} {col_NoBeginning : Option Bool} {dd_NoBeginning : Option Addr} {k0_NoBeginning k1_NoBeginning k2_NoBeginning k3_NoBeginning k5_NoBeginning : Option Value}
    {io_NoBeginning ic_NoBeginning it_NoBeginning id_NoBeginning ip_NoBeginning : Value} {iq_NoBeginning ia_NoBeginning : Option Addr} {is_NoBeginning : Array (Option Value)} {p1_NoBeginning p2_NoBeginning q1_NoBeginning q2_NoBeginning q3_NoBeginning q4_NoBeginning : Pos}
    {C_NoPlace : Addr}
    {I_NoPlace N_NoPlace : Addr} {nm_NoPlace q_NoPlace : Str} {bs_NoPlace bm_NoPlace sub_NoPlace : List Value} {sn_NoPlace : List Str} {ab_NoPlace : Bool} {col_NoPlace : Option Bool} {dd_NoPlace : Option Addr} {k0_NoPlace k1_NoPlace k2_NoPlace k3_NoPlace k5_NoPlace : Option Value}
    {io_NoPlace ic_NoPlace it_NoPlace id_NoPlace ip_NoPlace : Value} {iq_NoPlace ia_NoPlace : Option Addr} {is_NoPlace : Array (Option Value)} {p1_NoPlace p2_NoPlace q1_NoPlace q2_NoPlace q3_NoPlace q4_NoPlace : Pos}
    (a__law_stream : W.nsIn K mainGlobals "_law_stream" = some (some (.ref f__law_stream)))
    (l__law_stream : K.lookup f__law_stream = some ⟨oc__law_stream, od__law_stream, .func (W.fnOf "_law_stream" "_law_stream" (defArgs st__law_stream) (defBody st__law_stream) (defScope st__law_stream) .none kV__law_stream dc__law_stream pm__law_stream an__law_stream cd__law_stream ct__law_stream), sl__law_stream⟩)
    (c__law_stream : W.codeIn K cd__law_stream "_law_stream" = true)
    (k__law_stream : W.keepIn K (.ref f__law_stream) = true)
    (a__law_draw : W.nsIn K mainGlobals "_law_draw" = some (some (.ref f__law_draw)))
    (l__law_draw : K.lookup f__law_draw = some ⟨oc__law_draw, od__law_draw, .func (W.fnOf "_law_draw" "_law_draw" (defArgs st__law_draw) (defBody st__law_draw) (defScope st__law_draw) .none kV__law_draw dc__law_draw pm__law_draw an__law_draw cd__law_draw ct__law_draw), sl__law_draw⟩)
    (c__law_draw : W.codeIn K cd__law_draw "_law_draw" = true)
    (k__law_draw : W.keepIn K (.ref f__law_draw) = true)
    (a__law_ready : W.nsIn K mainGlobals "_law_ready" = some (some (.ref f__law_ready)))
    (l__law_ready : K.lookup f__law_ready = some ⟨oc__law_ready, od__law_ready, .func (W.fnOf "_law_ready" "_law_ready" (defArgs st__law_ready) (defBody st__law_ready) (defScope st__law_ready) .none kV__law_ready dc__law_ready pm__law_ready an__law_ready cd__law_ready ct__law_ready), sl__law_ready⟩)
    (c__law_ready : W.codeIn K cd__law_ready "_law_ready" = true)
    (k__law_ready : W.keepIn K (.ref f__law_ready) = true)
    (a__law_from : W.nsIn K mainGlobals "_law_from" = some (some (.ref f__law_from)))
    (l__law_from : K.lookup f__law_from = some ⟨oc__law_from, od__law_from, .func (W.fnOf "_law_from" "_law_from" (defArgs st__law_from) (defBody st__law_from) (defScope st__law_from) .none kV__law_from dc__law_from pm__law_from an__law_from cd__law_from ct__law_from), sl__law_from⟩)
    (c__law_from : W.codeIn K cd__law_from "_law_from" = true)
    (k__law_from : W.keepIn K (.ref f__law_from) = true)
    (a__law_begun : W.nsIn K mainGlobals "_law_begun" = some (some (.ref f__law_begun)))
    (l__law_begun : K.lookup f__law_begun = some ⟨oc__law_begun, od__law_begun, .func (W.fnOf "_law_begun" "_law_begun" (defArgs st__law_begun) (defBody st__law_begun) (defScope st__law_begun) .none kV__law_begun dc__law_begun pm__law_begun an__law_begun cd__law_begun ct__law_begun), sl__law_begun⟩)
    (c__law_begun : W.codeIn K cd__law_begun "_law_begun" = true)
    (k__law_begun : W.keepIn K (.ref f__law_begun) = true)
    (a_heights_of : W.nsIn K mainGlobals "heights_of" = some (some (.ref f_heights_of)))
    (l_heights_of : K.lookup f_heights_of = some ⟨oc_heights_of, od_heights_of, .func (W.fnOf "heights_of" "heights_of" (defArgs st_heights_of) (defBody st_heights_of) (defScope st_heights_of) .none kV_heights_of dc_heights_of pm_heights_of an_heights_of cd_heights_of ct_heights_of), sl_heights_of⟩)
    (c_heights_of : W.codeIn K cd_heights_of "heights_of" = true)
    (k_heights_of : W.keepIn K (.ref f_heights_of) = true)
    (a_need_of : W.nsIn K mainGlobals "need_of" = some (some (.ref f_need_of)))
    (l_need_of : K.lookup f_need_of = some ⟨oc_need_of, od_need_of, .func (W.fnOf "need_of" "need_of" (defArgs st_need_of) (defBody st_need_of) (defScope st_need_of) .none kV_need_of dc_need_of pm_need_of an_need_of cd_need_of ct_need_of), sl_need_of⟩)
    (c_need_of : W.codeIn K cd_need_of "need_of" = true)
    (k_need_of : W.keepIn K (.ref f_need_of) = true)
    (a_is_integer : W.nsIn K mainGlobals "is_integer" = some (some (.ref f_is_integer)))
    (l_is_integer : K.lookup f_is_integer = some ⟨oc_is_integer, od_is_integer, .func (W.fnOf "is_integer" "is_integer" (defArgs st_is_integer) (defBody st_is_integer) (defScope st_is_integer) .none kV_is_integer dc_is_integer pm_is_integer an_is_integer cd_is_integer ct_is_integer), sl_is_integer⟩)
    (c_is_integer : W.codeIn K cd_is_integer "is_integer" = true)
    (k_is_integer : W.keepIn K (.ref f_is_integer) = true)
    (a_check_place : W.nsIn K mainGlobals "check_place" = some (some (.ref f_check_place)))
    (l_check_place : K.lookup f_check_place = some ⟨oc_check_place, od_check_place, .func (W.fnOf "check_place" "check_place" (defArgs st_check_place) (defBody st_check_place) (defScope st_check_place) .none kV_check_place dc_check_place pm_check_place an_check_place cd_check_place ct_check_place), sl_check_place⟩)
    (c_check_place : W.codeIn K cd_check_place "check_place" = true)
    (k_check_place : W.keepIn K (.ref f_check_place) = true)
    (a_turned : W.nsIn K mainGlobals "turned" = some (some (.ref f_turned)))
    (l_turned : K.lookup f_turned = some ⟨oc_turned, od_turned, .func (W.fnOf "turned" "turned" (defArgs st_turned) (defBody st_turned) (defScope st_turned) .none kV_turned dc_turned pm_turned an_turned cd_turned ct_turned), sl_turned⟩)
    (c_turned : W.codeIn K cd_turned "turned" = true)
    (k_turned : W.keepIn K (.ref f_turned) = true)
    (a_need : W.nsIn K mainGlobals "need" = some (some (.ref f_need)))
    (l_need : K.lookup f_need = some ⟨oc_need, od_need, .func (W.fnOf "need" "need" (defArgs st_need) (defBody st_need) (defScope st_need) .none kV_need dc_need pm_need an_need cd_need ct_need), sl_need⟩)
    (c_need : W.codeIn K cd_need "need" = true)
    (k_need : W.keepIn K (.ref f_need) = true)
    (a_beginnings : W.nsIn K mainGlobals "beginnings" = some (some (.ref f_beginnings)))
    (l_beginnings : K.lookup f_beginnings = some ⟨oc_beginnings, od_beginnings, .func (W.fnOf "beginnings" "beginnings" (defArgs st_beginnings) (defBody st_beginnings) (defScope st_beginnings) .none kV_beginnings dc_beginnings pm_beginnings an_beginnings cd_beginnings ct_beginnings), sl_beginnings⟩)
    (c_beginnings : W.codeIn K cd_beginnings "beginnings" = true)
    (k_beginnings : W.keepIn K (.ref f_beginnings) = true)
    (a_check_beginning : W.nsIn K mainGlobals "check_beginning" = some (some (.ref f_check_beginning)))
    (l_check_beginning : K.lookup f_check_beginning = some ⟨oc_check_beginning, od_check_beginning, .func (W.fnOf "check_beginning" "check_beginning" (defArgs st_check_beginning) (defBody st_check_beginning) (defScope st_check_beginning) .none kV_check_beginning dc_check_beginning pm_check_beginning an_check_beginning cd_check_beginning ct_check_beginning), sl_check_beginning⟩)
    (c_check_beginning : W.codeIn K cd_check_beginning "check_beginning" = true)
    (k_check_beginning : W.keepIn K (.ref f_check_beginning) = true)
    (a_term_of : W.nsIn K mainGlobals "term_of" = some (some (.ref f_term_of)))
    (l_term_of : K.lookup f_term_of = some ⟨oc_term_of, od_term_of, .func (W.fnOf "term_of" "term_of" (defArgs st_term_of) (defBody st_term_of) (defScope st_term_of) .none kV_term_of dc_term_of pm_term_of an_term_of cd_term_of ct_term_of), sl_term_of⟩)
    (c_term_of : W.codeIn K cd_term_of "term_of" = true)
    (k_term_of : W.keepIn K (.ref f_term_of) = true)
    (a_terms_from : W.nsIn K mainGlobals "terms_from" = some (some (.ref f_terms_from)))
    (l_terms_from : K.lookup f_terms_from = some ⟨oc_terms_from, od_terms_from, .func (W.fnOf "terms_from" "terms_from" (defArgs st_terms_from) (defBody st_terms_from) (defScope st_terms_from) .none kV_terms_from dc_terms_from pm_terms_from an_terms_from cd_terms_from ct_terms_from), sl_terms_from⟩)
    (c_terms_from : W.codeIn K cd_terms_from "terms_from" = true)
    (k_terms_from : W.keepIn K (.ref f_terms_from) = true)
    (a__law_same : W.nsIn K mainGlobals "_law_same" = some (some (.ref f__law_same)))
    (l__law_same : K.lookup f__law_same = some ⟨oc__law_same, od__law_same, .func (W.fnOf "_law_same" "_law_same" (defArgs st__law_same) (defBody st__law_same) (defScope st__law_same) .none kV__law_same dc__law_same pm__law_same an__law_same cd__law_same ct__law_same), sl__law_same⟩)
    (c__law_same : W.codeIn K cd__law_same "_law_same" = true)
    (k__law_same : W.keepIn K (.ref f__law_same) = true)
    (a__law_words : W.nsIn K mainGlobals "_law_words" = some (some (.ref f__law_words)))
    (l__law_words : K.lookup f__law_words = some ⟨oc__law_words, od__law_words, .func (W.fnOf "_law_words" "_law_words" (defArgs st__law_words) (defBody st__law_words) (defScope st__law_words) .none kV__law_words dc__law_words pm__law_words an__law_words cd__law_words ct__law_words), sl__law_words⟩)
    (c__law_words : W.codeIn K cd__law_words "_law_words" = true)
    (k__law_words : W.keepIn K (.ref f__law_words) = true)
    (a_later_places : W.nsIn K mainGlobals "later_places" = some (some (.ref f_later_places)))
    (l_later_places : K.lookup f_later_places = some ⟨oc_later_places, od_later_places, .func (W.fnOf "later_places" "later_places" (defArgs st_later_places) (defBody st_later_places) (defScope st_later_places) .none kV_later_places dc_later_places pm_later_places an_later_places cd_later_places ct_later_places), sl_later_places⟩)
    (c_later_places : W.codeIn K cd_later_places "later_places" = true)
    (k_later_places : W.keepIn K (.ref f_later_places) = true)
    (a_find_taker : W.nsIn K mainGlobals "find_taker" = some (some (.ref f_find_taker)))
    (l_find_taker : K.lookup f_find_taker = some ⟨oc_find_taker, od_find_taker, .func (W.fnOf "find_taker" "find_taker" (defArgs st_find_taker) (defBody st_find_taker) (defScope st_find_taker) .none kV_find_taker dc_find_taker pm_find_taker an_find_taker cd_find_taker ct_find_taker), sl_find_taker⟩)
    (c_find_taker : W.codeIn K cd_find_taker "find_taker" = true)
    (k_find_taker : W.keepIn K (.ref f_find_taker) = true)
    (a_takers : W.nsIn K mainGlobals "takers" = some (some (.ref f_takers)))
    (l_takers : K.lookup f_takers = some ⟨oc_takers, od_takers, .func (W.fnOf "takers" "takers" (defArgs st_takers) (defBody st_takers) (defScope st_takers) .none kV_takers dc_takers pm_takers an_takers cd_takers ct_takers), sl_takers⟩)
    (c_takers : W.codeIn K cd_takers "takers" = true)
    (k_takers : W.keepIn K (.ref f_takers) = true)
    (a_free_places : W.nsIn K mainGlobals "free_places" = some (some (.ref f_free_places)))
    (l_free_places : K.lookup f_free_places = some ⟨oc_free_places, od_free_places, .func (W.fnOf "free_places" "free_places" (defArgs st_free_places) (defBody st_free_places) (defScope st_free_places) .none kV_free_places dc_free_places pm_free_places an_free_places cd_free_places ct_free_places), sl_free_places⟩)
    (c_free_places : W.codeIn K cd_free_places "free_places" = true)
    (k_free_places : W.keepIn K (.ref f_free_places) = true)
    (a_law : W.nsIn K mainGlobals "law" = some (some (.ref f_law)))
    (l_law : K.lookup f_law = some ⟨oc_law, od_law, .func (W.fnOf "law" "law" (defArgs st_law) (defBody st_law) (defScope st_law) .none kV_law dc_law pm_law an_law cd_law ct_law), sl_law⟩)
    (c_law : W.codeIn K cd_law "law" = true)
    (k_law : W.keepIn K (.ref f_law) = true)
    (ca_NoBeginning : W.nsIn K mainGlobals "NoBeginning" = some (some (.ref C_NoBeginning)))
    (ck_NoBeginning : W.keepIn K (.ref C_NoBeginning) = true)
    (ce_NoBeginning : W.subIn K (.ref C_NoBeginning) (.type "BaseException") = some true)
    (ct_NoBeginning : W.typeIn K (.ref C_NoBeginning) = some (.type "type"))
    (cl_NoBeginning : K.lookup C_NoBeginning = some (excClassObj nm_NoBeginning q_NoBeginning C_NoBeginning N_NoBeginning bs_NoBeginning bm_NoBeginning true sn_NoBeginning sub_NoBeginning ab_NoBeginning col_NoBeginning dd_NoBeginning k0_NoBeginning k1_NoBeginning k2_NoBeginning k3_NoBeginning k5_NoBeginning "ValueError.__new__"))
    (cs_NoBeginning : W.findIn K (.ref C_NoBeginning) "__setattr__" = some (some (.builtin "object.__setattr__")))
    (cn_NoBeginning : W.findIn K (.ref C_NoBeginning) "value" = some none)
    (ci_NoBeginning : W.findIn K (.ref C_NoBeginning) "__init__" = some (some (.ref I_NoBeginning)))
    (cf_NoBeginning : W.typeIn K (.ref I_NoBeginning) = some (.type "function"))
    (cg_NoBeginning : K.lookup I_NoBeginning = some ⟨io_NoBeginning, iq_NoBeginning, .func (W.fnOf "__init__" "NoBeginning.__init__" (iA "value" p1_NoBeginning p2_NoBeginning) (iB "value" q1_NoBeginning q2_NoBeginning q3_NoBeginning q4_NoBeginning) (iS "value") .none .none id_NoBeginning ip_NoBeginning ia_NoBeginning ic_NoBeginning it_NoBeginning), is_NoBeginning⟩)
    (cc_NoBeginning : W.codeIn K ic_NoBeginning "NoBeginning.__init__" = true)
    (cm_NoBeginning : W.excTail [.type "ValueError", .type "Exception", .type "BaseException", .type "object"] bm_NoBeginning = true)
    (ca_NoPlace : W.nsIn K mainGlobals "NoPlace" = some (some (.ref C_NoPlace)))
    (ck_NoPlace : W.keepIn K (.ref C_NoPlace) = true)
    (ce_NoPlace : W.subIn K (.ref C_NoPlace) (.type "BaseException") = some true)
    (ct_NoPlace : W.typeIn K (.ref C_NoPlace) = some (.type "type"))
    (cl_NoPlace : K.lookup C_NoPlace = some (excClassObj nm_NoPlace q_NoPlace C_NoPlace N_NoPlace bs_NoPlace bm_NoPlace true sn_NoPlace sub_NoPlace ab_NoPlace col_NoPlace dd_NoPlace k0_NoPlace k1_NoPlace k2_NoPlace k3_NoPlace k5_NoPlace "LookupError.__new__"))
    (cs_NoPlace : W.findIn K (.ref C_NoPlace) "__setattr__" = some (some (.builtin "object.__setattr__")))
    (cn_NoPlace : W.findIn K (.ref C_NoPlace) "value" = some none)
    (ci_NoPlace : W.findIn K (.ref C_NoPlace) "__init__" = some (some (.ref I_NoPlace)))
    (cf_NoPlace : W.typeIn K (.ref I_NoPlace) = some (.type "function"))
    (cg_NoPlace : K.lookup I_NoPlace = some ⟨io_NoPlace, iq_NoPlace, .func (W.fnOf "__init__" "NoPlace.__init__" (iA "value" p1_NoPlace p2_NoPlace) (iB "value" q1_NoPlace q2_NoPlace q3_NoPlace q4_NoPlace) (iS "value") .none .none id_NoPlace ip_NoPlace ia_NoPlace ic_NoPlace it_NoPlace), is_NoPlace⟩)
    (cc_NoPlace : W.codeIn K ic_NoPlace "NoPlace.__init__" = true)
    (cm_NoPlace : W.excTail [.type "LookupError", .type "Exception", .type "BaseException", .type "object"] bm_NoPlace = true)
    (z_range : W.nsIn K mainGlobals "range" = some none)
    (z_len : W.nsIn K mainGlobals "len" = some none)
    (z_tuple : W.nsIn K mainGlobals "tuple" = some none)
    (z_enumerate : W.nsIn K mainGlobals "enumerate" = some none)
    (z_sorted : W.nsIn K mainGlobals "sorted" = some none)
    (z_abs : W.nsIn K mainGlobals "abs" = some none)
    (z_min : W.nsIn K mainGlobals "min" = some none)
    (z_list : W.nsIn K mainGlobals "list" = some none)
    (z_int : W.nsIn K mainGlobals "int" = some none)
    (z_isinstance : W.nsIn K mainGlobals "isinstance" = some none)
    (z_bool : W.nsIn K mainGlobals "bool" = some none)
    (z_zip : W.nsIn K mainGlobals "zip" = some none)
    (z_all : W.nsIn K mainGlobals "all" = some none)
    (z_str : W.nsIn K mainGlobals "str" = some none)
    (z_repr : W.nsIn K mainGlobals "repr" = some none)
    (hl : LawOk F_law) : ∃ F : Fn, LawOk F ∧ ∀ base : Heap, K.In base → base.Ns mainGlobals mg → (∃ o, base.get? sysModules = some o) → FnD true l.prog w K mg base 42 fa F := by
  have e := hfa.symm.trans (W.mg_of X G a_law)
  cases e
  have T : Tx K mg f__law_stream f__law_draw f__law_ready f__law_from f__law_begun f_heights_of f_need_of f_is_integer f_check_place f_turned f_need f_beginnings f_check_beginning f_term_of f_terms_from f__law_same f__law_words f_later_places f_find_taker f_takers f_free_places fa := ⟨W.mg_of X G a__law_stream, k__law_stream, W.mg_of X G a__law_draw, k__law_draw, W.mg_of X G a__law_ready, k__law_ready, W.mg_of X G a__law_from, k__law_from, W.mg_of X G a__law_begun, k__law_begun, W.mg_of X G a_heights_of, k_heights_of, W.mg_of X G a_need_of, k_need_of, W.mg_of X G a_is_integer, k_is_integer, W.mg_of X G a_check_place, k_check_place, W.mg_of X G a_turned, k_turned, W.mg_of X G a_need, k_need, W.mg_of X G a_beginnings, k_beginnings, W.mg_of X G a_check_beginning, k_check_beginning, W.mg_of X G a_term_of, k_term_of, W.mg_of X G a_terms_from, k_terms_from, W.mg_of X G a__law_same, k__law_same, W.mg_of X G a__law_words, k__law_words, W.mg_of X G a_later_places, k_later_places, W.mg_of X G a_find_taker, k_find_taker, W.mg_of X G a_takers, k_takers, W.mg_of X G a_free_places, k_free_places, W.mg_none_of X G z_range, W.mg_none_of X G z_len, W.mg_none_of X G z_tuple, W.mg_none_of X G z_enumerate, W.mg_none_of X G z_sorted, W.mg_none_of X G z_abs, W.mg_none_of X G z_min, W.mg_none_of X G z_list, W.mg_none_of X G z_int, W.mg_none_of X G z_isinstance, W.mg_none_of X G z_bool, W.mg_none_of X G z_zip, W.mg_none_of X G z_all, W.mg_none_of X G z_str, W.mg_none_of X G z_repr⟩
  have T0_NoBeginning : XCls K "NoBeginning" C_NoBeginning := ⟨ca_NoBeginning, ck_NoBeginning, ce_NoBeginning, ct_NoBeginning⟩
  have mc_NoBeginning := W.mg_of X G ca_NoBeginning
  have TI_NoBeginning : XInit K C_NoBeginning I_NoBeginning "NoBeginning.__init__" "value" := ⟨⟨_, _, _, _, _, _, _, _, _, _, _, _, _, _, _, _, _, xb_VE, cl_NoBeginning, cm_NoBeginning⟩, cs_NoBeginning, cn_NoBeginning, ci_NoBeginning, cf_NoBeginning, ⟨_, _, _, _, _, _, _, _, _, _, _, _, _, _, cg_NoBeginning, cc_NoBeginning⟩, fun _ _ _ _ _ _ _ _ _ _ _ _ _ => rfl, by decide, by decide⟩
  have T0_NoPlace : XCls K "NoPlace" C_NoPlace := ⟨ca_NoPlace, ck_NoPlace, ce_NoPlace, ct_NoPlace⟩
  have mc_NoPlace := W.mg_of X G ca_NoPlace
  have TI_NoPlace : XInit K C_NoPlace I_NoPlace "NoPlace.__init__" "value" := ⟨⟨_, _, _, _, _, _, _, _, _, _, _, _, _, _, _, _, _, xb_LE, cl_NoPlace, cm_NoPlace⟩, cs_NoPlace, cn_NoPlace, ci_NoPlace, cf_NoPlace, ⟨_, _, _, _, _, _, _, _, _, _, _, _, _, _, cg_NoPlace, cc_NoPlace⟩, fun _ _ _ _ _ _ _ _ _ _ _ _ _ => rfl, by decide, by decide⟩
  refine ⟨F_law, hl, fun base _ _ hsys => ?_⟩
  have G__law_stream : FnD true l.prog w K mg base 1 f__law_stream F__law_stream := fn__law_stream T (fun_mk (st := st__law_stream) l__law_stream c__law_stream k__law_stream) 
  have G__law_draw : FnD true l.prog w K mg base 1 f__law_draw F__law_draw := fn__law_draw T (fun_mk (st := st__law_draw) l__law_draw c__law_draw k__law_draw) 
  have G__law_ready : FnD true l.prog w K mg base 2 f__law_ready F__law_ready := fn__law_ready T (fun_mk (st := st__law_ready) l__law_ready c__law_ready k__law_ready) G__law_draw
  have G__law_from : FnD true l.prog w K mg base 1 f__law_from F__law_from := fn__law_from T (fun_mk (st := st__law_from) l__law_from c__law_from k__law_from) 
  have G__law_begun : FnD true l.prog w K mg base 3 f__law_begun F__law_begun := fn__law_begun T (fun_mk (st := st__law_begun) l__law_begun c__law_begun k__law_begun) G__law_ready G__law_from G__law_draw
  have G_heights_of : FnD false l.prog w K mg base 1 f_heights_of F_heights_of := fn_heights_of T (fun_mk (st := st_heights_of) l_heights_of c_heights_of k_heights_of) 
  have G_need_of : FnD false l.prog w K mg base 2 f_need_of F_need_of := fn_need_of T (fun_mk (st := st_need_of) l_need_of c_need_of k_need_of) G_heights_of
  have G_is_integer : FnD false l.prog w K mg base 1 f_is_integer F_is_integer := fn_is_integer T (fun_mk (st := st_is_integer) l_is_integer c_is_integer k_is_integer) 
  have G_check_place : FnD false l.prog w K mg base 2 f_check_place F_check_place := fn_check_place T (fun_mk (st := st_check_place) l_check_place c_check_place k_check_place) G_is_integer T0_NoPlace mc_NoPlace TI_NoPlace
  have G_turned : FnD false l.prog w K mg base 3 f_turned F_turned := fn_turned T (fun_mk (st := st_turned) l_turned c_turned k_turned) G_check_place
  have G_need : FnD false l.prog w K mg base 4 f_need F_need := fn_need T (fun_mk (st := st_need) l_need c_need k_need) G_need_of G_turned
  have G_beginnings : FnD false l.prog w K mg base 5 f_beginnings F_beginnings := fn_beginnings T (fun_mk (st := st_beginnings) l_beginnings c_beginnings k_beginnings) G_need
  have G_check_beginning : FnD false l.prog w K mg base 5 f_check_beginning F_check_beginning := fn_check_beginning T (fun_mk (st := st_check_beginning) l_check_beginning c_check_beginning k_check_beginning) G_check_place G_need T0_NoBeginning mc_NoBeginning TI_NoBeginning
  have G_term_of : FnD false l.prog w K mg base 1 f_term_of F_term_of := fn_term_of T (fun_mk (st := st_term_of) l_term_of c_term_of k_term_of) 
  have G_terms_from : FnD false l.prog w K mg base 6 f_terms_from F_terms_from := fn_terms_from T (fun_mk (st := st_terms_from) l_terms_from c_terms_from k_terms_from) G_check_beginning G_turned G_term_of
  have G__law_same : FnD true l.prog w K mg base 41 f__law_same (F__law_same 40) := fn__law_same T (fun_mk (st := st__law_same) l__law_same c__law_same k__law_same)  hsys 40
  have G__law_words : FnD true l.prog w K mg base 1 f__law_words F__law_words := fn__law_words T (fun_mk (st := st__law_words) l__law_words c__law_words k__law_words) 
  have G_later_places : GnD l.prog w K mg base 0 f_later_places G_later_places := fn_later_places T (fun_mk (st := st_later_places) l_later_places c_later_places k_later_places) 
  have G_find_taker : FnD false l.prog w K mg base 3 f_find_taker F_find_taker := fn_find_taker T (fun_mk (st := st_find_taker) l_find_taker c_find_taker k_find_taker) G_later_places
  have G_takers : FnD false l.prog w K mg base 4 f_takers F_takers := fn_takers T (fun_mk (st := st_takers) l_takers c_takers k_takers) G_find_taker
  have G_free_places : FnD false l.prog w K mg base 5 f_free_places F_free_places := fn_free_places T (fun_mk (st := st_free_places) l_free_places c_free_places k_free_places) G_takers
  have G_law : FnD true l.prog w K mg base 42 fa F_law := fn_law T (fun_mk (st := st_law) l_law c_law k_law) G__law_stream G__law_begun G_beginnings G_terms_from G__law_same G__law_words G_free_places
  exact G_law
end TX
open PySem PySem.W PyProof.Rows
set_option maxRecDepth 100000 in
set_option maxHeartbeats 0 in
theorem HL.mk : ∀ (w : World) (mg : PySem.Str → Option Value) (fa : Addr) (h : Heap), (HL.K0.heap_39 w.params).In h → h.Ns mainGlobals mg → mg "law" = some (.ref fa) →
    ∃ F : DL.Fn, DL.LawOk F ∧ ∀ base : Heap, (HL.K0.heap_39 w.params).In base → base.Ns mainGlobals mg → (∃ o, base.get? sysModules = some o) → DL.FnD true (PySem.Challenge.rw_ringpostfix_k34_whole_same_terms_turned).prog w (HL.K0.heap_39 w.params) mg base 42 fa F := by
    intro w mg fa h KX G hmg
    refine' TX.all_mk KX G hmg ?a__law_stream ?l__law_stream ?c__law_stream ?k__law_stream ?a__law_draw ?l__law_draw ?c__law_draw ?k__law_draw ?a__law_ready ?l__law_ready ?c__law_ready ?k__law_ready ?a__law_from ?l__law_from ?c__law_from ?k__law_from ?a__law_begun ?l__law_begun ?c__law_begun ?k__law_begun ?a_heights_of ?l_heights_of ?c_heights_of ?k_heights_of ?a_need_of ?l_need_of ?c_need_of ?k_need_of ?a_is_integer ?l_is_integer ?c_is_integer ?k_is_integer ?a_check_place ?l_check_place ?c_check_place ?k_check_place ?a_turned ?l_turned ?c_turned ?k_turned ?a_need ?l_need ?c_need ?k_need ?a_beginnings ?l_beginnings ?c_beginnings ?k_beginnings ?a_check_beginning ?l_check_beginning ?c_check_beginning ?k_check_beginning ?a_term_of ?l_term_of ?c_term_of ?k_term_of ?a_terms_from ?l_terms_from ?c_terms_from ?k_terms_from ?a__law_same ?l__law_same ?c__law_same ?k__law_same ?a__law_words ?l__law_words ?c__law_words ?k__law_words ?a_later_places ?l_later_places ?c_later_places ?k_later_places ?a_find_taker ?l_find_taker ?c_find_taker ?k_find_taker ?a_takers ?l_takers ?c_takers ?k_takers ?a_free_places ?l_free_places ?c_free_places ?k_free_places ?a_law ?l_law ?c_law ?k_law ?ca_NoBeginning ?ck_NoBeginning ?ce_NoBeginning ?ct_NoBeginning ?cl_NoBeginning ?cs_NoBeginning ?cn_NoBeginning ?ci_NoBeginning ?cf_NoBeginning ?cg_NoBeginning ?cc_NoBeginning ?cm_NoBeginning ?ca_NoPlace ?ck_NoPlace ?ce_NoPlace ?ct_NoPlace ?cl_NoPlace ?cs_NoPlace ?cn_NoPlace ?ci_NoPlace ?cf_NoPlace ?cg_NoPlace ?cc_NoPlace ?cm_NoPlace ?z_range ?z_len ?z_tuple ?z_enumerate ?z_sorted ?z_abs ?z_min ?z_list ?z_int ?z_isinstance ?z_bool ?z_zip ?z_all ?z_str ?z_repr TX.law_ok
    (case a__law_stream => k_is)
    (case l__law_stream => k_is)
    (case c__law_stream => k_is)
    (case k__law_stream => k_is)
    (case a__law_draw => k_is)
    (case l__law_draw => k_is)
    (case c__law_draw => k_is)
    (case k__law_draw => k_is)
    (case a__law_ready => k_is)
    (case l__law_ready => k_is)
    (case c__law_ready => k_is)
    (case k__law_ready => k_is)
    (case a__law_from => k_is)
    (case l__law_from => k_is)
    (case c__law_from => k_is)
    (case k__law_from => k_is)
    (case a__law_begun => k_is)
    (case l__law_begun => k_is)
    (case c__law_begun => k_is)
    (case k__law_begun => k_is)
    (case a_heights_of => k_is)
    (case l_heights_of => k_is)
    (case c_heights_of => k_is)
    (case k_heights_of => k_is)
    (case a_need_of => k_is)
    (case l_need_of => k_is)
    (case c_need_of => k_is)
    (case k_need_of => k_is)
    (case a_is_integer => k_is)
    (case l_is_integer => k_is)
    (case c_is_integer => k_is)
    (case k_is_integer => k_is)
    (case a_check_place => k_is)
    (case l_check_place => k_is)
    (case c_check_place => k_is)
    (case k_check_place => k_is)
    (case a_turned => k_is)
    (case l_turned => k_is)
    (case c_turned => k_is)
    (case k_turned => k_is)
    (case a_need => k_is)
    (case l_need => k_is)
    (case c_need => k_is)
    (case k_need => k_is)
    (case a_beginnings => k_is)
    (case l_beginnings => k_is)
    (case c_beginnings => k_is)
    (case k_beginnings => k_is)
    (case a_check_beginning => k_is)
    (case l_check_beginning => k_is)
    (case c_check_beginning => k_is)
    (case k_check_beginning => k_is)
    (case a_term_of => k_is)
    (case l_term_of => k_is)
    (case c_term_of => k_is)
    (case k_term_of => k_is)
    (case a_terms_from => k_is)
    (case l_terms_from => k_is)
    (case c_terms_from => k_is)
    (case k_terms_from => k_is)
    (case a__law_same => k_is)
    (case l__law_same => k_is)
    (case c__law_same => k_is)
    (case k__law_same => k_is)
    (case a__law_words => k_is)
    (case l__law_words => k_is)
    (case c__law_words => k_is)
    (case k__law_words => k_is)
    (case a_later_places => k_is)
    (case l_later_places => k_is)
    (case c_later_places => k_is)
    (case k_later_places => k_is)
    (case a_find_taker => k_is)
    (case l_find_taker => k_is)
    (case c_find_taker => k_is)
    (case k_find_taker => k_is)
    (case a_takers => k_is)
    (case l_takers => k_is)
    (case c_takers => k_is)
    (case k_takers => k_is)
    (case a_free_places => k_is)
    (case l_free_places => k_is)
    (case c_free_places => k_is)
    (case k_free_places => k_is)
    (case a_law => k_is)
    (case l_law => k_is)
    (case c_law => k_is)
    (case k_law => k_is)
    (case ca_NoBeginning => k_is)
    (case ck_NoBeginning => k_is)
    (case ce_NoBeginning => k_is)
    (case ct_NoBeginning => k_is)
    (case cl_NoBeginning => k_is)
    (case cs_NoBeginning => k_is)
    (case cn_NoBeginning => k_is)
    (case ci_NoBeginning => k_is)
    (case cf_NoBeginning => k_is)
    (case cg_NoBeginning => k_is)
    (case cc_NoBeginning => k_is)
    (case cm_NoBeginning => kernel_rfl)
    (case ca_NoPlace => k_is)
    (case ck_NoPlace => k_is)
    (case ce_NoPlace => k_is)
    (case ct_NoPlace => k_is)
    (case cl_NoPlace => k_is)
    (case cs_NoPlace => k_is)
    (case cn_NoPlace => k_is)
    (case ci_NoPlace => k_is)
    (case cf_NoPlace => k_is)
    (case cg_NoPlace => k_is)
    (case cc_NoPlace => k_is)
    (case cm_NoPlace => kernel_rfl)
    (case z_range => k_is)
    (case z_len => k_is)
    (case z_tuple => k_is)
    (case z_enumerate => k_is)
    (case z_sorted => k_is)
    (case z_abs => k_is)
    (case z_min => k_is)
    (case z_list => k_is)
    (case z_int => k_is)
    (case z_isinstance => k_is)
    (case z_bool => k_is)
    (case z_zip => k_is)
    (case z_all => k_is)
    (case z_str => k_is)
    (case z_repr => k_is)
local macro_rules | `(tactic| kernel_rfl) => `(tactic| (with_reducible refine HL.glue ?_ (HL.partA _ _) (HL.partB _ _) (HL.partC _ _) (HL.partD _ _) (HL.partE _ _) (HL.partF _ _) (HL.partG _ _) (HL.partH _ _) (HL.partK _ _) <;> kernel_rfl))
set_option maxRecDepth 100000 in
set_option maxHeartbeats 0 in
theorem PySem.Challenge.cw_ringpostfix_k34_whole_same_terms_turned_holds : PySem.Challenge.rw_ringpostfix_k34_whole_same_terms_turned.Holds := by
  w_on; o_law; o_headL (kHook HL.K0.heap_39 HL.as (fun _ => by kernel_rfl)); (case hw => w_witness2)
  k_fill
  refine DL.law_walk (k := 42) (l := PySem.Challenge.rw_ringpostfix_k34_whole_same_terms_turned) rfl rfl ⟨rfl, by decide, by decide⟩ (by decide +kernel) (fun w h Y => PySem.W.kIn_of Y) HL.mk
