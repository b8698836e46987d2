import PyProof.Rows.All
import Wide.All
import OpenK.AllK
import KE.OsRunLaw
import Wide.FinOn
import HandS.ForMost
import HandS.ForExc
import HandS.Star
import HandS.IsInst
import HandS.Flow
import HandS.Wide
import HandS.EndBits
import PyProof.ReprRoads
import HandS.Lambda
import HandS.TupAny
import HandS.TupMul
import HandS.Deep
import HandS.More
import HandS.Style
import KE.KTupSum
import PyProof.WalkInts
import HandS.SortInts
import HandS.Zip
import KE.KRevSl
import HandS.ExcCtx
import HandS.RaiseFrom
import KE.KExcInit
import KE.KExcIs
import HandS.ExcIs
import HandS.ExcField
import HandS.TryMany
import HandS.Small
import HandS.HotCalls
import HandS.Conv
import HandS.Iter
import KE.GoesEnum
import PyProof.NeKinds
import KE.DataFind
import KE.KEqDict
import HandS.NoneIn
import PyProof.Rows.IntBool
import HandS.ExcValue
import HandS.Text
import PyProof.StrBlock2
import PyProof.CallStr
import HandS.FStr
import HandS.GenList
import PyProof.RulesMatch
import PyProof.AutoSeq1
import HandS.Dict
import HandS.Property
import PyProof.RulesMatchSeq
import KE.KUnpackStar
import OpenK.KOps
import HandS.SlotsOwn
import KE.KFmtOwn
import HandS.ClsMeth
import OpenK.KMore
import HandS.Finally
import HandS.Defaults
import KE.KSuperObj
import KE.KParC
import HandS.SuiteRaise
import HandS.SetFor
import HandS.Strs
import HandS.TupSets
import KE.KDictDisplayH
import KE.KSuper
import HandS.RaiseMore
import HandS.TupLe
import HandS.Replace
import HandS.ReplaceList
import KE.KDictZip
import PyProof.Rows.ReprOcc
import PyProof.Rows.StrBin
import KE.OsRunLaw
import PySem.Challenge.RW_ringpostfix_k46_whole_share_of_ready_row
set_option Elab.async false
set_option linter.all false
set_option maxRecDepth 100000
set_option maxHeartbeats 4000000
set_option maxHeartbeats 0
namespace HL
open PySem PySem.W PyProof.Rows PySem.Calls
section
local macro_rules | `(tactic| kernel_rfl) => `(tactic| exact False.elim (by assumption))
theorem K0 (c : False) : PySem.Challenge.rw_ringpostfix_k46_whole_share_of_ready_row.Holds := by
  w_on; o_law; k_headL; (case hw => w_witness2)
  all_goals exact c.elim
end
def p0 : PySem.Params := { strHash := fun _ => 0, shareClass := fun _ => 0, mergeTok := id, idOf := fun _ => 0, idOfShared := fun _ _ => 0, followText := fun _ => false, idOfImm := fun _ => 0 }
noncomputable def as : List Addr := (K0.heap_39 p0).map fun x => x.1
end HL
namespace HL
open PySem PySem.W PyProof.Rows PySem.Calls
abbrev rr : RowW := OpenRow.toRowW (OpenLaw.row PySem.Challenge.rw_ringpostfix_k46_whole_share_of_ready_row)
abbrev pp : Program := rr.prog
abbrev ls : List PySem.Str := []
def vw : Program := PySem.W.view pp [1, 3, 4, 5, 6, 7, 8, 10, 12, 13, 14, 15, 16, 17, 18, 20, 21, 22, 23, 24, 25, 26, 27, 28, 29]
noncomputable abbrev nd (w : World) (os : PySem.OsState) := HeadRun.endF (HeadRun.stepQ (HeadRun.denQ HeadRun.tabQ) pp w) 2072 pp w os
noncomputable abbrev snG (q : Program) (s : SharedT) := HeadRun.seenQ q ls (importedModules pp.main.body) (fun s => xlAt q [] s && recOk rr.records s) s.abs
noncomputable abbrev sn (s : SharedT) := snG vw s
noncomputable abbrev lk (w : World) (s : SharedT) := HeadRun.looksF pp (boot_heap w.params) s.abs
theorem partA : ∀ (w : World) (os : PySem.OsState), (nd w os).map (fun s => (lk w s, (HL.sn s).2.1)) = some ((true, bltViewBooted)) := by
  intro w os; kernel_rfl
theorem partB : ∀ (w : World) (os : PySem.OsState), (nd w os).map (fun s => (HL.sn s).1) = some (expectedOf HL.vw) := by
  intro w os; kernel_rfl
theorem partC : ∀ (w : World) (os : PySem.OsState), (nd w os).map (fun s => (HL.sn s).2.2.1) = some (true) := by
  intro w os; kernel_rfl
theorem partD : ∀ (w : World) (os : PySem.OsState), (nd w os).map (fun s => (HL.sn s).2.2.2.2.2.1) = some (plainGoodE HL.vw (looseW HL.vw HL.ls)) := by
  intro w os; kernel_rfl
theorem partE : ∀ (w : World) (os : PySem.OsState), (nd w os).map (fun s => ((HL.sn s).2.2.2.2.1, (HL.sn s).2.2.2.2.2.2.1)) = some ((pinGoodD (drecsOf HL.vw), plainGoodD HL.vw HL.ls)) := by
  intro w os; kernel_rfl
theorem partF : ∀ (w : World) (os : PySem.OsState), (nd w os).map (fun s => (HL.sn s).2.2.2.2.2.2.2.2) = some (clsGoodW HL.vw HL.ls) := by
  intro w os; kernel_rfl
theorem partG : ∀ (w : World) (os : PySem.OsState), (nd w os).map (fun s => (HL.sn s).2.2.2.2.2.2.2.1) = some (wideGood HL.vw) := by
  intro w os; kernel_rfl
theorem partH : ∀ (w : World) (os : PySem.OsState), (nd w os).map (fun s => (HL.sn s).2.2.2.1) = some (true) := by
  intro w os; kernel_rfl
theorem partK : ∀ (w : World) (os : PySem.OsState), (nd w os).map (fun s => as.map (HeadRun.getT s)) = some ((K0.heap_39 w.params).map fun x => some x.2) := by
  intro w os; kernel_rfl
theorem glue {o : Option SharedT} {w : World} {q : Program} {as : List Addr} {k : List (Option Obj)} (e : vw = q)
    (hA : o.map (fun s => (lk w s, (HL.sn s).2.1)) = some (true, bltViewBooted)) (hB : o.map (fun s => (HL.sn s).1) = some (expectedOf HL.vw)) (hC : o.map (fun s => (HL.sn s).2.2.1) = some (true)) (hD : o.map (fun s => (HL.sn s).2.2.2.2.2.1) = some (plainGoodE HL.vw (looseW HL.vw HL.ls)))
    (hE : o.map (fun s => ((HL.sn s).2.2.2.2.1, (HL.sn s).2.2.2.2.2.2.1)) = some (pinGoodD (drecsOf HL.vw), plainGoodD HL.vw HL.ls)) (hF : o.map (fun s => (HL.sn s).2.2.2.2.2.2.2.2) = some (clsGoodW HL.vw HL.ls)) (hG : o.map (fun s => (HL.sn s).2.2.2.2.2.2.2.1) = some (wideGood HL.vw)) (hH : o.map (fun s => (HL.sn s).2.2.2.1) = some (true)) (hK : o.map (fun s => as.map (HeadRun.getT s)) = some k) :
    o.map (fun s => (HeadRun.looksF pp (boot_heap w.params) s.abs, HeadRun.seenQ q ls (importedModules pp.main.body) (fun s => xlAt q [] s && recOk rr.records s) s.abs, as.map (HeadRun.getT s))) = some (true, openGood q ls, k) := by
  subst e
  cases o with
  | none => cases hK
  | some s =>
    have a := Option.some.inj hA
    have v := Option.some.inj hE
    refine congrArg some (Prod.ext (congrArg (fun x => x.1) a) (Prod.ext ?_ (Option.some.inj hK)))
    refine Prod.ext (Option.some.inj hB) (Prod.ext (congrArg (fun x => x.2) a) (Prod.ext (Option.some.inj hC) (Prod.ext (Option.some.inj hH) (Prod.ext (congrArg (fun x => x.1) v) (Prod.ext (Option.some.inj hD) (Prod.ext (congrArg (fun x => x.2) v) (Prod.ext (Option.some.inj hG) (Option.some.inj hF))))))))
end HL
set_option maxHeartbeats 4000000
namespace DL
open PySem PySem.Spec L2
open PyProof.Rows hiding St
/-- a class by its name: of the program, built in -/
inductive Cn where
  | own (n : Str) | blt (n : String)
  deriving DecidableEq
/-- plain data (tuples, frozen lists and dicts by value), defs by name, caught errors, and places of the store -/
inductive D where
  | non | bl (b : Bool) | int (i : Int) | str (x : Str) | ty (n : String) | fn (n : Str)
  | tup (ds : List D) | fl (ds : List D) | kl (ds : List D) | ktp (ds : List D) | ztp (ds : List D) | fd (kvs : List (Key × D)) | exc (c : Cn) (fs : List (Str × D)) | loc (n : Nat)
abbrev Ev := List (Option D)
/-- a lambda: its name, its parameters, its expression, its names, the captured names as they stand in its closure -/
structure LamRec where
  qual : Str
  params : Arguments
  body : Expr
  scope : Scope
  caps : List Str
/-- what a place of the store holds -/
inductive Ob where
  | lst (ds : List D)
  | ins (c : Str) (fs : List (Str × D))
  | dct (kvs : List (Key × D))
  | dtt (kvs : List (Key × D))
  | scr (ds : List D)
  | tpl (ds : List D)
  | dkt (kvs : List (List Key × D))
  | dkl (kvs : List (List Key × D))
  | tab (x q : Str)
  | clo (i : Nat) (l : LamRec) (ds : List D)
  | ded
abbrev Sto := List Ob
structure Ex where
  cls : Cn
  fs : List (Str × D)
inductive R (α : Type) where
  | ok (a : α) (S : Sto)
  | er (e : Ex) (S : Sto)
  | stuck
inductive SR where
  | nx (ρ : Ev) (S : Sto)
  | rt (d : D) (S : Sto)
  | bk (ρ : Ev) (S : Sto)
  | ct (ρ : Ev) (S : Sto)
  | er (e : Ex) (ρ : Ev) (S : Sto)
  | stuck
/-- a test that no reckoning opens -/
noncomputable def ifp {α : Type} (p : Prop) (a b : α) : α := @ite α p (Classical.propDecidable p) a b
theorem ifp_pos {α : Type} {p : Prop} {a b : α} (h : p) : ifp p a b = a := by unfold ifp; exact if_pos h
theorem ifp_neg {α : Type} {p : Prop} {a b : α} (h : ¬ p) : ifp p a b = b := by unfold ifp; exact if_neg h
theorem ifp_t {α : Type} {a b : α} : ifp True a b = a := ifp_pos trivial
theorem ifp_f {α : Type} {a b : α} : ifp False a b = b := ifp_neg id
def R.bind {α β : Type} (r : R α) (k : α → Sto → R β) : R β := match r with
  | .ok a S => k a S
  | .er e S => .er e S
  | .stuck => .stuck
@[simp] theorem R.bind_ok {α β : Type} (a : α) (S : Sto) (k : α → Sto → R β) : (R.ok a S).bind k = k a S := rfl
@[simp] theorem R.bind_er {α β : Type} (e : Ex) (S : Sto) (k : α → Sto → R β) : (R.er e S : R α).bind k = .er e S := rfl
@[simp] theorem R.bind_stuck {α β : Type} (k : α → Sto → R β) : (R.stuck : R α).bind k = .stuck := rfl
def TupAt (K : PySem.W.Frag) (ι : List Addr) (H : Hp) (a : Addr) (vs : List V) : Prop := (a ∉ ι ∧ H a = some (.tup vs)) ∨ (∃ o, H a = some (.frz o (.tup vs))) ∨ SqT K (fun _ => none) a vs
def LstAt (ι : List Addr) (H : Hp) (a : Addr) (vs : List V) : Prop := a ∉ ι ∧ H a = some (.lst vs)
/-- a list that nobody changes: locked, or of the written part -/
def KlAt (K : PySem.W.Frag) (ι : List Addr) (H : Hp) (a : Addr) (vs : List V) : Prop := (a ∉ ι ∧ ∃ o, H a = some (.frz o (.lst vs))) ∨ SqL K (fun _ => none) a vs
theorem no_rd {a : Addr} {u : HO} (h : Rd (fun _ => none) a u) : False := by
  rcases h with h | ⟨_, h⟩ <;> cases h
theorem TupAt.sq {K : PySem.W.Frag} {ι : List Addr} {H : Hp} {a : Addr} {vs : List V} (h : TupAt K ι H a vs) : SqT K H a vs := by
  rcases h with h | h | h | h
  · exact .inl (.inl h.2)
  · exact .inl (.inr h)
  · exact (no_rd h).elim
  · exact .inr h
theorem KlAt.sq {K : PySem.W.Frag} {ι : List Addr} {H : Hp} {a : Addr} {vs : List V} (h : KlAt K ι H a vs) : SqL K H a vs := by
  rcases h with ⟨_, h⟩ | h | h
  · exact .inl (.inr h)
  · exact (no_rd h).elim
  · exact .inr h
theorem LstAt.sq {K : PySem.W.Frag} {ι : List Addr} {H : Hp} {a : Addr} {vs : List V} (h : LstAt ι H a vs) : SqL K H a vs := SqL.of h.2
def RepC (K : PySem.W.Frag) : Cn → Value → Prop
  | .own n, v => ∃ C, v = .ref C ∧ PySem.W.nsIn K mainGlobals n = some (some (.ref C))
  | .blt n, v => v = .type n
/-- an error that is held as a value: at a, its class, its dict -/
def exv (a : Addr) (cls : Value) (d : Option Addr) : HO := .ext fun h => ∃ (oe : Obj) (vs : Array Value), h.get? a = some oe ∧ oe.cls = cls ∧ oe.dict = d ∧ oe.data = .fields vs
mutual
def RepV (K : PySem.W.Frag) (ι : List Addr) (H : Hp) : D → V → Prop
  | .non, v => v = .non
  | .bl b, v => v = .bl b
  | .int i, v => v = .int i
  | .str x, v => v = .str x
  | .ty n, v => v = .ty n
  | .fn n, v => ∃ a, v = .ref a ∧ PySem.W.nsIn K mainGlobals n = some (some (.ref a))
  | .loc n, v => ∃ a, ι[n]? = some a ∧ v = .ref a
  | .tup ds, v => ∃ a vs, v = .ref a ∧ TupAt K ι H a vs ∧ RepL K ι H ds vs
  | .fl ds, v => ∃ a vs, v = .ref a ∧ LstAt ι H a vs ∧ RepL K ι H ds vs
  | .kl ds, v => ∃ a vs, v = .ref a ∧ KlAt K ι H a vs ∧ RepL K ι H ds vs
  | .ktp ds, v => ∃ a vs, v = .ref a ∧ (a ∉ ι ∧ H a = some (.tup vs)) ∧ RepL K ι H ds vs
  | .ztp ds, v => ∃ a vs, v = .ref a ∧ (∃ o, H a = some (.frz o (.tup vs)) ∧ o.cls = .type "tuple" ∧ o.dict = none) ∧ RepL K ι H ds vs
  | .fd kvs, v => ∃ a ks, v = .ref a ∧ a ∉ ι ∧ H a = some (.dK ks) ∧ RepK K ι H kvs ks
  | .exc c fs, v => ∃ a cls dd, v = .ref a ∧ a ∉ ι ∧ H a = some (exv a cls dd) ∧ RepC K c cls ∧ ((dd = none ∧ fs = []) ∨ ∃ d vs, dd = some d ∧ d ∉ ι ∧ H d = some (.xd vs) ∧ RepF K ι H fs vs)
def RepL (K : PySem.W.Frag) (ι : List Addr) (H : Hp) : List D → List V → Prop
  | [], vs => vs = []
  | d :: ds, vs => ∃ v r, vs = v :: r ∧ RepV K ι H d v ∧ RepL K ι H ds r
def RepK (K : PySem.W.Frag) (ι : List Addr) (H : Hp) : List (Key × D) → List (Key × V) → Prop
  | [], vs => vs = []
  | (k, d) :: ds, vs => ∃ v r, vs = (k, v) :: r ∧ RepV K ι H d v ∧ RepK K ι H ds r
def RepF (K : PySem.W.Frag) (ι : List Addr) (H : Hp) : List (Str × D) → List (Str × V) → Prop
  | [], vs => vs = []
  | (k, d) :: ds, vs => ∃ v r, vs = (k, v) :: r ∧ RepV K ι H d v ∧ RepF K ι H ds r
end
def RepKT (K : PySem.W.Frag) (ι : List Addr) (H : Hp) : List (List Key × D) → List (List Key × V) → Prop
  | [], vs => vs = []
  | (k, d) :: ds, vs => ∃ v r, vs = (k, v) :: r ∧ RepV K ι H d v ∧ RepKT K ι H ds r
/-- the object at a is o -/
abbrev objx (a : Addr) (o : Obj) : HO := .ext fun h => h.get? a = some o
/-- the cells of captured names, and what they hold -/
def CellsAt (ι : List Addr) (H : Hp) (cl : List (Str × Addr)) (vs : List V) : Prop := Paired (fun (p : Str × Addr) (v : V) => p.2 ∉ ι ∧ ∃ o u, H p.2 = some (objx p.2 o) ∧ o.data = .cell (some u) ∧ RelV v u) cl vs
/-- a closure of the lambda l: its object at a, its cells -/
def CloAt (K : PySem.W.Frag) (ι : List Addr) (H : Hp) (a : Addr) (l : LamRec) (ds : List D) : Prop := ∃ (c' : Addr) (pm ctv : Value) (cl : List (Str × Addr)) (vs : List V),
  H a = some (objx a (PySem.W.kla_obj "<lambda>" l.qual l.params l.body l.scope cl pm c' ctv)) ∧ (c' ∉ ι ∧ H c' = some (LamX.CodeO c' l.qual)) ∧ cl.map (·.1) = l.caps ∧ CellsAt ι H cl vs ∧ RepL K ι H ds vs
/-- the table of the def x, whose code objects bear the name q -/
def TabAt (K : PySem.W.Frag) (ι : List Addr) (H : Hp) (a : Addr) (x q : Str) : Prop := (∃ c, PySem.W.tabIn K x = some (c, a)) ∧ ∃ ps : Array Value, H a = some (.tbl ps) ∧ TriplesOk ps.toList ∧
  ∀ (pos : Pos) (cv : Value), codeAmong pos ps.toList = some cv → ∃ c, cv = .ref c ∧ c ∉ ι ∧ H c = some (LamX.CodeO c q)
def RepO (K : PySem.W.Frag) (ι : List Addr) (H : Hp) (a : Addr) : Ob → Prop
  | .lst ds => ∃ vs, H a = some (.lst vs) ∧ RepL K ι H ds vs
  | .ins c fs => ∃ C dx vs, PySem.W.nsIn K mainGlobals c = some (some (.ref C)) ∧ H a = some (.ins C dx vs) ∧ RepF K ι H fs vs
  | .dct kvs => ∃ ks, H a = some (.dK ks) ∧ RepK K ι H kvs ks
  | .dtt kvs => ∃ o ks, H a = some (.frz o (.dK ks)) ∧ RepK K ι H kvs ks
  | .scr ds => ∃ o vs, H a = some (.frz o (.lst vs)) ∧ RepL K ι H ds vs
  | .tpl ds => ∃ o vs, H a = some (.frz o (.tup vs)) ∧ o.cls = .type "tuple" ∧ o.dict = none ∧ RepL K ι H ds vs
  | .dkt kvs => ∃ ks, H a = some (.dT ks) ∧ RepKT K ι H kvs ks
  | .dkl kvs => ∃ o ks, H a = some (.frz o (.dT ks)) ∧ RepKT K ι H kvs ks
  | .tab x q => TabAt K ι H a x q
  | .clo _ l ds => CloAt K ι H a l ds
  | .ded => ∃ o, H a = some (objx a o)
structure Sim (K : PySem.W.Frag) (ι : List Addr) (H : Hp) (S : Sto) : Prop where
  nd : ι.Nodup
  len : ι.length = S.length
  ob : ∀ (n : Nat) (a : Addr) (o : Ob), ι[n]? = some a → S[n]? = some o → RepO K ι H a o
def RepE (K : PySem.W.Frag) (ι : List Addr) (H : Hp) (σ : St) (ρ : Ev) : Prop :=
  σ.length = ρ.length ∧ ∀ (i : Nat) (d : D), ρ[i]? = some (some d) → ∃ v, σ[i]? = some (some v) ∧ RepV K ι H d v
structure Grow (ι : List Addr) (H : Hp) (ι' : List Addr) (H' : Hp) : Prop where
  pre : ι <+: ι'
  keep : ∀ a o, H a = some o → a ∉ ι → H' a = some o
  fresh : ∀ a, a ∈ ι' → a ∉ ι → H a = none
  frz : ∀ a od u, H a = some (.frz od u) → H' a = some (.frz od u)
theorem Grow.refl (ι : List Addr) (H : Hp) : Grow ι H ι H := ⟨List.prefix_rfl, fun _ _ e _ => e, fun _ h n => absurd h n, fun _ _ _ e => e⟩
theorem Grow.trans {ι ι1 ι2 : List Addr} {H H1 H2 : Hp} (a : Grow ι H ι1 H1) (b : Grow ι1 H1 ι2 H2) : Grow ι H ι2 H2 where
  pre := a.pre.trans b.pre
  keep := fun c o e n => b.keep c o (a.keep c o e n) fun z => by
    have := a.fresh c z n
    rw [this] at e; cases e
  fresh := fun c h n => by
    by_cases z : c ∈ ι1
    · exact a.fresh c z n
    · have q := b.fresh c h z
      cases e : H c with
      | none => rfl
      | some o => rw [a.keep c o e n] at q; cases q
  frz := fun c od u e => b.frz c od u (a.frz c od u e)
theorem Grow.rd {ι ι' : List Addr} {H H' : Hp} {a : Addr} {u : HO} (g : Grow ι H ι' H') (n : a ∉ ι) (r : H a = some u) : a ∉ ι' ∧ H' a = some u := by
  refine ⟨fun z => ?_, g.keep _ _ r n⟩
  have q := g.fresh a z n
  rw [q] at r; cases r
theorem TupAt.grow {K : PySem.W.Frag} {ι ι' : List Addr} {H H' : Hp} {a : Addr} {vs : List V} (g : Grow ι H ι' H') (h : TupAt K ι H a vs) : TupAt K ι' H' a vs := by
  rcases h with ⟨n, r⟩ | ⟨o, h⟩ | h
  · exact .inl (g.rd n r)
  · exact .inr (.inl ⟨o, g.frz _ _ _ h⟩)
  · exact .inr (.inr h)
theorem KlAt.grow {K : PySem.W.Frag} {ι ι' : List Addr} {H H' : Hp} {a : Addr} {vs : List V} (g : Grow ι H ι' H') (h : KlAt K ι H a vs) : KlAt K ι' H' a vs := by
  rcases h with ⟨n, o, r⟩ | h
  · exact .inl ⟨(g.rd n r).1, o, (g.rd n r).2⟩
  · exact .inr h
theorem LstAt.grow {ι ι' : List Addr} {H H' : Hp} {a : Addr} {vs : List V} (g : Grow ι H ι' H') (h : LstAt ι H a vs) : LstAt ι' H' a vs := g.rd h.1 h.2
theorem getElem?_pre {ι ι' : List Addr} (p : ι <+: ι') {n : Nat} {a : Addr} (h : ι[n]? = some a) : ι'[n]? = some a := by
  obtain ⟨t, rfl⟩ := p
  have hn : n < ι.length := (List.getElem?_eq_some_iff.mp h).1
  rw [List.getElem?_append_left hn]; exact h
mutual
theorem RepV.grow {K : PySem.W.Frag} {ι ι' : List Addr} {H H' : Hp} (g : Grow ι H ι' H') : ∀ (d : D) (v : V), RepV K ι H d v → RepV K ι' H' d v
  | .non, _, h => by rw [RepV] at h ⊢; exact h
  | .bl _, _, h => by rw [RepV] at h ⊢; exact h
  | .int _, _, h => by rw [RepV] at h ⊢; exact h
  | .str _, _, h => by rw [RepV] at h ⊢; exact h
  | .ty _, _, h => by rw [RepV] at h ⊢; exact h
  | .fn _, _, h => by rw [RepV] at h ⊢; exact h
  | .loc n, _, h => by
    rw [RepV] at h ⊢
    obtain ⟨a, e, r⟩ := h
    exact ⟨a, getElem?_pre g.pre e, r⟩
  | .tup ds, _, h => by
    rw [RepV] at h ⊢
    obtain ⟨a, vs, e, t, r⟩ := h
    exact ⟨a, vs, e, t.grow g, RepL.grow g ds vs r⟩
  | .fl ds, _, h => by
    rw [RepV] at h ⊢
    obtain ⟨a, vs, e, t, r⟩ := h
    exact ⟨a, vs, e, t.grow g, RepL.grow g ds vs r⟩
  | .kl ds, _, h => by
    rw [RepV] at h ⊢
    obtain ⟨a, vs, e, t, r⟩ := h
    exact ⟨a, vs, e, t.grow g, RepL.grow g ds vs r⟩
  | .ktp ds, _, h => by
    rw [RepV] at h ⊢
    obtain ⟨a, vs, e, ⟨n, t⟩, r⟩ := h
    have q := g.rd n t
    exact ⟨a, vs, e, ⟨q.1, g.keep _ _ t n⟩, RepL.grow g ds vs r⟩
  | .ztp ds, _, h => by
    rw [RepV] at h ⊢
    obtain ⟨a, vs, e, ⟨o, t, c1, c2⟩, r⟩ := h
    exact ⟨a, vs, e, ⟨o, g.frz _ _ _ t, c1, c2⟩, RepL.grow g ds vs r⟩
  | .fd kvs, _, h => by
    rw [RepV] at h ⊢
    obtain ⟨a, vs, e, n, t, r⟩ := h
    have q := g.rd n t
    exact ⟨a, vs, e, q.1, g.keep _ _ t n, RepK.grow g kvs vs r⟩
  | .exc c fs, _, h => by
    rw [RepV] at h ⊢
    obtain ⟨a, cls, dd, e, n, t, rc, r⟩ := h
    have q := g.rd n t
    refine ⟨a, cls, dd, e, q.1, q.2, rc, ?_⟩
    rcases r with r | ⟨d, vs, e1, e2, e3, e4⟩
    · exact .inl r
    · have q2 := g.rd e2 e3
      exact .inr ⟨d, vs, e1, q2.1, q2.2, RepF.grow g fs vs e4⟩
theorem RepL.grow {K : PySem.W.Frag} {ι ι' : List Addr} {H H' : Hp} (g : Grow ι H ι' H') : ∀ (ds : List D) (vs : List V), RepL K ι H ds vs → RepL K ι' H' ds vs
  | [], _, h => by rw [RepL] at h ⊢; exact h
  | d :: ds, _, h => by
    rw [RepL] at h ⊢
    obtain ⟨v, r, e, a, b⟩ := h
    exact ⟨v, r, e, RepV.grow g d v a, RepL.grow g ds r b⟩
theorem RepK.grow {K : PySem.W.Frag} {ι ι' : List Addr} {H H' : Hp} (g : Grow ι H ι' H') : ∀ (ds : List (Key × D)) (vs : List (Key × V)), RepK K ι H ds vs → RepK K ι' H' ds vs
  | [], _, h => by rw [RepK] at h ⊢; exact h
  | (k, d) :: ds, _, h => by
    rw [RepK] at h ⊢
    obtain ⟨v, r, e, a, b⟩ := h
    exact ⟨v, r, e, RepV.grow g d v a, RepK.grow g ds r b⟩
theorem RepF.grow {K : PySem.W.Frag} {ι ι' : List Addr} {H H' : Hp} (g : Grow ι H ι' H') : ∀ (ds : List (Str × D)) (vs : List (Str × V)), RepF K ι H ds vs → RepF K ι' H' ds vs
  | [], _, h => by rw [RepF] at h ⊢; exact h
  | (k, d) :: ds, _, h => by
    rw [RepF] at h ⊢
    obtain ⟨v, r, e, a, b⟩ := h
    exact ⟨v, r, e, RepV.grow g d v a, RepF.grow g ds r b⟩
end
theorem RepKT.grow {K : PySem.W.Frag} {ι ι' : List Addr} {H H' : Hp} (g : Grow ι H ι' H') : ∀ (ds : List (List Key × D)) (vs : List (List Key × V)), RepKT K ι H ds vs → RepKT K ι' H' ds vs
  | [], _, h => by rw [RepKT] at h ⊢; exact h
  | (k, d) :: ds, _, h => by
    rw [RepKT] at h ⊢
    obtain ⟨v, r, e, a, b⟩ := h
    exact ⟨v, r, e, RepV.grow g d v a, RepKT.grow g ds r b⟩
theorem RepE.grow {K : PySem.W.Frag} {ι ι' : List Addr} {H H' : Hp} {σ : St} {ρ : Ev} (g : Grow ι H ι' H') (h : RepE K ι H σ ρ) : RepE K ι' H' σ ρ :=
  ⟨h.1, fun i d e => let ⟨v, e', r⟩ := h.2 i d e; ⟨v, e', RepV.grow g d v r⟩⟩
theorem RepE.get {K : PySem.W.Frag} {ι : List Addr} {H : Hp} {σ : St} {ρ : Ev} (h : RepE K ι H σ ρ) {i : Nat} {d : D} (e : ρ[i]? = some (some d)) : ∃ v, σ[i]? = some (some v) ∧ RepV K ι H d v := h.2 i d e
theorem RepE.set {K : PySem.W.Frag} {ι : List Addr} {H : Hp} {σ : St} {ρ : Ev} (h : RepE K ι H σ ρ) {d : D} {v : V} (r : RepV K ι H d v) (i : Nat) : RepE K ι H (σ.set i (some v)) (ρ.set i (some d)) := by
  refine ⟨by simp [h.1], fun j d' e => ?_⟩
  rw [List.getElem?_set] at e ⊢
  by_cases hij : i = j
  · rw [if_pos hij] at e ⊢
    by_cases hl : i < ρ.length
    · rw [if_pos hl] at e
      rw [if_pos (by rw [h.1]; exact hl)]
      cases e
      exact ⟨v, rfl, r⟩
    · rw [if_neg hl] at e; cases e
  · rw [if_neg hij] at e ⊢
    exact h.2 j d' e
theorem RepE.drop {K : PySem.W.Frag} {ι : List Addr} {H : Hp} {σ : St} {ρ : Ev} (h : RepE K ι H σ ρ) (x : Option V) (i : Nat) : RepE K ι H (σ.set i x) (ρ.set i none) := by
  refine ⟨by simp [h.1], fun j d' e => ?_⟩
  rw [List.getElem?_set] at e ⊢
  by_cases hij : i = j
  · rw [if_pos hij] at e
    by_cases hl : i < ρ.length
    · rw [if_pos hl] at e; cases e
    · rw [if_neg hl] at e; cases e
  · rw [if_neg hij] at e ⊢
    exact h.2 j d' e
theorem RepL.length {K : PySem.W.Frag} {ι : List Addr} {H : Hp} : ∀ (ds : List D) (vs : List V), RepL K ι H ds vs → ds.length = vs.length
  | [], _, h => by rw [RepL] at h; subst h; rfl
  | d :: ds, _, h => by
    rw [RepL] at h
    obtain ⟨v, r, rfl, _, b⟩ := h
    simp [RepL.length ds r b]
theorem RepL.get {K : PySem.W.Frag} {ι : List Addr} {H : Hp} : ∀ (ds : List D) (vs : List V), RepL K ι H ds vs → ∀ (i : Nat) (d : D), ds[i]? = some d → ∃ v, vs[i]? = some v ∧ RepV K ι H d v
  | [], _, h, i, d, e => by simp at e
  | d :: ds, _, h, i, d', e => by
    rw [RepL] at h
    obtain ⟨v, r, rfl, a, b⟩ := h
    cases i with
    | zero => simp at e; subst e; exact ⟨v, rfl, a⟩
    | succ i => exact RepL.get ds r b i d' (by simpa using e)
theorem RepL.app {K : PySem.W.Frag} {ι : List Addr} {H : Hp} : ∀ (ds : List D) (vs : List V), RepL K ι H ds vs → ∀ (es : List D) (us : List V), RepL K ι H es us → RepL K ι H (ds ++ es) (vs ++ us)
  | [], _, h, es, us, h' => by rw [RepL] at h; subst h; simpa using h'
  | d :: ds, _, h, es, us, h' => by
    rw [RepL] at h
    obtain ⟨v, r, rfl, a, b⟩ := h
    show RepL K ι H (d :: (ds ++ es)) (v :: (r ++ us))
    rw [RepL]
    exact ⟨v, _, rfl, a, RepL.app ds r b es us h'⟩
theorem RepL.one {K : PySem.W.Frag} {ι : List Addr} {H : Hp} {d : D} {v : V} (h : RepV K ι H d v) : RepL K ι H [d] [v] := by
  rw [RepL]; exact ⟨v, [], rfl, h, by rw [RepL]⟩
theorem RepL.nil {K : PySem.W.Frag} {ι : List Addr} {H : Hp} : RepL K ι H [] [] := by rw [RepL]
theorem RepL.cons {K : PySem.W.Frag} {ι : List Addr} {H : Hp} {d : D} {v : V} {ds : List D} {vs : List V} (h : RepV K ι H d v) (t : RepL K ι H ds vs) : RepL K ι H (d :: ds) (v :: vs) := by
  rw [RepL]; exact ⟨v, vs, rfl, h, t⟩
theorem RepL.take {K : PySem.W.Frag} {ι : List Addr} {H : Hp} : ∀ (ds : List D) (vs : List V) (n : Nat), RepL K ι H ds vs → RepL K ι H (ds.take n) (vs.take n)
  | _, _, 0, _ => by simp [RepL]
  | [], _, n + 1, h => by rw [RepL] at h; subst h; simp [RepL]
  | d :: ds, _, n + 1, h => by
    rw [RepL] at h
    obtain ⟨v, r, rfl, a, b⟩ := h
    exact RepL.cons a (RepL.take ds r n b)
theorem RepL.drop {K : PySem.W.Frag} {ι : List Addr} {H : Hp} : ∀ (ds : List D) (vs : List V) (n : Nat), RepL K ι H ds vs → RepL K ι H (ds.drop n) (vs.drop n)
  | _, _, 0, h => h
  | [], _, n + 1, h => by rw [RepL] at h; subst h; simp [RepL]
  | d :: ds, _, n + 1, h => by
    rw [RepL] at h
    obtain ⟨v, r, rfl, a, b⟩ := h
    exact RepL.drop ds r n b
theorem RepL.set {K : PySem.W.Frag} {ι : List Addr} {H : Hp} {d : D} {v : V} (r : RepV K ι H d v) : ∀ (ds : List D) (vs : List V) (n : Nat), RepL K ι H ds vs → RepL K ι H (ds.set n d) (vs.set n v)
  | [], _, n, h => by rw [RepL] at h; subst h; simp [RepL]
  | d' :: ds, _, 0, h => by
    rw [RepL] at h
    obtain ⟨v', r', rfl, a, b⟩ := h
    exact RepL.cons r b
  | d' :: ds, _, n + 1, h => by
    rw [RepL] at h
    obtain ⟨v', r', rfl, a, b⟩ := h
    exact RepL.cons a (RepL.set r ds r' n b)
theorem paired_mono {α β : Type} {F G : α → β → Prop} (h : ∀ a b, F a b → G a b) : ∀ {l₁ : List α} {l₂ : List β}, Paired F l₁ l₂ → Paired G l₁ l₂
  | _, _, .nil => .nil
  | _, _, .cons r t => .cons (h _ _ r) (paired_mono h t)
theorem CellsAt.grow {ι ι' : List Addr} {H H' : Hp} {cl : List (Str × Addr)} {vs : List V} (g : Grow ι H ι' H') (h : CellsAt ι H cl vs) : CellsAt ι' H' cl vs :=
  paired_mono (fun _ _ ⟨n, o, u, e, r⟩ => ⟨(g.rd n e).1, o, u, (g.rd n e).2, r⟩) h
theorem RepO.grow {K : PySem.W.Frag} {ι : List Addr} {H H' : Hp} {a : Addr} {o : Ob} {ι' : List Addr} (g : Grow ι H ι' H') (e : H' a = H a) (h : RepO K ι H a o) : RepO K ι' H' a o := by
  cases o with
  | lst ds => obtain ⟨vs, q, r⟩ := h; exact ⟨vs, by rw [e]; exact q, RepL.grow g ds vs r⟩
  | ins C fs => obtain ⟨C', dx, vs, nc, q, r⟩ := h; exact ⟨C', dx, vs, nc, by rw [e]; exact q, RepF.grow g fs vs r⟩
  | dct ks => obtain ⟨vs, q, r⟩ := h; exact ⟨vs, by rw [e]; exact q, RepK.grow g ks vs r⟩
  | dtt ks => obtain ⟨o, vs, q, r⟩ := h; exact ⟨o, vs, by rw [e]; exact q, RepK.grow g ks vs r⟩
  | scr ds => obtain ⟨o, vs, q, r⟩ := h; exact ⟨o, vs, by rw [e]; exact q, RepL.grow g ds vs r⟩
  | tpl ds => obtain ⟨o, vs, q, c1, c2, r⟩ := h; exact ⟨o, vs, by rw [e]; exact q, c1, c2, RepL.grow g ds vs r⟩
  | dkt ks => obtain ⟨vs, q, r⟩ := h; exact ⟨vs, by rw [e]; exact q, RepKT.grow g ks vs r⟩
  | dkl ks => obtain ⟨o, vs, q, r⟩ := h; exact ⟨o, vs, by rw [e]; exact q, RepKT.grow g ks vs r⟩
  | tab x q =>
    obtain ⟨t, ps, h1, h2, h3⟩ := h
    refine ⟨t, ps, by rw [e]; exact h1, h2, fun pos cv hc => ?_⟩
    obtain ⟨c, e1, e2, e3⟩ := h3 pos cv hc
    exact ⟨c, e1, (g.rd e2 e3).1, (g.rd e2 e3).2⟩
  | clo i l ds => obtain ⟨c', pm, ctv, cl, vs, h1, h2, h3, h4, h5⟩ := h; exact ⟨c', pm, ctv, cl, vs, by rw [e]; exact h1, g.rd h2.1 h2.2, h3, h4.grow g, RepL.grow g ds vs h5⟩
  | ded => obtain ⟨o, q⟩ := h; exact ⟨o, by rw [e]; exact q⟩
theorem RepO.some {K : PySem.W.Frag} {ι : List Addr} {H : Hp} {a : Addr} {o : Ob} (h : RepO K ι H a o) : ∃ u, H a = some u := by
  cases o with
  | lst ds => obtain ⟨vs, q, _⟩ := h; exact ⟨_, q⟩
  | ins C fs => obtain ⟨C', dx, vs, _, q, _⟩ := h; exact ⟨_, q⟩
  | dct ks => obtain ⟨vs, q, _⟩ := h; exact ⟨_, q⟩
  | dtt ks => obtain ⟨o, vs, q, _⟩ := h; exact ⟨_, q⟩
  | scr ds => obtain ⟨o, vs, q, _⟩ := h; exact ⟨_, q⟩
  | tpl ds => obtain ⟨o, vs, q, _⟩ := h; exact ⟨_, q⟩
  | dkt ks => obtain ⟨vs, q, _⟩ := h; exact ⟨_, q⟩
  | dkl ks => obtain ⟨o, vs, q, _⟩ := h; exact ⟨_, q⟩
  | tab x q => obtain ⟨_, ps, q, _⟩ := h; exact ⟨_, q⟩
  | clo i l ds => obtain ⟨_, _, _, _, _, q, _⟩ := h; exact ⟨_, q⟩
  | ded => obtain ⟨o, q⟩ := h; exact ⟨_, q⟩
theorem Sim.there {K : PySem.W.Frag} {ι : List Addr} {H : Hp} {S : Sto} (s : Sim K ι H S) {a : Addr} (h : a ∈ ι) : ∃ u, H a = some u := by
  obtain ⟨n, hn, rfl⟩ := List.mem_iff_getElem.mp h
  have hs : n < S.length := by rw [← s.len]; exact hn
  exact (s.ob n ι[n] S[n] (List.getElem?_eq_some_iff.mpr ⟨hn, rfl⟩) (List.getElem?_eq_some_iff.mpr ⟨hs, rfl⟩)).some
theorem Sim.free {K : PySem.W.Frag} {ι : List Addr} {H : Hp} {S : Sto} (s : Sim K ι H S) {p : Addr} (h : H p = none) : p ∉ ι := fun z => by
  obtain ⟨u, e⟩ := s.there z
  rw [h] at e; cases e
/-- a new thing outside of the store -/
theorem Grow.upd {ι : List Addr} {H : Hp} {p : Addr} {o : HO} (h : H p = none) : Grow ι H ι (L2.upd H p o) :=
  ⟨List.prefix_rfl, fun a u e _ => by rw [upd_ne (ne_of_none e h)]; exact e, fun _ z n => absurd z n, fun a od u e => by rw [upd_ne (ne_of_none e h)]; exact e⟩
theorem Sim.upd {K : PySem.W.Frag} {ι : List Addr} {H : Hp} {S : Sto} (s : Sim K ι H S) {p : Addr} {o : HO} (h : H p = none) : Sim K ι (L2.upd H p o) S :=
  ⟨s.nd, s.len, fun n a u e1 e2 => (s.ob n a u e1 e2).grow (Grow.upd h) (by
    have hp := s.free h
    have hne : a ≠ p := fun z => hp (z ▸ List.mem_of_getElem? e1)
    rw [upd_ne hne])⟩
/-- a new place -/
theorem Grow.push {ι : List Addr} {H : Hp} {p : Addr} {o : HO} (h : H p = none) : Grow ι H (ι ++ [p]) (L2.upd H p o) :=
  ⟨List.prefix_append _ _, fun a u e _ => by rw [upd_ne (ne_of_none e h)]; exact e, fun a z n => by
    rcases List.mem_append.mp z with z | z
    · exact absurd z n
    · rw [List.mem_singleton.mp z]; exact h, fun a od u e => by rw [upd_ne (ne_of_none e h)]; exact e⟩
theorem Sim.push {K : PySem.W.Frag} {ι : List Addr} {H : Hp} {S : Sto} (s : Sim K ι H S) {p : Addr} {o : HO} {b : Ob} (h : H p = none) (r : RepO K (ι ++ [p]) (L2.upd H p o) p b) : Sim K (ι ++ [p]) (L2.upd H p o) (S ++ [b]) := by
  have hp := s.free h
  refine ⟨?_, by simp [s.len], fun n a u e1 e2 => ?_⟩
  · exact List.nodup_append.mpr ⟨s.nd, by simp, fun x hx y hy => by rw [List.mem_singleton.mp hy]; exact fun z => hp (z ▸ hx)⟩
  · by_cases hn : n < ι.length
    · rw [List.getElem?_append_left hn] at e1
      rw [List.getElem?_append_left (by rw [← s.len]; exact hn)] at e2
      refine (s.ob n a u e1 e2).grow (Grow.push h) ?_
      have hne : a ≠ p := fun z => hp (z ▸ List.mem_of_getElem? e1)
      rw [upd_ne hne]
    · rw [List.getElem?_append_right (by omega)] at e1
      rw [List.getElem?_append_right (by rw [← s.len]; omega)] at e2
      rw [← s.len] at e2
      have hl := (List.getElem?_eq_some_iff.mp e1).1
      have : n - ι.length = 0 := by simpa using hl
      rw [this] at e1 e2
      simp at e1 e2
      subst e1; subst e2
      exact r
/-- a place changed -/
def NoFrz (u : HO) : Prop := ∀ od v, u ≠ .frz od v
theorem Grow.put {ι : List Addr} {H : Hp} {p : Addr} {o u0 : HO} (h : p ∈ ι) (hu : H p = some u0) (hf : NoFrz u0) : Grow ι H ι (L2.upd H p o) :=
  ⟨List.prefix_rfl, fun a u e n => by
    have hne : a ≠ p := fun z => n (z ▸ h)
    rw [upd_ne hne]; exact e, fun _ z n => absurd z n, fun a od u e => by
    have hne : a ≠ p := fun z => by
      rw [z, hu] at e
      exact hf _ _ (Option.some.inj e)
    rw [upd_ne hne]; exact e⟩
theorem Sim.put {K : PySem.W.Frag} {ι : List Addr} {H : Hp} {S : Sto} (s : Sim K ι H S) {p : Addr} {o u0 : HO} {b : Ob} {m : Nat} (h : ι[m]? = some p) (hu : H p = some u0) (hf : NoFrz u0) (r : RepO K ι (L2.upd H p o) p b) : Sim K ι (L2.upd H p o) (S.set m b) := by
  refine ⟨s.nd, by simp [s.len], fun n a u e1 e2 => ?_⟩
  by_cases hn : n = m
  · subst hn
    rw [h] at e1; cases e1
    have hl : n < S.length := by rw [← s.len]; exact (List.getElem?_eq_some_iff.mp h).1
    rw [List.getElem?_set_self hl] at e2; cases e2
    exact r
  · rw [List.getElem?_set_ne (Ne.symm hn)] at e2
    refine (s.ob n a u e1 e2).grow (Grow.put (List.mem_of_getElem? h) hu hf) ?_
    rw [upd_ne]
    rintro rfl
    obtain ⟨h1, q1⟩ := List.getElem?_eq_some_iff.mp e1
    obtain ⟨h2, q2⟩ := List.getElem?_eq_some_iff.mp h
    exact hn ((List.getElem_inj s.nd).mp (q1.trans q2.symm))
/-- a raised exception: its class, its own dict -/
def RepX (K : PySem.W.Frag) (ι : List Addr) (H : Hp) (e : Ex) (cls : Value) (dd : Option Addr) : Prop :=
  RepC K e.cls cls ∧ ((dd = none ∧ e.fs = []) ∨ ∃ a vs, dd = some a ∧ a ∉ ι ∧ H a = some (.xd vs) ∧ RepF K ι H e.fs vs)
/-- behind a result: what is wanted of a value, W of an exception -/
def Post {α : Type} (K : PySem.W.Frag) (W : WX) (σ : St) (ι : List Addr) (H : Hp) (r : R α) (P : α → Sto → List Addr → Hp → Prop) : Prop := match r with
  | .ok a S' => ∀ ι' H', Grow ι H ι' H' → Sim K ι' H' S' → P a S' ι' H'
  | .er e S' => ∀ ι' H' cls dd, Grow ι H ι' H' → Sim K ι' H' S' → RepX K ι' H' e cls dd → W cls dd σ H'
  | .stuck => False
theorem Post.bind {α β : Type} {K : PySem.W.Frag} {W : WX} {σ : St} {ι : List Addr} {H : Hp} {r : R α} {k : α → Sto → R β} {P : β → Sto → List Addr → Hp → Prop} (h : Post K W σ ι H (r.bind k) P) :
    Post K W σ ι H r fun a S1 ι1 H1 => Post K W σ ι1 H1 (k a S1) P := by
  cases r with
  | stuck => exact h
  | er e S => exact h
  | ok a S =>
    intro ι1 H1 G1 s1
    have h : Post K W σ ι H (k a S) P := h
    show Post K W σ ι1 H1 (k a S) P
    revert h
    cases k a S with
    | stuck => exact fun h => h
    | er e S => exact fun h ι2 H2 cls dd G2 s2 x => h ι2 H2 cls dd (G1.trans G2) s2 x
    | ok b S => exact fun h ι2 H2 G2 s2 => h ι2 H2 (G1.trans G2) s2
theorem Post.mono {α : Type} {K : PySem.W.Frag} {W : WX} {σ : St} {ι : List Addr} {H : Hp} {r : R α} {P P' : α → Sto → List Addr → Hp → Prop} (h : Post K W σ ι H r P)
    (i : ∀ a S' ι' H', Grow ι H ι' H' → Sim K ι' H' S' → P a S' ι' H' → P' a S' ι' H') : Post K W σ ι H r P' := by
  cases r with
  | stuck => exact h
  | er e S => exact h
  | ok a S => exact fun ι' H' G s => i a S ι' H' G s (h ι' H' G s)
theorem Post.here {α : Type} {K : PySem.W.Frag} {W : WX} {σ : St} {ι : List Addr} {H : Hp} {a : α} {S : Sto} {P : α → Sto → List Addr → Hp → Prop} (h : Post K W σ ι H (.ok a S) P) (s : Sim K ι H S) : P a S ι H := h ι H (Grow.refl ι H) s
/-- the world of a piece of code: the store's addresses, the data of the slots, the store -/
def rdE (K : PySem.W.Frag) (W : WX) (f : Ev → Sto → R D) : TE := fun σ H Q => ∃ ι ρ S, RepE K ι H σ ρ ∧ Sim K ι H S ∧ Post K W σ ι H (f ρ S) fun d _ ι' H' => ∀ v, RepV K ι' H' d v → Q v H'
def rdT (K : PySem.W.Frag) (W : WX) (f : Ev → Sto → R Bool) : TT := fun σ H Q => ∃ ι ρ S, RepE K ι H σ ρ ∧ Sim K ι H S ∧ Post K W σ ι H (f ρ S) fun b _ _ H' => Q b H'
def rdA (K : PySem.W.Frag) (W : WX) (f : Ev → Sto → R (List D)) : TA := fun σ H Q => ∃ ι ρ S, RepE K ι H σ ρ ∧ Sim K ι H S ∧ Post K W σ ι H (f ρ S) fun ds _ ι' H' => ∀ vs, RepL K ι' H' ds vs → Q vs H'
/-- behind a statement -/
def PostS (K : PySem.W.Frag) (W : WX) (E : Ends) (ι : List Addr) (H : Hp) (r : SR) : Prop := match r with
  | .nx ρ' S' => ∀ ι' H' σ', Grow ι H ι' H' → Sim K ι' H' S' → RepE K ι' H' σ' ρ' → E.nx σ' H'
  | .rt d S' => ∀ ι' H' v, Grow ι H ι' H' → Sim K ι' H' S' → RepV K ι' H' d v → E.rt v H'
  | .bk ρ' S' => ∀ ι' H' σ', Grow ι H ι' H' → Sim K ι' H' S' → RepE K ι' H' σ' ρ' → E.bk σ' H'
  | .ct ρ' S' => ∀ ι' H' σ', Grow ι H ι' H' → Sim K ι' H' S' → RepE K ι' H' σ' ρ' → E.ct σ' H'
  | .er e ρ' S' => ∀ ι' H' σ' cls dd, Grow ι H ι' H' → Sim K ι' H' S' → RepE K ι' H' σ' ρ' → RepX K ι' H' e cls dd → W cls dd σ' H'
  | .stuck => False
theorem PostS.grow {K : PySem.W.Frag} {W : WX} {E : Ends} {ι ι1 : List Addr} {H H1 : Hp} {r : SR} (h : PostS K W E ι H r) (G : Grow ι H ι1 H1) : PostS K W E ι1 H1 r := by
  cases r with
  | stuck => exact h
  | nx ρ S => exact fun ι' H' σ' G1 => h ι' H' σ' (G.trans G1)
  | bk ρ S => exact fun ι' H' σ' G1 => h ι' H' σ' (G.trans G1)
  | ct ρ S => exact fun ι' H' σ' G1 => h ι' H' σ' (G.trans G1)
  | rt d S => exact fun ι' H' v G1 => h ι' H' v (G.trans G1)
  | er e ρ S => exact fun ι' H' σ' cls dd G1 => h ι' H' σ' cls dd (G.trans G1)
def rdS (K : PySem.W.Frag) (W : WX) (F : Ev → Sto → SR) : TS := fun E σ H => ∃ ι ρ S, RepE K ι H σ ρ ∧ Sim K ι H S ∧ PostS K W E ι H (F ρ S)
abbrev DE (X : Cx) (W : WX) (e : Expr) (f : Ev → Sto → R D) : Prop := PE X e (rdE X.K W f)
abbrev DT (X : Cx) (W : WX) (e : Expr) (f : Ev → Sto → R Bool) : Prop := PT X e (rdT X.K W f)
abbrev DW (X : Cx) (W : WX) (e : Expr) (f : Ev → Sto → R Bool) : Prop := PW X e (rdT X.K W f)
abbrev DA (X : Cx) (W : WX) (es : List Expr) (f : Ev → Sto → R (List D)) : Prop := PA X es (rdA X.K W f)
abbrev DS (X : Cx) (W : WX) (st : Stmt) (F : Ev → Sto → SR) : Prop := PS X st (rdS X.K W F)
abbrev DSs (X : Cx) (W : WX) (st : List Stmt) (F : Ev → Sto → SR) : Prop := PSs X st (rdS X.K W F)
theorem PE.imp {X : Cx} {e : Expr} {t u : TE} (h : PE X e t) (i : ∀ σ H Q, u σ H Q → t σ H Q) : PE X e u := ⟨fun pins s σ H Q I q => h.run pins s σ H Q I (i σ H Q q)⟩
theorem PT.imp {X : Cx} {e : Expr} {t u : TT} (h : PT X e t) (i : ∀ σ H Q, u σ H Q → t σ H Q) : PT X e u := ⟨fun pins s σ H Q I q => h.run pins s σ H Q I (i σ H Q q)⟩
theorem PW.imp {X : Cx} {e : Expr} {t u : TT} (h : PW X e t) (i : ∀ σ H Q, u σ H Q → t σ H Q) : PW X e u := ⟨fun wh pins s σ H Q I q => h.run wh pins s σ H Q I (i σ H Q q)⟩
theorem PA.imp {X : Cx} {e : List Expr} {t u : TA} (h : PA X e t) (i : ∀ σ H Q, u σ H Q → t σ H Q) : PA X e u := ⟨fun p pins s σ H Q I q => h.run p pins s σ H Q I (i σ H Q q)⟩
theorem PS.imp {X : Cx} {e : Stmt} {t u : TS} (h : PS X e t) (i : ∀ D σ H, u D σ H → t D σ H) : PS X e u := ⟨fun pins s σ H D I q => h.run pins s σ H D I (i D σ H q)⟩
theorem PSs.imp {X : Cx} {e : List Stmt} {t u : TS} (h : PSs X e t) (i : ∀ D σ H, u D σ H → t D σ H) : PSs X e u := ⟨fun pins s σ H D I q => h.run pins s σ H D I (i D σ H q)⟩
end DL
namespace DL
open PySem PySem.Spec L2
open PyProof.Rows hiding St
section
variable {X : Cx} {W : WX} {pos : Pos}
def eVar (i : Nat) : Ev → Sto → R D := fun ρ S => match ρ[i]? with
  | some (some d) => .ok d S
  | _ => .stuck
def eC (d : D) : Ev → Sto → R D := fun _ S => .ok d S
theorem de_var (i : Nat) {x : Str} {pos : Pos} (hN : X.N[i]? = some x := by rfl) (hv : Vis X.env.scope x := by first | exact Or.inl rfl | exact Or.inr (Or.inl rfl) | exact Or.inr (Or.inr rfl)) (hd : (x == ("__debug__" : Str)) = false := by decide)
    (hcd : (x == ("__classdict__" : Str)) = false := by decide) : DE X W (.Name x pos) (eVar i) := by
  refine PE.imp (pe_var hN hv hd hcd) fun σ H Q ⟨ι, ρ, S, hE, hS, h⟩ => ?_
  unfold eVar at h
  split at h
  · rename_i d e
    obtain ⟨v, e', r⟩ := hE.get e
    exact ⟨v, e', h.here hS v r⟩
  · exact h.elim
theorem de_c {e : Expr} {d : D} {v : V} (h : PE X e (tC v)) (r : ∀ ι H, RepV X.K ι H d v) : DE X W e (eC d) :=
  PE.imp h fun σ H Q ⟨ι, ρ, S, hE, hS, h⟩ => h.here hS v (r ι H)
theorem de_int {i j pos} : DE X W (.Constant (.int i) j pos) (eC (.int i)) := de_c pe_int fun _ _ => by rw [RepV]
theorem de_bl {b j pos} : DE X W (.Constant (.bool b) j pos) (eC (.bl b)) := de_c pe_bl fun _ _ => by rw [RepV]
def eOp (o : D → D → Sto → R D) (f g : Ev → Sto → R D) : Ev → Sto → R D := fun ρ S => (f ρ S).bind fun a S1 => (g ρ S1).bind fun b S2 => o a b S2
/-- a rule by values keeps the function o -/
def OpK (K : PySem.W.Frag) (r : R2) (o : D → D → Sto → R D) : Prop := ∀ (W : WX) (σ : St) (ι : List Addr) (H : Hp) (S : Sto) (x y : V) (a b : D) (Q : VK), Sim K ι H S → RepV K ι H a x → RepV K ι H b y →
  Post K W σ ι H (o a b S) (fun d _ ι' H' => ∀ v, RepV K ι' H' d v → Q v H') → r x y H Q
theorem op_seq {r : R2} {o : D → D → Sto → R D} {f g : Ev → Sto → R D} (k : OpK X.K r o) : ∀ σ H Q, rdE X.K W (eOp o f g) σ H Q → tOp r (rdE X.K W f) (rdE X.K W g) σ H Q := fun σ H Q ⟨ι, ρ, S, hE, hS, h⟩ => by
  refine ⟨ι, ρ, S, hE, hS, (Post.bind h).mono fun a S1 ι1 H1 G1 s1 h1 x rx => ?_⟩
  refine ⟨ι1, ρ, S1, hE.grow G1, s1, (Post.bind h1).mono fun b S2 ι2 H2 G2 s2 h2 y ry => ?_⟩
  exact k W σ ι2 H2 S2 x y a b Q s2 (RepV.grow G2 a x rx) ry h2
theorem de_op {a b : Expr} {op : Operator} {r : R2} {o : D → D → Sto → R D} {f g : Ev → Sto → R D} (ho : OpR X (binaryOp op) r) (k : OpK X.K r o) (ha : DE X W a f) (hb : DE X W b g) : DE X W (.BinOp a op b pos) (eOp o f g) :=
  PE.imp (pe_op ho ha hb) (op_seq k)
/-- a value's truth where it is a bool -/
def bOf : D → Sto → R Bool := fun d S => match d with
  | .bl b => .ok b S
  | _ => .stuck
def eT (f : Ev → Sto → R D) : Ev → Sto → R Bool := fun ρ S => (f ρ S).bind bOf
theorem bOf_post {K : PySem.W.Frag} {σ : St} {ι : List Addr} {H : Hp} {d : D} {S : Sto} {v : V} {Q : Bool → Hp → Prop} (h : Post K W σ ι H (bOf d S) fun b _ _ H' => Q b H') (s : Sim K ι H S) (r : RepV K ι H d v) : ∃ c, v = .bl c ∧ Q c H := by
  cases d with
  | bl b => rw [RepV] at r; exact ⟨b, r, h.here s⟩
  | _ => exact (show False from h).elim
theorem dt_of_test {e : Expr} {t : TE} {f : Ev → Sto → R D} (h : PT X e (tTest t)) (i : ∀ σ H Q, rdE X.K W f σ H Q → t σ H Q) : DT X W e (eT f) := by
  refine PT.imp h fun σ H Q ⟨ι, ρ, S, hE, hS, q⟩ => i σ H _ ⟨ι, ρ, S, hE, hS, (Post.bind q).mono fun d S1 ι1 H1 G1 s1 h1 v rv => bOf_post h1 s1 rv⟩
theorem dt_cmp {a b : Expr} {op : CmpOp} {r : R2} {o : D → D → Sto → R D} {f g : Ev → Sto → R D} (ho : OpR X (compareOp op) r) (k : OpK X.K r o) (ha : DE X W a f) (hb : DE X W b g) (hm : behindInMarks op b = false) : DT X W (.Compare a [op] [b] pos) (eT (eOp o f g)) :=
  dt_of_test (pt_cmpR ho ha hb hm) (op_seq k)
/-- an expression whose value is a bool, as a test -/
theorem dt_val {e : Expr} {f : Ev → Sto → R D} (h : DE X W e f) (he : ∀ whole, isTrue e X.env whole = (do let v ← whole; standAt e.pos; holding [v] (truthy v)) := by intro _; rfl) : DT X W e (eT f) := by
  refine PT.imp (pt_val h he) fun σ H Q ⟨ι, ρ, S, hE, hS, q⟩ => ⟨ι, ρ, S, hE, hS, (Post.bind q).mono fun d S1 ι1 H1 G1 s1 h1 v rv => bOf_post h1 s1 rv⟩
def eAnd (f g : Ev → Sto → R Bool) : Ev → Sto → R Bool := fun ρ S => (f ρ S).bind fun b S1 => if b = true then g ρ S1 else .ok false S1
def eOr (f g : Ev → Sto → R Bool) : Ev → Sto → R Bool := fun ρ S => (f ρ S).bind fun b S1 => if b = true then .ok true S1 else g ρ S1
def eNot (f : Ev → Sto → R Bool) : Ev → Sto → R Bool := fun ρ S => (f ρ S).bind fun b S1 => .ok (!b) S1
def eIf (c : Ev → Sto → R Bool) (f g : Ev → Sto → R D) : Ev → Sto → R D := fun ρ S => (c ρ S).bind fun b S1 => if b = true then f ρ S1 else g ρ S1
variable {a b c : Expr} {rest : List Expr} {f g : Ev → Sto → R Bool}
theorem dw_and1 (ha : DT X W a f) : DW X W (.BoolOp .And [a] pos) f := pw_and1 ha
theorem dw_or1 (ha : DT X W a f) : DW X W (.BoolOp .Or [a] pos) f := pw_or1 ha
theorem dw_and (ha : DT X W a f) (hb : DW X W (.BoolOp .And (b :: rest) pos) g) : DW X W (.BoolOp .And (a :: b :: rest) pos) (eAnd f g) := by
  refine PW.imp (pw_and ha hb) fun σ H Q ⟨ι, ρ, S, hE, hS, h⟩ => ⟨ι, ρ, S, hE, hS, (Post.bind h).mono fun k S1 ι1 H1 G1 s1 h1 => ?_⟩
  cases k with
  | true => rw [if_pos rfl] at h1 ⊢; exact ⟨ι1, ρ, S1, hE.grow G1, s1, h1⟩
  | false => rw [if_neg (by decide)] at h1 ⊢; exact h1.here s1
theorem dw_or (ha : DT X W a f) (hb : DW X W (.BoolOp .Or (b :: rest) pos) g) : DW X W (.BoolOp .Or (a :: b :: rest) pos) (eOr f g) := by
  refine PW.imp (pw_or ha hb) fun σ H Q ⟨ι, ρ, S, hE, hS, h⟩ => ⟨ι, ρ, S, hE, hS, (Post.bind h).mono fun k S1 ι1 H1 G1 s1 h1 => ?_⟩
  cases k with
  | false => rw [if_neg (by decide)] at h1 ⊢; exact ⟨ι1, ρ, S1, hE.grow G1, s1, h1⟩
  | true => rw [if_pos rfl] at h1 ⊢; exact h1.here s1
theorem dw_t (h : DW X W a f) : DT X W a f := PW.pt h
theorem dt_not (ha : DT X W a f) : DT X W (.UnaryOp .Not a pos) (eNot f) := by
  refine PT.imp (pt_not ha) fun σ H Q ⟨ι, ρ, S, hE, hS, h⟩ => ⟨ι, ρ, S, hE, hS, (Post.bind h).mono fun k S1 ι1 H1 G1 s1 h1 => ?_⟩
  exact h1.here s1
/-- and, or, not as values: all but the last a bool -/
def eAndV (f g : Ev → Sto → R D) : Ev → Sto → R D := fun ρ S => (f ρ S).bind fun d S1 => (bOf d S1).bind fun b S2 => if b = true then g ρ S2 else .ok (.bl false) S2
def eOrV (f g : Ev → Sto → R D) : Ev → Sto → R D := fun ρ S => (f ρ S).bind fun d S1 => (bOf d S1).bind fun b S2 => if b = true then .ok (.bl true) S2 else g ρ S2
def eNotV (f : Ev → Sto → R D) : Ev → Sto → R D := fun ρ S => (f ρ S).bind fun d S1 => (bOf d S1).bind fun b S2 => .ok (.bl (!b)) S2
theorem bOf_bind {K : PySem.W.Frag} {σ : St} {ι : List Addr} {H : Hp} {d : D} {S : Sto} {v : V} {k : Bool → Sto → R D} {P : D → Sto → List Addr → Hp → Prop} (h : Post K W σ ι H ((bOf d S).bind k) P) (s : Sim K ι H S) (r : RepV K ι H d v) :
    ∃ c, v = .bl c ∧ Post K W σ ι H (k c S) P := by
  cases d with
  | bl b => rw [RepV] at r; exact ⟨b, r, h⟩
  | _ => exact (show False from h).elim
theorem de_one {op} {f : Ev → Sto → R D} (h : DE X W a f) : DE X W (.BoolOp op [a] pos) f := pe_one h
theorem de_and {f g : Ev → Sto → R D} (ha : DE X W a f) (hb : DE X W (.BoolOp .And (b :: rest) pos) g) : DE X W (.BoolOp .And (a :: b :: rest) pos) (eAndV f g) := by
  refine PE.imp (pe_and ha hb) fun σ H Q ⟨ι, ρ, S, hE, hS, h⟩ => ⟨ι, ρ, S, hE, hS, (Post.bind h).mono fun d S1 ι1 H1 G1 s1 h1 v rv => ?_⟩
  obtain ⟨k, e, h2⟩ := bOf_bind h1 s1 rv
  refine ⟨k, e, ?_⟩
  cases k with
  | true => rw [if_pos rfl] at h2 ⊢; exact ⟨ι1, ρ, S1, hE.grow G1, s1, h2⟩
  | false => rw [if_neg (by decide)] at h2 ⊢; exact h2.here s1 _ (by rw [RepV])
theorem de_not {f : Ev → Sto → R D} (ha : DE X W a f) : DE X W (.UnaryOp .Not a pos) (eNotV f) := by
  refine PE.imp (pe_not ha) fun σ H Q ⟨ι, ρ, S, hE, hS, h⟩ => ⟨ι, ρ, S, hE, hS, (Post.bind h).mono fun d S1 ι1 H1 G1 s1 h1 v rv => ?_⟩
  obtain ⟨k, e, h2⟩ := bOf_bind h1 s1 rv
  exact ⟨k, e, h2.here s1 _ (by rw [RepV])⟩
end
end DL
namespace DL
open PySem PySem.Spec L2
open PyProof.Rows hiding St
theorem OpR.or {X : Cx} {f : Value → Value → Sem Value} {r r' : R2} (h : OpR X f r) (h' : OpR X f r') : OpR X f (fun x y H Q => r x y H Q ∨ r' x y H Q) := by
  intro pins s σ H x y v u Q I rx ry q
  rcases q with q | q
  · exact h pins s σ H x y v u Q I rx ry q
  · exact h' pins s σ H x y v u Q I rx ry q
/-- a new tuple, a new list that is not changed any more -/
theorem rep_tup {K : PySem.W.Frag} {ι : List Addr} {H : Hp} {S : Sto} {ds : List D} {vs : List V} {p : Addr} (s : Sim K ι H S) (h : H p = none) (r : RepL K ι H ds vs) : RepV K ι (upd H p (.tup vs)) (.tup ds) (.ref p) := by
  rw [RepV]
  exact ⟨p, vs, rfl, .inl ⟨s.free h, upd_same⟩, RepL.grow (Grow.upd h) ds vs r⟩
theorem rep_fl {K : PySem.W.Frag} {ι : List Addr} {H : Hp} {S : Sto} {ds : List D} {vs : List V} {p : Addr} (s : Sim K ι H S) (h : H p = none) (r : RepL K ι H ds vs) : RepV K ι (upd H p (.lst vs)) (.fl ds) (.ref p) := by
  rw [RepV]
  exact ⟨p, vs, rfl, ⟨s.free h, upd_same⟩, RepL.grow (Grow.upd h) ds vs r⟩
theorem new_tup {K : PySem.W.Frag} {W : WX} {σ : St} {ι : List Addr} {H : Hp} {S : Sto} {ds : List D} {vs : List V} {Q : VK} (h : Post K W σ ι H (.ok (.tup ds) S) fun d _ ι' H' => ∀ v, RepV K ι' H' d v → Q v H') (s : Sim K ι H S) (r : RepL K ι H ds vs) :
    ∀ p, H p = none → Q (.ref p) (upd H p (.tup vs)) := fun p hp => h ι _ (Grow.upd hp) (s.upd hp) _ (rep_tup s hp r)
theorem new_fl {K : PySem.W.Frag} {W : WX} {σ : St} {ι : List Addr} {H : Hp} {S : Sto} {ds : List D} {vs : List V} {Q : VK} (h : Post K W σ ι H (.ok (.fl ds) S) fun d _ ι' H' => ∀ v, RepV K ι' H' d v → Q v H') (s : Sim K ι H S) (r : RepL K ι H ds vs) :
    ∀ p, H p = none → Q (.ref p) (upd H p (.lst vs)) := fun p hp => h ι _ (Grow.upd hp) (s.upd hp) _ (rep_fl s hp r)
theorem new_loc {K : PySem.W.Frag} {W : WX} {σ : St} {ι : List Addr} {H : Hp} {S : Sto} {ds : List D} {vs : List V} {Q : VK} (h : Post K W σ ι H (.ok (.loc S.length) (S ++ [.lst ds])) fun d _ ι' H' => ∀ v, RepV K ι' H' d v → Q v H') (s : Sim K ι H S) (r : RepL K ι H ds vs) :
    ∀ p, H p = none → Q (.ref p) (upd H p (.lst vs)) := fun p hp => by
  refine h (ι ++ [p]) _ (Grow.push hp) (s.push hp ⟨vs, upd_same, RepL.grow (Grow.push hp) ds vs r⟩) _ ?_
  rw [RepV]
  exact ⟨p, by rw [← s.len]; simp, rfl⟩
def getL (S : Sto) (n : Nat) : Option (List D) := match S[n]? with
  | some (.lst ds) => some ds
  | _ => none
def getQ (S : Sto) (n : Nat) : Option (List D) := match S[n]? with
  | some (.lst ds) => some ds
  | some (.scr ds) => some ds
  | _ => none
def lstOf (S : Sto) : D → Option (List D)
  | .fl ds => some ds
  | .loc n => getL S n
  | _ => none
def seqOf (S : Sto) : D → Option (List D)
  | .tup ds => some ds
  | .fl ds => some ds
  | .kl ds => some ds
  | .loc n => getQ S n
  | _ => none
theorem getL_some {S : Sto} {n : Nat} {ds : List D} (h : getL S n = some ds) : S[n]? = some (.lst ds) := by
  unfold getL at h
  (try unfold ifp at h); split at h
  · rename_i e; cases h; exact e
  · cases h
theorem getL_of {S : Sto} {n : Nat} {ds : List D} (h : S[n]? = some (.lst ds)) : getL S n = some ds := by unfold getL; rw [h]
theorem getQ_of {S : Sto} {n : Nat} {ds : List D} (h : S[n]? = some (.lst ds)) : getQ S n = some ds := by unfold getQ; rw [h]
theorem lst_at {K : PySem.W.Frag} {ι : List Addr} {H : Hp} {S : Sto} {d : D} {x : V} {ds : List D} (s : Sim K ι H S) (r : RepV K ι H d x) (e : lstOf S d = some ds) : ∃ p vs, x = .ref p ∧ H p = some (.lst vs) ∧ RepL K ι H ds vs := by
  cases d with
  | fl xs => cases e; rw [RepV] at r; obtain ⟨a, vs, rfl, t, q⟩ := r; exact ⟨a, vs, rfl, t.2, q⟩
  | loc n =>
    rw [RepV] at r
    obtain ⟨a, ea, rfl⟩ := r
    obtain ⟨vs, h1, h2⟩ := s.ob _ _ _ ea (getL_some e)
    exact ⟨a, vs, rfl, h1, h2⟩
  | _ => cases e
theorem seq_at {K : PySem.W.Frag} {ι : List Addr} {H : Hp} {S : Sto} {d : D} {x : V} {ds : List D} (s : Sim K ι H S) (r : RepV K ι H d x) (e : seqOf S d = some ds) : ∃ p vs, x = .ref p ∧ (SqL K H p vs ∨ SqT K H p vs) ∧ RepL K ι H ds vs := by
  cases d with
  | tup xs => cases e; rw [RepV] at r; obtain ⟨a, vs, rfl, t, q⟩ := r; exact ⟨a, vs, rfl, .inr t.sq, q⟩
  | fl xs => cases e; rw [RepV] at r; obtain ⟨a, vs, rfl, t, q⟩ := r; exact ⟨a, vs, rfl, .inl t.sq, q⟩
  | kl xs => cases e; rw [RepV] at r; obtain ⟨a, vs, rfl, t, q⟩ := r; exact ⟨a, vs, rfl, .inl t.sq, q⟩
  | loc n =>
    rw [RepV] at r
    obtain ⟨a, ea, rfl⟩ := r
    have e : getQ S n = some ds := e
    unfold getQ at e
    (try unfold ifp at e); split at e
    · rename_i q; cases e
      obtain ⟨vs, h1, h2⟩ := s.ob _ _ _ ea q
      exact ⟨a, vs, rfl, .inl (SqL.of h1), h2⟩
    · rename_i q; cases e
      obtain ⟨o, vs, h1, h2⟩ := s.ob _ _ _ ea q
      exact ⟨a, vs, rfl, .inl (.inl (.inr ⟨o, h1⟩)), h2⟩
    · cases e
  | _ => cases e
theorem tup_at {K : PySem.W.Frag} {ι : List Addr} {H : Hp} {ds : List D} {x : V} (r : RepV K ι H (.tup ds) x) : ∃ p vs, x = .ref p ∧ SqT K H p vs ∧ RepL K ι H ds vs := by
  rw [RepV] at r; obtain ⟨a, vs, rfl, t, q⟩ := r; exact ⟨a, vs, rfl, t.sq, q⟩
theorem int_at {K : PySem.W.Frag} {ι : List Addr} {H : Hp} {i : Int} {x : V} (r : RepV K ι H (.int i) x) : x = .int i := by rw [RepV] at r; exact r
theorem str_at {K : PySem.W.Frag} {ι : List Addr} {H : Hp} {i : Str} {x : V} (r : RepV K ι H (.str i) x) : x = .str i := by rw [RepV] at r; exact r
theorem int_rep {K : PySem.W.Frag} {ι : List Addr} {H : Hp} {i : Int} : RepV K ι H (.int i) (.int i) := by rw [RepV]
theorem bl_rep {K : PySem.W.Frag} {ι : List Addr} {H : Hp} {i : Bool} : RepV K ι H (.bl i) (.bl i) := by rw [RepV]
theorem str_rep {K : PySem.W.Frag} {ι : List Addr} {H : Hp} {i : Str} : RepV K ι H (.str i) (.str i) := by rw [RepV]
theorem non_rep {K : PySem.W.Frag} {ι : List Addr} {H : Hp} : RepV K ι H .non .non := by rw [RepV]
theorem rep_nil {K : PySem.W.Frag} {ι : List Addr} {H : Hp} {ds : List D} (h : RepL K ι H ds []) : ds = [] := by
  cases ds with
  | nil => rfl
  | cons d ds => rw [RepL] at h; obtain ⟨v, r, e, _⟩ := h; cases e
noncomputable def dAdd (a b : D) (S : Sto) : R D := match a, b with
  | .int i, .int j => .ok (.int (i + j)) S
  | .str x, .str y => ifp (x.length + y.length ≤ sizeLine) (.ok (.str (x ++ y)) S) .stuck
  | .tup xs, .tup ys => ifp (xs.length + ys.length ≤ sizeLine) (.ok (.tup (xs ++ ys)) S) .stuck
  | a, b => match lstOf S a, lstOf S b with
    | some xs, some ys => ifp (xs.length + ys.length ≤ sizeLine) (.ok (.fl (xs ++ ys)) S) .stuck
    | _, _ => .stuck
def dSub (a b : D) (S : Sto) : R D := match a, b with
  | .int i, .int j => .ok (.int (i - j)) S
  | _, _ => .stuck
open Classical in
noncomputable def dMul (a b : D) (S : Sto) : R D := match a, b with
  | .int i, .int j => ifp (CMul i j ∨ CMulW i j) (.ok (.int (i * j)) S) .stuck
  | a, .int k => match lstOf S a with
    | some xs => ifp (-(2 ^ 63) ≤ k ∧ k < 2 ^ 63 ∧ xs.length * k.toNat ≤ sizeLine) (.ok (.fl (List.replicate k.toNat xs).flatten) S) .stuck
    | _ => .stuck
  | _, _ => .stuck
noncomputable def dFdiv (a b : D) (S : Sto) : R D := match a, b with
  | .int i, .int j => ifp (0 < j ∧ j.natAbs.log2 < 9000) (.ok (.int (i / j)) S) .stuck
  | _, _ => .stuck
def dMod (a b : D) (S : Sto) : R D := match a, b with
  | .int i, .int j => if 0 < j then .ok (.int (i % j)) S else .stuck
  | _, _ => .stuck
noncomputable def dPow (a b : D) (S : Sto) : R D := match a, b with
  | .int i, .int j => ifp (0 ≤ j ∧ j ≤ 1000000 ∧ i.natAbs < 2 ^ 64) (.ok (.int (i ^ j.toNat)) S) .stuck
  | _, _ => .stuck
def dCmp (p : Int → Int → Bool) (a b : D) (S : Sto) : R D := match a, b with
  | .int i, .int j => .ok (.bl (p i j)) S
  | _, _ => .stuck
section
variable {X : Cx} {K : PySem.W.Frag}
def rAddD (K : PySem.W.Frag) : R2 := fun x y H Q => (∃ i j, x = .int i ∧ y = .int j ∧ Q (.int (i + j)) H) ∨ (∃ i j, x = .str i ∧ y = .str j ∧ i.length + j.length ≤ sizeLine ∧ Q (.str (i ++ j)) H) ∨ rCatA K x y H Q ∨ rCat x y H Q
theorem or_add : OpR X (binaryOp .Add) (rAddD X.K) := OpR.or op_add (OpR.or op_add_str (OpR.or op_catA op_cat))
theorem RepL.replicate {K : PySem.W.Frag} {ι : List Addr} {H : Hp} {ds : List D} {vs : List V} (h : RepL K ι H ds vs) : ∀ n : Nat, RepL K ι H (List.replicate n ds).flatten (List.replicate n vs).flatten
  | 0 => RepL.nil
  | n + 1 => by
    rw [List.replicate_succ, List.replicate_succ, List.flatten_cons, List.flatten_cons]
    exact RepL.app ds vs h _ _ (RepL.replicate h n)
theorem k_cat {W : WX} {σ : St} {ι : List Addr} {H : Hp} {S : Sto} {a b : D} {x y : V} {Q : VK} (s : Sim K ι H S) (rx : RepV K ι H a x) (ry : RepV K ι H b y)
    (h : Post K W σ ι H (match lstOf S a, lstOf S b with
    | some xs, some ys => ifp (xs.length + ys.length ≤ sizeLine) (.ok (.fl (xs ++ ys)) S) .stuck
    | _, _ => .stuck) fun d _ ι' H' => ∀ v, RepV K ι' H' d v → Q v H') : rCat x y H Q := by
  (try unfold ifp at h); split at h
  · rename_i xs ys e1 e2
    (try unfold ifp at h); split at h
    · rename_i hl
      obtain ⟨p, vs, rfl, hp, rp⟩ := lst_at s rx e1
      obtain ⟨q, us, rfl, hq, rq⟩ := lst_at s ry e2
      refine ⟨p, q, vs, us, rfl, rfl, hp, hq, ?_, new_fl h s (RepL.app _ _ rp _ _ rq)⟩
      rw [← RepL.length _ _ rp, ← RepL.length _ _ rq]; exact hl
    · exact h.elim
  · exact h.elim
theorem k_add : OpK K (rAddD K) dAdd := by
  intro W σ ι H S x y a b Q s rx ry h
  unfold dAdd at h
  (try unfold ifp at h); split at h
  · rename_i i j
    exact .inl ⟨i, j, int_at rx, int_at ry, h.here s _ int_rep⟩
  · rename_i i j
    (try unfold ifp at h); split at h
    · rename_i hl
      exact .inr (.inl ⟨i, j, str_at rx, str_at ry, hl, h.here s _ str_rep⟩)
    · exact h.elim
  · rename_i xs ys
    (try unfold ifp at h); split at h
    · rename_i hl
      obtain ⟨p, vs, rfl, hp, rp⟩ := tup_at rx
      obtain ⟨q, us, rfl, hq, rq⟩ := tup_at ry
      refine .inr (.inr (.inl ⟨p, q, vs, us, rfl, rfl, hp, hq, ?_, fun e => ?_, fun e1 e => ?_, fun _ _ => new_tup h s (RepL.app _ _ rp _ _ rq)⟩))
      · rw [← RepL.length _ _ rp, ← RepL.length _ _ rq]; exact hl
      · subst e
        have := rep_nil rp
        subst this
        exact h.here s _ (by simpa using ry)
      · subst e
        have := rep_nil rq
        subst this
        exact h.here s _ (by simpa using rx)
    · exact h.elim
  · exact .inr (.inr (.inr (k_cat s rx ry h)))
theorem k_sub : OpK K (rI0 fun i j => .int (i - j)) dSub := by
  intro W σ ι H S x y a b Q s rx ry h
  unfold dSub at h
  (try unfold ifp at h); split at h
  · rename_i i j
    exact ⟨i, j, int_at rx, int_at ry, h.here s _ int_rep⟩
  · exact h.elim
def rMulD : R2 := fun x y H Q => rI CMul (fun i j => .int (i * j)) x y H Q ∨ rI CMulW (fun i j => .int (i * j)) x y H Q ∨ rRep x y H Q
theorem or_mul : OpR X (binaryOp .Mult) rMulD := OpR.or op_mul (OpR.or op_mulW op_rep)
theorem k_mul : OpK K rMulD dMul := by
  intro W σ ι H S x y a b Q s rx ry h
  unfold dMul at h
  (try unfold ifp at h); split at h
  · rename_i i j
    (try unfold ifp at h); split at h
    · rename_i hl
      rcases hl with hl | hl
      · exact .inl ⟨i, j, int_at rx, int_at ry, hl, h.here s _ int_rep⟩
      · exact .inr (.inl ⟨i, j, int_at rx, int_at ry, hl, h.here s _ int_rep⟩)
    · exact h.elim
  · rename_i k _
    (try unfold ifp at h); split at h
    · rename_i xs e
      (try unfold ifp at h); split at h
      · rename_i hl
        obtain ⟨p, vs, rfl, hp, rp⟩ := lst_at s rx e
        refine .inr (.inr ⟨p, k, vs, rfl, int_at ry, hp, hl.1, hl.2.1, ?_, new_fl h s (RepL.replicate rp _)⟩)
        rw [← RepL.length _ _ rp]; exact hl.2.2
      · exact h.elim
    · exact h.elim
  · exact h.elim
theorem k_fdiv : OpK K (rI CDivW fun i j => .int (i / j)) dFdiv := by
  intro W σ ι H S x y a b Q s rx ry h
  unfold dFdiv at h
  (try unfold ifp at h); split at h
  · rename_i i j
    (try unfold ifp at h); split at h
    · rename_i hl
      exact ⟨i, j, int_at rx, int_at ry, hl, h.here s _ int_rep⟩
    · exact h.elim
  · exact h.elim
theorem k_mod : OpK K (rI (fun _ j => j ≠ 0) fun i j => .int (i.fmod j)) dMod := by
  intro W σ ι H S x y a b Q s rx ry h
  unfold dMod at h
  (try unfold ifp at h); split at h
  · rename_i i j
    (try unfold ifp at h); split at h
    · rename_i hl
      refine ⟨i, j, int_at rx, int_at ry, by omega, ?_⟩
      show Q (V.int (i.fmod j)) H
      rw [Int.fmod_eq_emod_of_nonneg i (by omega)]
      exact h.here s _ int_rep
    · exact h.elim
  · exact h.elim
theorem k_pow : OpK K (rI CPow fun i j => .int (i ^ j.toNat)) dPow := by
  intro W σ ι H S x y a b Q s rx ry h
  unfold dPow at h
  (try unfold ifp at h); split at h
  · rename_i i j
    (try unfold ifp at h); split at h
    · rename_i hl
      exact ⟨i, j, int_at rx, int_at ry, hl, h.here s _ int_rep⟩
    · exact h.elim
  · exact h.elim
theorem k_cmp {p : Int → Int → Bool} : OpK K (rI0 fun i j => .bl (p i j)) (dCmp p) := by
  intro W σ ι H S x y a b Q s rx ry h
  unfold dCmp at h
  (try unfold ifp at h); split at h
  · rename_i i j
    exact ⟨i, j, int_at rx, int_at ry, h.here s _ bl_rep⟩
  · exact h.elim
def dLt : D → D → Sto → R D := dCmp fun i j => decide (i < j)
def dLe : D → D → Sto → R D := dCmp fun i j => decide (i ≤ j)
def dGt : D → D → Sto → R D := dCmp fun i j => decide (j < i)
def dGe : D → D → Sto → R D := dCmp fun i j => decide (j ≤ i)
end
end DL
namespace DL
open PySem PySem.Spec L2
open PyProof.Rows hiding St
section
variable {X : Cx} {W : WX} {pos : Pos} {e : Expr} {es : List Expr}
def aNil : Ev → Sto → R (List D) := fun _ S => .ok [] S
def aCons (f : Ev → Sto → R D) (g : Ev → Sto → R (List D)) : Ev → Sto → R (List D) := fun ρ S => (f ρ S).bind fun d S1 => (g ρ S1).bind fun ds S2 => .ok (d :: ds) S2
def sOf (d : D) (S : Sto) : R (List D) := match seqOf S d with
  | some ds => .ok ds S
  | none => .stuck
def aStar (f : Ev → Sto → R D) (g : Ev → Sto → R (List D)) : Ev → Sto → R (List D) := fun ρ S => (f ρ S).bind fun d S1 => (sOf d S1).bind fun xs S2 => (g ρ S2).bind fun ds S3 => .ok (xs ++ ds) S3
theorem da_nil : DA X W [] aNil := PA.imp pa_nil fun σ H Q ⟨ι, ρ, S, hE, hS, h⟩ => h.here hS [] RepL.nil
theorem da_cons {f : Ev → Sto → R D} {g : Ev → Sto → R (List D)} (ha : DE X W e f) (hr : DA X W es g) (hs : starEach (e :: es) X.env = (false, eval e X.env) :: starEach es X.env := by rfl) : DA X W (e :: es) (aCons f g) := by
  refine PA.imp (pa_cons ha hr hs) fun σ H Q ⟨ι, ρ, S, hE, hS, h⟩ => ⟨ι, ρ, S, hE, hS, (Post.bind h).mono fun d S1 ι1 H1 G1 s1 h1 v rv => ?_⟩
  refine ⟨ι1, ρ, S1, hE.grow G1, s1, (Post.bind h1).mono fun ds S2 ι2 H2 G2 s2 h2 vs rs => ?_⟩
  exact h2.here s2 _ (RepL.cons (RepV.grow G2 d v rv) rs)
theorem sOf_bind {α : Type} {K : PySem.W.Frag} {σ : St} {ι : List Addr} {H : Hp} {d : D} {S : Sto} {v : V} {k : List D → Sto → R α} {P : α → Sto → List Addr → Hp → Prop} (h : Post K W σ ι H ((sOf d S).bind k) P) (s : Sim K ι H S) (r : RepV K ι H d v) :
    ∃ ds p vs, v = .ref p ∧ (SqL K H p vs ∨ SqT K H p vs) ∧ RepL K ι H ds vs ∧ Post K W σ ι H (k ds S) P := by
  unfold sOf at h
  cases e : seqOf S d with
  | none => rw [e] at h; exact h.elim
  | some ds =>
    rw [e] at h
    obtain ⟨p, vs, rfl, q, rl⟩ := seq_at s r e
    exact ⟨ds, p, vs, rfl, q, rl, h⟩
theorem da_star {p : Pos} {f : Ev → Sto → R D} {g : Ev → Sto → R (List D)} (ha : DE X W e f) (hr : DA X W es g) (hs : starEach (.Starred e p :: es) X.env = (true, eval e X.env) :: starEach es X.env := by rfl) : DA X W (.Starred e p :: es) (aStar f g) := by
  refine PA.imp (StX.pa_star ha hr hs) fun σ H Q ⟨ι, ρ, S, hE, hS, h⟩ => ⟨ι, ρ, S, hE, hS, (Post.bind h).mono fun d S1 ι1 H1 G1 s1 h1 v rv => ?_⟩
  obtain ⟨ds, p, vs, rfl, q, rl, h2⟩ := sOf_bind h1 s1 rv
  refine ⟨p, vs, rfl, q.symm, ι1, ρ, S1, hE.grow G1, s1, (Post.bind h2).mono fun es S2 ι2 H2 G2 s2 h2 us rs => ?_⟩
  exact h2.here s2 _ (RepL.app _ _ (RepL.grow G2 _ _ rl) _ _ rs)
noncomputable def eTup (g : Ev → Sto → R (List D)) : Ev → Sto → R D := fun ρ S => (g ρ S).bind fun ds S1 => ifp (ds.length ≤ sizeLine) (.ok (.tup ds) S1) .stuck
noncomputable def eFl (g : Ev → Sto → R (List D)) : Ev → Sto → R D := fun ρ S => (g ρ S).bind fun ds S1 => ifp (ds.length ≤ sizeLine) (.ok (.fl ds) S1) .stuck
noncomputable def eLoc (g : Ev → Sto → R (List D)) : Ev → Sto → R D := fun ρ S => (g ρ S).bind fun ds S1 => ifp (ds.length ≤ sizeLine) (.ok (.loc S1.length) (S1 ++ [.lst ds])) .stuck
theorem de_tup {k} {g : Ev → Sto → R (List D)} (h : DA X W es g) : DE X W (.Tuple es k pos) (eTup g) := by
  refine PE.imp (pe_tup h) fun σ H Q ⟨ι, ρ, S, hE, hS, h⟩ => ⟨ι, ρ, S, hE, hS, (Post.bind h).mono fun ds S1 ι1 H1 G1 s1 h1 vs rs => ?_⟩
  (try unfold ifp at h1); split at h1
  · rename_i hl
    exact ⟨by rw [← RepL.length _ _ rs]; exact hl, new_tup h1 s1 rs⟩
  · exact h1.elim
theorem de_fl {g : Ev → Sto → R (List D)} (h : DA X W es g) : DE X W (.List es pos) (eFl g) := by
  refine PE.imp (pe_lst h) fun σ H Q ⟨ι, ρ, S, hE, hS, h⟩ => ⟨ι, ρ, S, hE, hS, (Post.bind h).mono fun ds S1 ι1 H1 G1 s1 h1 vs rs => ?_⟩
  (try unfold ifp at h1); split at h1
  · rename_i hl
    exact ⟨by rw [← RepL.length _ _ rs]; exact hl, new_fl h1 s1 rs⟩
  · exact h1.elim
theorem de_loc {g : Ev → Sto → R (List D)} (h : DA X W es g) : DE X W (.List es pos) (eLoc g) := by
  refine PE.imp (pe_lst h) fun σ H Q ⟨ι, ρ, S, hE, hS, h⟩ => ⟨ι, ρ, S, hE, hS, (Post.bind h).mono fun ds S1 ι1 H1 G1 s1 h1 vs rs => ?_⟩
  (try unfold ifp at h1); split at h1
  · rename_i hl
    exact ⟨by rw [← RepL.length _ _ rs]; exact hl, new_loc h1 s1 rs⟩
  · exact h1.elim
noncomputable def dIx (a b : D) (S : Sto) : R D := match a, b with
  | .str z, .int i => ifp (z.length ≤ sizeLine) (match atI z.cps.toList i with
    | some c => .ok (.str ⟨#[c]⟩) S
    | none => .stuck) .stuck
  | a, .int i => match seqOf S a with
    | some xs => (match atI xs i with
      | some d => .ok d S
      | none => .stuck)
    | none => .stuck
  | _, _ => .stuck
theorem atI_rep {K : PySem.W.Frag} {ι : List Addr} {H : Hp} {ds : List D} {vs : List V} {i : Int} {d : D} (r : RepL K ι H ds vs) (e : atI ds i = some d) : ∃ v, atI vs i = some v ∧ RepV K ι H d v := by
  unfold atI at e ⊢
  rw [← RepL.length _ _ r]
  cases h : ixN ds.length i with
  | none => rw [h] at e; cases e
  | some j =>
    rw [h] at e
    exact RepL.get _ _ r j d e
theorem k_ix {K : PySem.W.Frag} : OpK K (rIx K) dIx := by
  intro W σ ι H S x y a b Q s rx ry h
  unfold dIx at h
  (try unfold ifp at h); split at h
  · rename_i z i
    (try unfold ifp at h); split at h
    · rename_i hz
      (try unfold ifp at h); split at h
      · rename_i c hc
        exact .inr (.inr ⟨z, i, c, str_at rx, int_at ry, hz, hc, h.here s _ str_rep⟩)
      · exact h.elim
    · exact h.elim
  · rename_i i _
    (try unfold ifp at h); split at h
    · rename_i xs e
      (try unfold ifp at h); split at h
      · rename_i d hd
        obtain ⟨p, vs, rfl, q, rl⟩ := seq_at s rx e
        obtain ⟨v, hv, rv⟩ := atI_rep rl hd
        rcases q with q | q
        · exact .inl ⟨p, vs, i, v, rfl, int_at ry, q, hv, h.here s _ rv⟩
        · exact .inr (.inl ⟨p, vs, i, v, rfl, int_at ry, q, hv, h.here s _ rv⟩)
      · exact h.elim
    · exact h.elim
  · exact h.elim
theorem de_ix {a b : Expr} {f g : Ev → Sto → R D} (ha : DE X W a f) (hb : DE X W b g) (hs : PlainIx b := by exact fun _ _ => rfl) : DE X W (.Subscript a b pos) (eOp dIx f g) :=
  PE.imp (pe_ix ix_seq ha hb hs) (op_seq k_ix)
def rdO (K : PySem.W.Frag) (W : WX) (f : Ev → Sto → R (Option Int)) : TO := fun σ H Q => ∃ ι ρ S, RepE K ι H σ ρ ∧ Sim K ι H S ∧ Post K W σ ι H (f ρ S) fun b _ _ H' => Q b H'
abbrev DO (X : Cx) (W : WX) (e : Option Expr) (f : Ev → Sto → R (Option Int)) : Prop := PO X e (rdO X.K W f)
theorem PO.imp {X : Cx} {e : Option Expr} {t u : TO} (h : PO X e t) (i : ∀ σ H Q, u σ H Q → t σ H Q) : PO X e u := ⟨fun pins s σ H Q I q => h.run pins s σ H Q I (i σ H Q q)⟩
def oNone : Ev → Sto → R (Option Int) := fun _ S => .ok none S
def iOf (d : D) (S : Sto) : R Int := match d with
  | .int i => .ok i S
  | _ => .stuck
def oSome (f : Ev → Sto → R D) : Ev → Sto → R (Option Int) := fun ρ S => (f ρ S).bind fun d S1 => (iOf d S1).bind fun i S2 => .ok (some i) S2
theorem do_none : DO X W none oNone := PO.imp po_none fun σ H Q ⟨ι, ρ, S, hE, hS, h⟩ => h.here hS
theorem do_some {f : Ev → Sto → R D} (h : DE X W e f) : DO X W (some e) (oSome f) := by
  refine PO.imp (po_some h) fun σ H Q ⟨ι, ρ, S, hE, hS, h⟩ => ⟨ι, ρ, S, hE, hS, (Post.bind h).mono fun d S1 ι1 H1 G1 s1 h1 v rv => ?_⟩
  cases d with
  | int i => exact ⟨i, int_at rv, h1.here s1⟩
  | _ => exact (show False from h1).elim
def cut {α : Type} (xs : List α) (lo hi : Option Int) : List α := (xs.drop (HT.sIx xs.length 0 lo)).take (HT.sIx xs.length xs.length hi - HT.sIx xs.length 0 lo)
noncomputable def dSl (mk : List D → Sto → R D) (a : D) (lo hi : Option Int) (S : Sto) : R D := match a with
  | .str z => ifp (z.length ≤ sizeLine) (.ok (.str (cutS z lo hi)) S) .stuck
  | .tup xs => .ok (.tup (cut xs lo hi)) S
  | a => match lstOf S a with
    | some xs => mk (cut xs lo hi) S
    | none => .stuck
def mkFl (ds : List D) (S : Sto) : R D := .ok (.fl ds) S
def mkLoc (ds : List D) (S : Sto) : R D := .ok (.loc S.length) (S ++ [.lst ds])
/-- a new list comes, frozen or into the store -/
def MkOk (mk : List D → Sto → R D) : Prop := ∀ (K : PySem.W.Frag) (W : WX) (σ : St) (ι : List Addr) (H : Hp) (S : Sto) (ds : List D) (vs : List V) (Q : VK), Post K W σ ι H (mk ds S) (fun d _ ι' H' => ∀ v, RepV K ι' H' d v → Q v H') → Sim K ι H S → RepL K ι H ds vs →
  ∀ p, H p = none → Q (.ref p) (upd H p (.lst vs))
theorem mk_fl : MkOk mkFl := fun _ _ _ _ _ _ _ _ _ h s r => new_fl h s r
noncomputable def eSl (mk : List D → Sto → R D) (f : Ev → Sto → R D) (l u : Ev → Sto → R (Option Int)) : Ev → Sto → R D := fun ρ S => (f ρ S).bind fun d S1 => (l ρ S1).bind fun lo S2 => (u ρ S2).bind fun hi S3 => dSl mk d lo hi S3
theorem cut_rep {K : PySem.W.Frag} {ι : List Addr} {H : Hp} {ds : List D} {vs : List V} (r : RepL K ι H ds vs) (lo hi : Option Int) : RepL K ι H (cut ds lo hi) (cutV vs lo hi) := by
  unfold cut cutV
  rw [← RepL.length _ _ r]
  exact RepL.take _ _ _ (RepL.drop _ _ _ r)
theorem cut_whole {α : Type} (xs : List α) (lo hi : Option Int) (h : HT.sIx xs.length 0 lo = 0 ∧ HT.sIx xs.length xs.length hi = xs.length) : cut xs lo hi = xs := by
  unfold cut
  rw [h.1, h.2]
  simp
theorem de_sl {mk : List D → Sto → R D} {lo hi : Option Expr} {p2 : Pos} {f : Ev → Sto → R D} {l u : Ev → Sto → R (Option Int)} (m : MkOk mk) (he : DE X W e f) (hl : DO X W lo l) (hu : DO X W hi u) : DE X W (.Subscript e (.Slice lo hi none p2) pos) (eSl mk f l u) := by
  refine PE.imp (pe_slice (SlR.or sl_str (SlR.or sl_tupA sl_list)) he hl hu) fun σ H Q ⟨ι, ρ, S, hE, hS, h⟩ => ⟨ι, ρ, S, hE, hS, (Post.bind h).mono fun d S1 ι1 H1 G1 s1 h1 v rv => ?_⟩
  refine ⟨ι1, ρ, S1, hE.grow G1, s1, (Post.bind h1).mono fun lo S2 ι2 H2 G2 s2 h2 => ?_⟩
  refine ⟨ι2, ρ, S2, (hE.grow G1).grow G2, s2, (Post.bind h2).mono fun hi S3 ι3 H3 G3 s3 h3 => ?_⟩
  have rv := RepV.grow G3 d v (RepV.grow G2 d v rv)
  unfold dSl at h3
  (try unfold ifp at h3); split at h3
  · (try unfold ifp at h3); split at h3
    · rename_i hz
      exact .inl ⟨_, str_at rv, hz, h3.here s3 _ str_rep⟩
    · exact h3.elim
  · obtain ⟨p, vs, rfl, q, rl⟩ := tup_at rv
    refine .inr (.inl ⟨p, vs, rfl, q, fun e => ?_, fun _ => new_tup h3 s3 (cut_rep rl _ _)⟩)
    rw [← RepL.length _ _ rl] at e
    rw [cut_whole _ _ _ e] at h3
    exact h3.here s3 _ rv
  · (try unfold ifp at h3); split at h3
    · rename_i xs e
      obtain ⟨p, vs, rfl, q, rl⟩ := lst_at s3 rv e
      exact .inr (.inr ⟨p, vs, rfl, SqL.of q, m _ _ _ _ _ _ _ _ _ h3 s3 (cut_rep rl _ _)⟩)
    · exact h3.elim
end
end DL
namespace DL
open PySem PySem.Spec L2
open PyProof.Rows hiding St
def keyPy : Key → PyData
  | .inl i => .int i
  | .inr x => .str x
mutual
def py : D → Option PyData
  | .non => some .none
  | .bl b => some (.bool b)
  | .int i => some (.int i)
  | .str x => some (.str x)
  | .tup ds => (pyL ds).map .tuple
  | .fl ds => (pyL ds).map .list
  | .kl _ => none
  | .ktp _ => none
  | .ztp _ => none
  | .fd kvs => (pyK kvs).map .dict
  | .ty _ => none
  | .fn _ => none
  | .exc _ _ => none
  | .loc _ => none
def pyL : List D → Option (List PyData)
  | [] => some []
  | d :: ds => (py d).bind fun p => (pyL ds).map fun ps => p :: ps
def pyK : List (Key × D) → Option (List (PyData × PyData))
  | [] => some []
  | (k, d) :: ds => (py d).bind fun p => (pyK ds).map fun ps => (keyPy k, p) :: ps
end
def pyS (S : Sto) : D → Option PyData
  | .loc n => (getQ S n).bind fun ds => (pyL ds).map .list
  | d => py d
mutual
theorem py_dp {K : PySem.W.Frag} {ι : List Addr} {H : Hp} : ∀ (d : D) (v : V) (p : PyData), RepV K ι H d v → py d = some p → p.hasDict = false → Dp K H v p
  | .non, v, p, r, e, _ => by rw [RepV] at r; rw [py] at e; cases e; subst r; exact .non
  | .bl b, v, p, r, e, _ => by rw [RepV] at r; rw [py] at e; cases e; subst r; exact .bl b
  | .int i, v, p, r, e, _ => by rw [RepV] at r; rw [py] at e; cases e; subst r; exact .int i
  | .str x, v, p, r, e, _ => by rw [RepV] at r; rw [py] at e; cases e; subst r; exact .str x
  | .tup ds, v, p, r, e, n => by
    rw [RepV] at r
    obtain ⟨a, vs, rfl, t, q⟩ := r
    rw [py] at e
    cases h : pyL ds with
    | none => rw [h] at e; cases e
    | some ps =>
      rw [h] at e; cases e
      exact .tup t.sq (pyL_dp ds vs ps q h (by simpa [PyData.hasDict] using n))
  | .fl ds, v, p, r, e, n => by
    rw [RepV] at r
    obtain ⟨a, vs, rfl, t, q⟩ := r
    rw [py] at e
    cases h : pyL ds with
    | none => rw [h] at e; cases e
    | some ps =>
      rw [h] at e; cases e
      exact .lst t.sq (pyL_dp ds vs ps q h (by simpa [PyData.hasDict] using n))
  | .kl _, v, p, r, e, _ => by rw [py] at e; cases e
  | .ktp _, v, p, r, e, _ => by rw [py] at e; cases e
  | .ztp _, v, p, r, e, _ => by rw [py] at e; cases e
  | .fd kvs, v, p, r, e, n => by
    rw [py] at e
    cases h : pyK kvs with
    | none => rw [h] at e; cases e
    | some ps => rw [h] at e; cases e; simp [PyData.hasDict] at n
  | .ty _, v, p, r, e, _ => by rw [py] at e; cases e
  | .fn _, v, p, r, e, _ => by rw [py] at e; cases e
  | .exc _ _, v, p, r, e, _ => by rw [py] at e; cases e
  | .loc _, v, p, r, e, _ => by rw [py] at e; cases e
theorem pyL_dp {K : PySem.W.Frag} {ι : List Addr} {H : Hp} : ∀ (ds : List D) (vs : List V) (ps : List PyData), RepL K ι H ds vs → pyL ds = some ps → PyData.hasDictAll ps = false → DpAll K H vs ps
  | [], vs, ps, r, e, _ => by rw [RepL] at r; rw [pyL] at e; cases e; subst r; exact .nil
  | d :: ds, vs, ps, r, e, n => by
    rw [RepL] at r
    obtain ⟨v, us, rfl, a, b⟩ := r
    rw [pyL] at e
    cases h : py d with
    | none => rw [h] at e; cases e
    | some p =>
      rw [h] at e
      cases h2 : pyL ds with
      | none => rw [h2] at e; cases e
      | some qs =>
        rw [h2] at e; cases e
        simp only [PyData.hasDictAll, Bool.or_eq_false_iff] at n
        exact .cons (py_dp d v p a h n.1) (pyL_dp ds us qs b h2 n.2)
end
theorem pyS_dp {K : PySem.W.Frag} {ι : List Addr} {H : Hp} {S : Sto} {d : D} {v : V} {p : PyData} (s : Sim K ι H S) (r : RepV K ι H d v) (e : pyS S d = some p) (n : p.hasDict = false) : Dp K H v p := by
  cases d with
  | loc m =>
    have e : (getQ S m).bind (fun ds => (pyL ds).map .list) = some p := e
    cases h : getQ S m with
    | none => rw [h] at e; cases e
    | some ds =>
      rw [h] at e
      have e : (pyL ds).map PyData.list = some p := e
      cases h2 : pyL ds with
      | none => rw [h2] at e; cases e
      | some ps =>
        rw [h2] at e; cases e
        rw [RepV] at r
        obtain ⟨a, ea, rfl⟩ := r
        have n : PyData.hasDictAll ps = false := by simpa [PyData.hasDict] using n
        unfold getQ at h
        split at h
        · rename_i q; cases h
          obtain ⟨vs, h1, h3⟩ := s.ob _ _ _ ea q
          exact .lst (SqL.of h1) (pyL_dp _ _ _ h3 h2 n)
        · rename_i q; cases h
          obtain ⟨o, vs, h1, h3⟩ := s.ob _ _ _ ea q
          exact .lst (.inl (.inr ⟨o, h1⟩)) (pyL_dp _ _ _ h3 h2 n)
        · cases h
  | _ => exact py_dp _ v p r e n
def dEqP (neg : Bool) (a b : D) (S : Sto) : R D := match pyS S a, pyS S b with
  | some p, some q => if SeqAt.shaped p = true ∧ SeqAt.shaped q = true then .ok (.bl (if neg then !PyData.eqv p q else PyData.eqv p q)) S else .stuck
  | _, _ => .stuck
def dEq (neg : Bool) (a b : D) (S : Sto) : R D := match a, b with
  | .str x, .str y => .ok (.bl (if neg then !decide (x = y) else decide (x = y))) S
  | a, b => dEqP neg a b S
theorem noDict_shaped {p : PyData} (h : SeqAt.shaped p = true) : p.hasDict = false := PyData.hasDict_of_canLay p (SeqAt.canLay_of_shaped h)
theorem or_eq {X : Cx} (hu : X.A.units + 64 < cLine) : OpR X (compareOp .Eq) (fun x y H Q => rEq x y H Q ∨ rEqD X.K x y H Q) := OpR.or op_eq (op_eqD hu)
theorem or_ne {X : Cx} (hu : X.A.units + 64 < cLine) : OpR X (compareOp .NotEq) (fun x y H Q => rNe x y H Q ∨ rNeD X.K x y H Q) := OpR.or op_ne (op_neD hu)
theorem dec_str (x y : Str) : decide ((V.str x) = V.str y) = decide (x = y) := by
  by_cases e : x = y
  · subst e; simp
  · rw [decide_eq_false e, decide_eq_false fun z => e (V.str.inj z)]
theorem k_eqD {K : PySem.W.Frag} : OpK K (fun x y H Q => rEq x y H Q ∨ rEqD K x y H Q) (dEq false) := by
  intro W σ ι H S x y a b Q s rx ry h
  unfold dEq at h
  split at h
  · rename_i u v
    rw [str_at rx, str_at ry]
    refine .inl ⟨rfl, ?_⟩
    rw [dec_str]
    exact h.here s _ bl_rep
  · unfold dEqP at h
    split at h
    · rename_i p q e1 e2
      split at h
      · rename_i hl
        exact .inr ⟨p, q, pyS_dp s rx e1 (noDict_shaped hl.1), pyS_dp s ry e2 (noDict_shaped hl.2), hl.1, hl.2, h.here s _ bl_rep⟩
      · exact h.elim
    · exact h.elim
theorem k_neD {K : PySem.W.Frag} : OpK K (fun x y H Q => rNe x y H Q ∨ rNeD K x y H Q) (dEq true) := by
  intro W σ ι H S x y a b Q s rx ry h
  unfold dEq at h
  split at h
  · rename_i u v
    rw [str_at rx, str_at ry]
    refine .inl ⟨rfl, ?_⟩
    rw [dec_str]
    exact h.here s _ bl_rep
  · unfold dEqP at h
    split at h
    · rename_i p q e1 e2
      split at h
      · rename_i hl
        exact .inr ⟨p, q, pyS_dp s rx e1 (noDict_shaped hl.1), pyS_dp s ry e2 (noDict_shaped hl.2), hl.1, hl.2, h.here s _ bl_rep⟩
      · exact h.elim
    · exact h.elim
def isN : D → Bool
  | .non => true
  | _ => false
def dIsN (neg : Bool) (a b : D) (S : Sto) : R D := match b with
  | .non => .ok (.bl (if neg then !isN a else isN a)) S
  | _ => .stuck
end DL
namespace DL
open PySem PySem.Spec L2
open PyProof.Rows hiding St
def R.toS {α : Type} (r : R α) (ρ : Ev) (k : α → Sto → SR) : SR := match r with
  | .ok a S => k a S
  | .er e S => .er e ρ S
  | .stuck => .stuck
@[simp] theorem R.toS_ok {α : Type} (a : α) (S : Sto) (ρ : Ev) (k : α → Sto → SR) : (R.ok a S).toS ρ k = k a S := rfl
@[simp] theorem R.toS_er {α : Type} (e : Ex) (S : Sto) (ρ : Ev) (k : α → Sto → SR) : (R.er e S : R α).toS ρ k = .er e ρ S := rfl
@[simp] theorem R.toS_stuck {α : Type} (ρ : Ev) (k : α → Sto → SR) : (R.stuck : R α).toS ρ k = .stuck := rfl
def SR.next (r : SR) (k : Ev → Sto → SR) : SR := match r with
  | .nx ρ S => k ρ S
  | .rt d S => .rt d S
  | .bk ρ S => .bk ρ S
  | .ct ρ S => .ct ρ S
  | .er e ρ S => .er e ρ S
  | .stuck => .stuck
@[simp] theorem SR.next_nx (ρ : Ev) (S : Sto) (k : Ev → Sto → SR) : (SR.nx ρ S).next k = k ρ S := rfl
@[simp] theorem SR.next_rt (d : D) (S : Sto) (k : Ev → Sto → SR) : (SR.rt d S).next k = .rt d S := rfl
@[simp] theorem SR.next_er (e : Ex) (ρ : Ev) (S : Sto) (k : Ev → Sto → SR) : (SR.er e ρ S).next k = .er e ρ S := rfl
@[simp] theorem SR.next_bk (ρ : Ev) (S : Sto) (k : Ev → Sto → SR) : (SR.bk ρ S).next k = .bk ρ S := rfl
@[simp] theorem SR.next_ct (ρ : Ev) (S : Sto) (k : Ev → Sto → SR) : (SR.ct ρ S).next k = .ct ρ S := rfl
@[simp] theorem SR.next_stuck (k : Ev → Sto → SR) : (SR.stuck).next k = .stuck := rfl
theorem PostS.bind {α : Type} {K : PySem.W.Frag} {W : WX} {E : Ends} {σ : St} {ρ : Ev} {ι : List Addr} {H : Hp} {r : R α} {k : α → Sto → SR} (h : PostS K W E ι H (r.toS ρ k)) (hE : RepE K ι H σ ρ) :
    Post K W σ ι H r fun a S1 ι1 H1 => PostS K W E ι1 H1 (k a S1) := by
  cases r with
  | stuck => exact h
  | er e S => exact fun ι' H' cls dd G s x => h ι' H' σ cls dd G s (hE.grow G) x
  | ok a S => exact fun ι1 H1 G1 s1 => PostS.grow h G1
def dCmpI (p : Int → Int → Int) (a b : D) (S : Sto) : R D := match a, b with
  | .int i, .int j => .ok (.int (p i j)) S
  | _, _ => .stuck
def dAddI : D → D → Sto → R D := dCmpI fun i j => i + j
def dSubI : D → D → Sto → R D := dCmpI fun i j => i - j
section
variable {X : Cx} {W : WX} {pos : Pos} {e : Expr} {st : Stmt} {rest : List Stmt}
def sNil : Ev → Sto → SR := fun ρ S => .nx ρ S
def sSeq (F G : Ev → Sto → SR) : Ev → Sto → SR := fun ρ S => (F ρ S).next G
theorem dss_nil : DSs X W [] sNil := PSs.imp pss_nil fun E σ H ⟨ι, ρ, S, hE, hS, h⟩ => h ι H σ (Grow.refl _ _) hS hE
theorem dss_cons {F G : Ev → Sto → SR} (h1 : DS X W st F) (h2 : DSs X W rest G) : DSs X W (st :: rest) (sSeq F G) := by
  refine PSs.imp (pss_cons h1 h2) fun E σ H ⟨ι, ρ, S, hE, hS, h⟩ => ⟨ι, ρ, S, hE, hS, ?_⟩
  unfold sSeq at h
  cases hF : F ρ S with
  | nx ρ1 S1 => rw [hF] at h; exact fun ι1 H1 σ1 G1 s1 e1 => ⟨ι1, ρ1, S1, e1, s1, PostS.grow h G1⟩
  | rt d S1 => rw [hF] at h; exact h
  | bk ρ1 S1 => rw [hF] at h; exact h
  | ct ρ1 S1 => rw [hF] at h; exact h
  | er e ρ1 S1 => rw [hF] at h; exact h
  | stuck => rw [hF] at h; exact h
theorem dss_one {F : Ev → Sto → SR} (h1 : DS X W st F) : DSs X W [st] F := pss_one h1
def sBrk : Ev → Sto → SR := fun ρ S => .bk ρ S
def sCnt : Ev → Sto → SR := fun ρ S => .ct ρ S
def sExp (f : Ev → Sto → R D) : Ev → Sto → SR := fun ρ S => (f ρ S).toS ρ fun _ S1 => .nx ρ S1
def sRet (f : Ev → Sto → R D) : Ev → Sto → SR := fun ρ S => (f ρ S).toS ρ fun d S1 => .rt d S1
theorem ds_expr {f : Ev → Sto → R D} (he : DE X W e f) (hs : swapsWith e none pos.line X.env = pure false := by rfl) : DS X W (.Expr e pos) (sExp f) := by
  refine PS.imp (ps_expr he hs) fun E σ H ⟨ι, ρ, S, hE, hS, h⟩ => ⟨ι, ρ, S, hE, hS, (PostS.bind h hE).mono fun d S1 ι1 H1 G1 s1 h1 v rv => ?_⟩
  exact h1 ι1 H1 σ (Grow.refl _ _) s1 (hE.grow G1)
theorem ds_ret {f : Ev → Sto → R D} (he : DE X W e f) : DS X W (.Return (some e) pos) (sRet f) := by
  refine PS.imp (ps_ret he) fun E σ H ⟨ι, ρ, S, hE, hS, h⟩ => ⟨ι, ρ, S, hE, hS, (PostS.bind h hE).mono fun d S1 ι1 H1 G1 s1 h1 v rv => ?_⟩
  exact h1 ι1 H1 v (Grow.refl _ _) s1 rv
def sRetN : Ev → Sto → SR := fun _ S => .rt .non S
def sIf (c : Ev → Sto → R Bool) (F G : Ev → Sto → SR) : Ev → Sto → SR := fun ρ S => (c ρ S).toS ρ fun b S1 => if b = true then F ρ S1 else G ρ S1
theorem ds_if {c : Expr} {a b : List Stmt} {t : Ev → Sto → R Bool} {F G : Ev → Sto → SR} (hc : DT X W c t) (ha : DSs X W a F) (hb : DSs X W b G) : DS X W (.If c a b pos) (sIf t F G) := by
  refine PS.imp (ps_if hc ha hb) fun E σ H ⟨ι, ρ, S, hE, hS, h⟩ => ⟨ι, ρ, S, hE, hS, (PostS.bind h hE).mono fun b S1 ι1 H1 G1 s1 h1 => ?_⟩
  cases b with
  | true => rw [if_pos rfl] at h1 ⊢; exact ⟨ι1, ρ, S1, hE.grow G1, s1, h1⟩
  | false => rw [if_neg (by decide)] at h1 ⊢; exact ⟨ι1, ρ, S1, hE.grow G1, s1, h1⟩
abbrev Tg := D → Ev → Sto → Option (Ev × Sto)
abbrev Tgs := List D → Ev → Sto → Option (Ev × Sto)
def rdG (K : PySem.W.Frag) (T : Tg) : TG := fun v σ H Q => ∃ ι ρ S d ρ' S', RepE K ι H σ ρ ∧ Sim K ι H S ∧ RepV K ι H d v ∧ T d ρ S = some (ρ', S') ∧ ∀ ι' H' σ', Grow ι H ι' H' → Sim K ι' H' S' → RepE K ι' H' σ' ρ' → Q σ' H'
abbrev DG (X : Cx) (e : Expr) (T : Tg) : Prop := PG X e (rdG X.K T)
theorem PG.imp {X : Cx} {e : Expr} {t u : TG} (h : PG X e t) (i : ∀ v σ H Q, u v σ H Q → t v σ H Q) : PG X e u := ⟨fun pins s σ H v w Q I r q => h.run pins s σ H v w Q I r (i v σ H Q q)⟩
def tN (i : Nat) : Tg := fun d ρ S => some (ρ.set i (some d), S)
theorem dg_name (i : Nat) {x : Str} (hN : X.N.Nodup) (hi : X.N[i]? = some x := by rfl) (hx : Loc X.env.scope x := by first | exact .inl rfl | exact .inr rfl) (hf : X.fn x = true ∨ X.env.scope.names.lookup x = some .local := by first | exact .inl rfl | exact .inr rfl | assumption) : DG X (.Name x pos) (tN i) :=
  PG.imp (pg_name hN hi hx hf) fun v σ H Q ⟨ι, ρ, S, d, ρ', S', hE, hS, r, e, h⟩ => by
    cases e
    exact h ι H _ (Grow.refl _ _) hS (hE.set r i)
def rdGs (K : PySem.W.Frag) (T : Tgs) : TGs := fun vs σ H Q => ∃ ι ρ S ds ρ' S', RepE K ι H σ ρ ∧ Sim K ι H S ∧ RepL K ι H ds vs ∧ T ds ρ S = some (ρ', S') ∧ ∀ ι' H' σ', Grow ι H ι' H' → Sim K ι' H' S' → RepE K ι' H' σ' ρ' → Q σ' H'
abbrev DGs (X : Cx) (e : List Expr) (T : Tgs) : Prop := PGs X e (rdGs X.K T)
theorem PGs.imp {X : Cx} {e : List Expr} {t u : TGs} (h : PGs X e t) (i : ∀ v σ H Q, u v σ H Q → t v σ H Q) : PGs X e u := ⟨fun pins s σ H v w Q I r q => h.run pins s σ H v w Q I r (i v σ H Q q)⟩
def tNil : Tgs := fun ds ρ S => match ds with
  | [] => some (ρ, S)
  | _ => none
def tCons (T : Tg) (U : Tgs) : Tgs := fun ds ρ S => match ds with
  | d :: r => (T d ρ S).bind fun q => U r q.1 q.2
  | [] => none
theorem dgs_nil : DGs X [] tNil := PGs.imp pgs_nil fun v σ H Q ⟨ι, ρ, S, ds, ρ', S', hE, hS, r, e, h⟩ => by
  cases ds with
  | nil => cases e; rw [RepL] at r; exact ⟨r, h ι H σ (Grow.refl _ _) hS hE⟩
  | cons d ds => cases e
theorem dgs_cons {es : List Expr} {T : Tg} {U : Tgs} (h1 : DG X e T) (h2 : DGs X es U) (hs : (assignEach (e :: es) X.env).map (·.2) = assign e X.env :: (assignEach es X.env).map (·.2) := by rfl) : DGs X (e :: es) (tCons T U) :=
  PGs.imp (pgs_cons h1 h2 hs) fun v σ H Q ⟨ι, ρ, S, ds, ρ', S', hE, hS, r, e, h⟩ => by
    cases ds with
    | nil => cases e
    | cons d ds =>
      rw [RepL] at r
      obtain ⟨v, vs, rfl, rv, rl⟩ := r
      have e : (T d ρ S).bind (fun q => U ds q.1 q.2) = some (ρ', S') := e
      cases hT : T d ρ S with
      | none => rw [hT] at e; cases e
      | some q =>
        obtain ⟨ρ1, S1⟩ := q
        rw [hT] at e
        refine ⟨v, vs, rfl, ι, ρ, S, d, ρ1, S1, hE, hS, rv, hT, fun ι1 H1 σ1 G1 s1 e1 => ?_⟩
        exact ⟨ι1, ρ1, S1, ds, ρ', S', e1, s1, RepL.grow G1 _ _ rl, e, fun ι2 H2 σ2 G2 => h ι2 H2 σ2 (G1.trans G2)⟩
def tTup (n : Nat) (U : Tgs) : Tg := fun d ρ S => match d with
  | .tup ds => if ds.length = n then U ds ρ S else none
  | _ => none
theorem dg_tup {es : List Expr} {k : Nat} {U : Tgs} {n : Nat} (hc : X.calm = true) (h : DGs X es U) (hn : (assignEach es X.env).length = n := by rfl) (hst : (assignEach es X.env).findIdx? (·.1) = none := by rfl) : DG X (.Tuple es k pos) (tTup n U) :=
  PG.imp (pg_tup hc h hn hst) fun v σ H Q ⟨ι, ρ, S, d, ρ', S', hE, hS, r, e, h⟩ => by
    cases d with
    | tup ds =>
      have e : (if ds.length = n then U ds ρ S else none) = some (ρ', S') := e
      by_cases hl : ds.length = n
      · rw [if_pos hl] at e
        obtain ⟨p, vs, rfl, q, rl⟩ := tup_at r
        exact ⟨p, vs, rfl, q, by rw [← RepL.length _ _ rl]; exact hl, ι, ρ, S, ds, ρ', S', hE, hS, rl, e, h⟩
      · rw [if_neg hl] at e; cases e
    | _ => cases e
/-- o[i] = v -/
def dSet (o i v : D) (S : Sto) : Option Sto := match o, i with
  | .loc n, .int k => (getL S n).bind fun ds => (ixN ds.length k).map fun j => S.set n (.lst (ds.set j v))
  | _, _ => none
def tSub (f g : Ev → Sto → R D) : Tg := fun v ρ S => match f ρ S with
  | .ok o S1 => (match g ρ S1 with
    | .ok i S2 => (dSet o i v S2).map fun S3 => (ρ, S3)
    | _ => none)
  | _ => none
theorem dSet_some {o i v : D} {S S' : Sto} (h : dSet o i v S = some S') : ∃ n k ds j, o = .loc n ∧ i = .int k ∧ getL S n = some ds ∧ ixN ds.length k = some j ∧ S' = S.set n (.lst (ds.set j v)) := by
  unfold dSet at h
  split at h
  · rename_i n k
    cases hL : getL S n with
    | none => simp [hL] at h
    | some ds =>
      cases hj : ixN ds.length k with
      | none => simp [hL, hj] at h
      | some j =>
        simp [hL, hj] at h
        exact ⟨n, k, ds, j, rfl, rfl, hL, hj, h.symm⟩
  · cases h
theorem dg_sub {o i : Expr} {f g : Ev → Sto → R D} (ho : DE X W o f) (hi : DE X W i g) (ha : ∀ v, assign (.Subscript o i pos) X.env v = (do
      let ov ← holding [v] (eval o X.env)
      let iv ← holding [v, ov] (eval i X.env)
      standAt pos
      holding [v, ov, iv] (setItem ov iv v)
      release [v, ov, iv] []) := by intro _; rfl) : DG X (.Subscript o i pos) (tSub f g) :=
  PG.imp (pg_sub ho hi set_list ha) fun v σ H Q ⟨ι, ρ, S, d, ρ', S', hE, hS, r, e, h⟩ => by
    unfold tSub at e
    cases hf : f ρ S with
    | ok o S1 =>
      simp only [hf] at e
      refine ⟨ι, ρ, S, hE, hS, ?_⟩
      rw [hf]
      intro ι1 H1 G1 s1 x rx
      cases hg : g ρ S1 with
      | ok i S2 =>
        simp only [hg] at e
        refine ⟨ι1, ρ, S1, hE.grow G1, s1, ?_⟩
        rw [hg]
        intro ι2 H2 G2 s2 y ry
        have rx := RepV.grow G2 _ _ rx
        have rv := RepV.grow G2 _ _ (RepV.grow G1 _ _ r)
        have e : (dSet o i d S2).map (fun S3 => (ρ, S3)) = some (ρ', S') := e
        cases hd : dSet o i d S2 with
        | none => rw [hd] at e; cases e
        | some S3 =>
          rw [hd] at e
          cases e
          obtain ⟨n, k, ds, j, rfl, rfl, hL, hj, rfl⟩ := dSet_some hd
          rw [RepV] at rx
          obtain ⟨a, ea, rfl⟩ := rx
          obtain ⟨vs, h1, h3⟩ := s2.ob _ _ _ ea (getL_some hL)
          refine ⟨a, vs, k, j, rfl, int_at ry, h1, by rw [← RepL.length _ _ h3]; exact hj, ?_⟩
          have G3 : Grow ι2 H2 ι2 (upd H2 a (.lst (vs.set j v))) := Grow.put (List.mem_of_getElem? ea) h1 (fun _ _ z => by cases z)
          exact h ι2 _ σ ((G1.trans G2).trans G3) (s2.put ea h1 (fun _ _ z => by cases z) ⟨_, upd_same, RepL.set (RepV.grow G3 _ _ rv) _ _ _ (RepL.grow G3 _ _ h3)⟩) (((hE.grow G1).grow G2).grow G3)
      | er e1 S2 => simp only [hg] at e; cases e
      | stuck => simp only [hg] at e; cases e
    | er e1 S1 => simp only [hf] at e; cases e
    | stuck => simp only [hf] at e; cases e
def sAsg (f : Ev → Sto → R D) (T : Tg) : Ev → Sto → SR := fun ρ S => (f ρ S).toS ρ fun d S1 => match T d ρ S1 with
  | some (ρ', S') => .nx ρ' S'
  | none => .stuck
theorem asg_read {K : PySem.W.Frag} {f : Ev → Sto → R D} {T : Tg} : ∀ E σ H, rdS K W (sAsg f T) E σ H → tAsg (rdE K W f) (rdG K T) E σ H := fun E σ H ⟨ι, ρ, S, hE, hS, h⟩ => by
  refine ⟨ι, ρ, S, hE, hS, (PostS.bind h hE).mono fun d S1 ι1 H1 G1 s1 h1 v rv => ?_⟩
  cases hT : T d ρ S1 with
  | none => simp only [hT] at h1; exact h1.elim
  | some q =>
    obtain ⟨ρ1, S2⟩ := q
    simp only [hT] at h1
    exact ⟨ι1, ρ, S1, d, ρ1, S2, hE.grow G1, s1, rv, hT, fun ι2 H2 σ2 G2 s2 e2 => h1 ι2 H2 σ2 G2 s2 e2⟩
theorem ds_asg {tg : Expr} {f : Ev → Sto → R D} {T : Tg} (he : DE X W e f) (hg : DG X tg T) (hs : swapsWithSole [tg] e pos.line X.env = pure false := by rfl) (hw : swappedStores [tg] e X.env = pure none := by rfl)
    (h1 : (assignEach [tg] X.env).map (·.2) = [assign tg X.env] := by rfl) : DS X W (.Assign [tg] e pos) (sAsg f T) := PS.imp (ps_asg he hg hs hw h1) asg_read
/-- name = e -/
def sSet (i : Nat) (f : Ev → Sto → R D) : Ev → Sto → SR := fun ρ S => (f ρ S).toS ρ fun d S1 => .nx (ρ.set i (some d)) S1
theorem set_read {K : PySem.W.Frag} {f : Ev → Sto → R D} {i : Nat} : ∀ E σ H, rdS K W (sSet i f) E σ H → tAsg (rdE K W f) (gName i) E σ H := fun E σ H ⟨ι, ρ, S, hE, hS, h⟩ => by
  refine ⟨ι, ρ, S, hE, hS, (PostS.bind h hE).mono fun d S1 ι1 H1 G1 s1 h1 v rv => ?_⟩
  exact h1 ι1 H1 _ (Grow.refl _ _) s1 ((hE.grow G1).set rv i)
theorem ds_set (i : Nat) {x : Str} {pos' : Pos} {f : Ev → Sto → R D} (hN : X.N.Nodup) (he : DE X W e f) (hi : X.N[i]? = some x := by rfl) (hx : Loc X.env.scope x := by first | exact .inl rfl | exact .inr rfl)
    (hs : swapsWith e (some (.Name x pos')) pos.line X.env = pure false := by rfl) (hf : X.fn x = true ∨ X.env.scope.names.lookup x = some .local := by first | exact .inl rfl | exact .inr rfl | assumption) :
    DS X W (.Assign [.Name x pos'] e pos) (sSet i f) := PS.imp (ps_set hN hi hx he hs hf) set_read
/-- name op= e -/
def sAug (i : Nat) (o : D → D → Sto → R D) (f : Ev → Sto → R D) : Ev → Sto → SR := fun ρ S => match ρ[i]? with
  | some (some x) => ((f ρ S).bind fun d S1 => o x d S1).toS ρ fun z S2 => .nx (ρ.set i (some z)) S2
  | _ => .stuck
theorem ds_aug (i : Nat) {x : Str} {op : Operator} {r : TIp} {o : D → D → Sto → R D} {pos' : Pos} {f : Ev → Sto → R D} (hN : X.N.Nodup) (he : DE X W e f) (ho : PIp X op r) (k : OpK X.K r o) (hi : X.N[i]? = some x := by rfl) (hx : Loc X.env.scope x := by first | exact .inl rfl | exact .inr rfl)
    (hf : X.fn x = true ∨ X.env.scope.names.lookup x = some .local := by first | exact .inl rfl | exact .inr rfl | assumption) : DS X W (.AugAssign (.Name x pos') op e pos) (sAug i o f) := by
  refine PS.imp (ps_aug hN hi hx he ho hf) fun E σ H ⟨ι, ρ, S, hE, hS, h⟩ => ?_
  unfold sAug at h
  split at h
  · rename_i d hd
    obtain ⟨v, hv, rv⟩ := hE.get hd
    refine ⟨v, hv, ι, ρ, S, hE, hS, ((PostS.bind h hE).bind).mono fun b S1 ι1 H1 G1 s1 h1 y ry => ?_⟩
    refine k W σ ι1 H1 S1 v y d b _ s1 (RepV.grow G1 _ _ rv) ry (h1.mono fun z S2 ι2 H2 G2 s2 h2 u ru => ?_)
    exact h2 ι2 H2 _ (Grow.refl _ _) s2 (((hE.grow G1).grow G2).set ru i)
  · exact h.elim
theorem k_ipadd {K : PySem.W.Frag} : OpK K (ipI fun i j => i + j) dAddI := by
  intro W σ ι H S x y a b Q s rx ry h
  unfold dAddI dCmpI at h
  split at h
  · rename_i i j
    exact ⟨i, j, int_at rx, int_at ry, h.here s _ int_rep⟩
  · exact h.elim
/-- a, b = x, y and a, b, c = x, y, z with plain locals -/
def sPar2 (i j : Nat) (g : Ev → Sto → R (List D)) : Ev → Sto → SR := fun ρ S => (g ρ S).toS ρ fun ds S1 => match ds with
  | [a, b] => .nx ((ρ.set i (some a)).set j (some b)) S1
  | _ => .stuck
theorem ds_par2 (i j : Nat) {x y : Str} {a b : Expr} {g : Ev → Sto → R (List D)} {px py pt : Pos} {kt k2 pt2} (hc : X.calm = true) (hN : X.N.Nodup) (ha : DA X W [a, b] g) (hij : i ≠ j := by decide) (hi : X.N[i]? = some x := by rfl) (hj : X.N[j]? = some y := by rfl)
    (hx : X.env.scope.names.lookup x = some .local := by rfl) (hy : X.env.scope.names.lookup y = some .local := by rfl)
    (hw : swappedStores [.Tuple [.Name x px, .Name y py] kt pt] (.Tuple [a, b] k2 pt2) X.env = pure (some [x, y]) := by rfl)
    (hs : swapsWithSole [.Tuple [.Name x px, .Name y py] kt pt] (.Tuple [a, b] k2 pt2) pos.line X.env = pure false := by rfl) :
    DS X W (.Assign [.Tuple [.Name x px, .Name y py] kt pt] (.Tuple [a, b] k2 pt2) pos) (sPar2 i j g) := by
  refine PS.imp (ps_par hc hN hi hj hij hx hy ha hw hs) fun E σ H ⟨ι, ρ, S, hE, hS, h⟩ => ⟨ι, ρ, S, hE, hS, (PostS.bind h hE).mono fun ds S1 ι1 H1 G1 s1 h1 vs rs => ?_⟩
  split at h1
  · rw [RepL] at rs
    obtain ⟨v, r, rfl, rv, rs⟩ := rs
    rw [RepL] at rs
    obtain ⟨u, r, rfl, ru, rs⟩ := rs
    rw [RepL] at rs
    subst rs
    exact ⟨v, u, rfl, h1 ι1 H1 _ (Grow.refl _ _) s1 (((hE.grow G1).set rv i).set ru j)⟩
  · exact h1.elim
end
end DL
namespace DL
open PySem PySem.Spec L2
open PyProof.Rows hiding St
abbrev Src := List D × (Sto → Prop)
def ItOk (K : PySem.W.Frag) (J : It) (ι : List Addr) (H : Hp) (q : Src) : Prop := ∀ ι1 H1 S1, Grow ι H ι1 H1 → Sim K ι1 H1 S1 → q.2 S1 →
  (∀ i, q.1.length ≤ i → J.stop i H1) ∧ ∀ i d, q.1[i]? = some d → J.go i H1 ∧ ∀ x H2, J.yld i H1 x H2 → Grow ι1 H1 ι1 H2 ∧ Sim K ι1 H2 S1 ∧ RepV K ι1 H2 d x
def rdI (K : PySem.W.Frag) (W : WX) (f : Ev → Sto → R Src) : TI := fun σ H Rr => ∃ ι ρ S, RepE K ι H σ ρ ∧ Sim K ι H S ∧ Post K W σ ι H (f ρ S) fun q _ ι' H' => ∀ J, ItOk K J ι' H' q → Rr J H'
abbrev DI (X : Cx) (W : WX) (tg iter : Expr) (f : Ev → Sto → R Src) : Prop := PI X tg iter (rdI X.K W f)
theorem PI.imp {X : Cx} {tg e : Expr} {t u : TI} (h : PI X tg e t) (i : ∀ σ H Q, u σ H Q → t σ H Q) : PI X tg e u := ⟨fun pins s σ H Q I q => h.run pins s σ H Q I (i σ H Q q)⟩
theorem PI.or {X : Cx} {tg e : Expr} {t u : TI} (h : PI X tg e t) (h' : PI X tg e u) : PI X tg e (fun σ H Q => t σ H Q ∨ u σ H Q) := ⟨fun pins s σ H Q I q => by
  rcases q with q | q
  · exact h.run pins s σ H Q I q
  · exact h'.run pins s σ H Q I q⟩
def yes : Sto → Prop := fun _ => True
def srcOf (d : D) (S : Sto) : R Src := match d with
  | .tup ds => .ok (ds, yes) S
  | .fl ds => .ok (ds, yes) S
  | .kl ds => .ok (ds, yes) S
  | .loc n => (match getQ S n with
    | some ds => .ok (ds, fun S => getQ S n = some ds) S
    | none => .stuck)
  | _ => .stuck
def iSeq (f : Ev → Sto → R D) : Ev → Sto → R Src := fun ρ S => (f ρ S).bind srcOf
theorem itl_ok {K : PySem.W.Frag} {ι : List Addr} {H : Hp} {ds : List D} {a : Addr} {g : Sto → Prop} (h : ∀ ι1 H1 S1, Grow ι H ι1 H1 → Sim K ι1 H1 S1 → g S1 → ∃ vs, SqL K H1 a vs ∧ RepL K ι1 H1 ds vs) : ItOk K (Itl K a) ι H (ds, g) := fun ι1 H1 S1 G s gs => by
  obtain ⟨vs, q, r⟩ := h ι1 H1 S1 G s gs
  refine ⟨fun i hi => ⟨vs, q, by rw [← RepL.length _ _ r]; exact hi⟩, fun i d e => ?_⟩
  obtain ⟨v, hv, rv⟩ := RepL.get _ _ r i d e
  refine ⟨⟨vs, v, q, hv⟩, fun x H2 y => ?_⟩
  obtain ⟨rfl, y⟩ := y
  have := y vs q
  rw [hv] at this; cases this
  exact ⟨Grow.refl _ _, s, rv⟩
theorem itt_ok {K : PySem.W.Frag} {ι : List Addr} {H : Hp} {ds : List D} {a : Addr} {g : Sto → Prop} (h : ∀ ι1 H1 S1, Grow ι H ι1 H1 → Sim K ι1 H1 S1 → g S1 → ∃ vs, SqT K H1 a vs ∧ RepL K ι1 H1 ds vs) : ItOk K (Itt K a) ι H (ds, g) := fun ι1 H1 S1 G s gs => by
  obtain ⟨vs, q, r⟩ := h ι1 H1 S1 G s gs
  refine ⟨fun i hi => ⟨vs, q, by rw [← RepL.length _ _ r]; exact hi⟩, fun i d e => ?_⟩
  obtain ⟨v, hv, rv⟩ := RepL.get _ _ r i d e
  refine ⟨⟨vs, v, q, hv⟩, fun x H2 y => ?_⟩
  obtain ⟨rfl, y⟩ := y
  have := y vs q
  rw [hv] at this; cases this
  exact ⟨Grow.refl _ _, s, rv⟩
theorem loc_at {K : PySem.W.Frag} {ι : List Addr} {H : Hp} {S : Sto} {n : Nat} {a : Addr} {ds : List D} (s : Sim K ι H S) (ea : ι[n]? = some a) (e : getQ S n = some ds) : ∃ vs, SqL K H a vs ∧ RepL K ι H ds vs := by
  unfold getQ at e
  (try unfold ifp at e); split at e
  · rename_i q; cases e
    obtain ⟨vs, h1, h2⟩ := s.ob _ _ _ ea q
    exact ⟨vs, SqL.of h1, h2⟩
  · rename_i q; cases e
    obtain ⟨o, vs, h1, h2⟩ := s.ob _ _ _ ea q
    exact ⟨vs, .inl (.inr ⟨o, h1⟩), h2⟩
  · cases e
/-- what a list or tuple that is walked gives, whatever turns behind it -/
theorem src_stands {K : PySem.W.Frag} {ι : List Addr} {H : Hp} {S : Sto} {d : D} {q : Src} {S' : Sto} {v : V} (e : srcOf d S = .ok q S') (s : Sim K ι H S) (r : RepV K ι H d v) : S' = S ∧ ∃ a, v = .ref a ∧
    ((∀ ι1 H1 S1, Grow ι H ι1 H1 → Sim K ι1 H1 S1 → q.2 S1 → ∃ vs, SqT K H1 a vs ∧ RepL K ι1 H1 q.1 vs) ∨ (∀ ι1 H1 S1, Grow ι H ι1 H1 → Sim K ι1 H1 S1 → q.2 S1 → ∃ vs, SqL K H1 a vs ∧ RepL K ι1 H1 q.1 vs)) ∧ q.2 S := by
  cases d with
  | tup ds =>
    cases e
    rw [RepV] at r
    obtain ⟨a, vs, rfl, t, rl⟩ := r
    exact ⟨rfl, a, rfl, .inl fun ι1 H1 S1 G s1 _ => ⟨vs, (t.grow G).sq, RepL.grow G _ _ rl⟩, True.intro⟩
  | fl ds =>
    cases e
    rw [RepV] at r
    obtain ⟨a, vs, rfl, t, rl⟩ := r
    exact ⟨rfl, a, rfl, .inr fun ι1 H1 S1 G s1 _ => ⟨vs, (t.grow G).sq, RepL.grow G _ _ rl⟩, True.intro⟩
  | kl ds =>
    cases e
    rw [RepV] at r
    obtain ⟨a, vs, rfl, t, rl⟩ := r
    exact ⟨rfl, a, rfl, .inr fun ι1 H1 S1 G s1 _ => ⟨vs, (t.grow G).sq, RepL.grow G _ _ rl⟩, True.intro⟩
  | loc n =>
    have e : (match getQ S n with
      | some ds => R.ok (ds, fun S => getQ S n = some ds) S
      | none => .stuck) = .ok q S' := e
    cases hq : getQ S n with
    | none => rw [hq] at e; cases e
    | some ds =>
      rw [hq] at e
      cases e
      rw [RepV] at r
      obtain ⟨a, ea, rfl⟩ := r
      refine ⟨rfl, a, rfl, .inr fun ι1 H1 S1 G s1 g1 => ?_, hq⟩
      exact loc_at s1 (getElem?_pre G.pre ea) g1
  | _ => cases e
section
variable {X : Cx} {W : WX} {pos : Pos} {e tg : Expr}
theorem di_seq {f : Ev → Sto → R D} (h : DE X W e f) : DI X W tg e (iSeq f) := by
  refine PI.imp (PI.or (pi_tup h) (pi_list h)) fun σ H Rr ⟨ι, ρ, S, hE, hS, q⟩ => ?_
  unfold iSeq at q
  cases hf : f ρ S with
  | stuck => rw [hf] at q; exact q.elim
  | er x S1 =>
    rw [hf] at q
    refine .inl ⟨ι, ρ, S, hE, hS, ?_⟩
    rw [hf]; exact q
  | ok d S1 =>
    rw [hf] at q
    replace q : Post X.K W σ ι H (srcOf d S1) fun q _ ι' H' => ∀ J, ItOk X.K J ι' H' q → Rr J H' := q
    cases hs : srcOf d S1 with
    | stuck => rw [hs] at q; exact q.elim
    | er x S2 => exfalso; unfold srcOf at hs; split at hs <;> first | cases hs | (split at hs <;> cases hs)
    | ok c S2 =>
      rw [hs] at q
      have kind : (∃ ds, d = .tup ds) ∨ (∃ ds, d = .fl ds ∨ d = .kl ds) ∨ ∃ n, d = .loc n := by
        cases d with
        | tup ds => exact .inl ⟨ds, rfl⟩
        | fl ds => exact .inr (.inl ⟨ds, .inl rfl⟩)
        | kl ds => exact .inr (.inl ⟨ds, .inr rfl⟩)
        | loc n => exact .inr (.inr ⟨n, rfl⟩)
        | _ => cases hs
      rcases kind with ⟨ds, rfl⟩ | kind
      · refine .inl ⟨ι, ρ, S, hE, hS, ?_⟩
        rw [hf]
        intro ι1 H1 G1 s1 v rv
        obtain ⟨rfl, a, rfl, st, g0⟩ := src_stands hs s1 rv
        rw [RepV] at rv
        obtain ⟨b, vs, eb, t, rl⟩ := rv
        cases eb
        cases hs
        exact ⟨a, rfl, ⟨vs, t.sq⟩, q ι1 H1 G1 s1 _ (itt_ok fun ι2 H2 S2 G s2 _ => ⟨vs, (t.grow G).sq, RepL.grow G _ _ rl⟩)⟩
      · refine .inr ⟨ι, ρ, S, hE, hS, ?_⟩
        rw [hf]
        intro ι1 H1 G1 s1 v rv
        rcases kind with ⟨ds, rfl | rfl⟩ | ⟨n, rfl⟩
        · rw [RepV] at rv
          obtain ⟨b, vs, rfl, t, rl⟩ := rv
          cases hs
          exact ⟨b, rfl, ⟨vs, t.sq⟩, q ι1 H1 G1 s1 _ (itl_ok fun ι2 H2 S2 G s2 _ => ⟨vs, (t.grow G).sq, RepL.grow G _ _ rl⟩)⟩
        · rw [RepV] at rv
          obtain ⟨b, vs, rfl, t, rl⟩ := rv
          cases hs
          exact ⟨b, rfl, ⟨vs, t.sq⟩, q ι1 H1 G1 s1 _ (itl_ok fun ι2 H2 S2 G s2 _ => ⟨vs, (t.grow G).sq, RepL.grow G _ _ rl⟩)⟩
        · rw [RepV] at rv
          obtain ⟨b, eb, rfl⟩ := rv
          have hs' : (match getQ S1 n with
            | some ds => R.ok (ds, fun S => getQ S n = some ds) S1
            | none => .stuck) = .ok c S2 := hs
          cases hq : getQ S1 n with
          | none => rw [hq] at hs'; cases hs'
          | some ds =>
            rw [hq] at hs'
            cases hs'
            obtain ⟨vs, z, _⟩ := loc_at s1 eb hq
            exact ⟨b, rfl, ⟨vs, z⟩, q ι1 H1 G1 s1 _ (itl_ok fun ι2 H2 S2 G s2 g2 => loc_at s2 (getElem?_pre G.pre eb) g2)⟩
def rangeD (lo : Int) (n : Nat) : List D := (List.range n).map fun k => .int (lo + (k : Nat))
theorem rangeD_get {lo : Int} {n i : Nat} {d : D} (h : (rangeD lo n)[i]? = some d) : i < n ∧ d = .int (lo + (i : Nat)) := by
  unfold rangeD at h
  rw [List.getElem?_map] at h
  cases e : (List.range n)[i]? with
  | none => rw [e] at h; cases h
  | some k =>
    rw [e] at h; cases h
    have := List.getElem?_eq_some_iff.mp e
    obtain ⟨h1, h2⟩ := this
    simp at h1 h2
    subst h2
    exact ⟨h1, rfl⟩
theorem rangeD_len (lo : Int) (n : Nat) : (rangeD lo n).length = n := by simp [rangeD]
theorem itr_ok {K : PySem.W.Frag} {ι : List Addr} {H : Hp} {lo : Int} {n : Nat} {g : Sto → Prop} : ItOk K (Itr lo n) ι H (rangeD lo n, g) := fun ι1 H1 S1 G s gs => by
  refine ⟨fun i hi => by rw [rangeD_len] at hi; exact hi, fun i d e => ?_⟩
  obtain ⟨hi, rfl⟩ := rangeD_get e
  refine ⟨hi, fun x H2 y => ?_⟩
  obtain ⟨rfl, rfl⟩ := y
  exact ⟨Grow.refl _ _, s, int_rep⟩
noncomputable def iRange1 (g : Ev → Sto → R (List D)) : Ev → Sto → R Src := fun ρ S => (g ρ S).bind fun ds S1 => match ds with
  | [.int j] => ifp (-(2 ^ 62) ≤ j ∧ j < 2 ^ 62) (.ok (rangeD 0 j.toNat, yes) S1) .stuck
  | _ => .stuck
noncomputable def iRange2 (g : Ev → Sto → R (List D)) : Ev → Sto → R Src := fun ρ S => (g ρ S).bind fun ds S1 => match ds with
  | [.int i, .int j] => ifp (-(2 ^ 62) ≤ i ∧ i < 2 ^ 62 ∧ -(2 ^ 62) ≤ j ∧ j < 2 ^ 62) (.ok (rangeD i (j - i).toNat, yes) S1) .stuck
  | _ => .stuck
theorem RepL.one_inv {K : PySem.W.Frag} {ι : List Addr} {H : Hp} {d : D} {vs : List V} (h : RepL K ι H [d] vs) : ∃ v, vs = [v] ∧ RepV K ι H d v := by
  rw [RepL] at h
  obtain ⟨v, r, rfl, rv, rs⟩ := h
  rw [RepL] at rs
  subst rs
  exact ⟨v, rfl, rv⟩
theorem RepL.two_inv {K : PySem.W.Frag} {ι : List Addr} {H : Hp} {d e : D} {vs : List V} (h : RepL K ι H [d, e] vs) : ∃ v u, vs = [v, u] ∧ RepV K ι H d v ∧ RepV K ι H e u := by
  rw [RepL] at h
  obtain ⟨v, r, rfl, rv, rs⟩ := h
  obtain ⟨u, rfl, ru⟩ := RepL.one_inv rs
  exact ⟨v, u, rfl, rv, ru⟩
theorem di_range1 {a : Expr} {g : Ev → Sto → R (List D)} {p pos : Pos} (hg : Gl X "range") (hm : X.mg "range" = none) (ha : DA X W [a] g) (hs : starEach [a] X.env = [(false, eval a X.env)] := by rfl) : DI X W tg (.Call (.Name "range" p) [a] [] pos) (iRange1 g) := by
  refine PI.imp (pi_range1 hg hm ha hs) fun σ H Rr ⟨ι, ρ, S, hE, hS, q⟩ => ⟨ι, ρ, S, hE, hS, (Post.bind q).mono fun ds S1 ι1 H1 G1 s1 h1 vs rs => ?_⟩
  (try unfold ifp at h1); split at h1
  · obtain ⟨v, rfl, rv⟩ := RepL.one_inv rs
    (try unfold ifp at h1); split at h1
    · rename_i hj
      exact ⟨_, by rw [int_at rv], hj.1, hj.2, h1.here s1 _ itr_ok⟩
    · exact h1.elim
  · exact h1.elim
open Classical in
noncomputable def forD (g : Sto → Prop) (T : Tg) (B Z : Ev → Sto → SR) : List D → Ev → Sto → SR
  | [], ρ, S => if g S then Z ρ S else .stuck
  | d :: ds, ρ, S => if g S then (match T d ρ S with
    | none => .stuck
    | some (ρ1, S1) => match B ρ1 S1 with
      | .nx ρ2 S2 => forD g T B Z ds ρ2 S2
      | .ct ρ2 S2 => forD g T B Z ds ρ2 S2
      | .bk ρ2 S2 => .nx ρ2 S2
      | .rt d S2 => .rt d S2
      | .er e ρ2 S2 => .er e ρ2 S2
      | .stuck => .stuck) else .stuck
noncomputable def sFor (f : Ev → Sto → R Src) (T : Tg) (B Z : Ev → Sto → SR) : Ev → Sto → SR := fun ρ S => (f ρ S).toS ρ fun q S1 => forD q.2 T B Z q.1 ρ S1
theorem for_read {K : PySem.W.Frag} {f : Ev → Sto → R Src} {T : Tg} {B Z : Ev → Sto → SR} : ∀ E σ H, rdS K W (sFor f T B Z) E σ H → tForE (rdI K W f) (rdG K T) (rdS K W B) (rdS K W Z) E σ H := fun E σ H ⟨ι, ρ, S, hE, hS, h⟩ => by
  refine ⟨ι, ρ, S, hE, hS, (PostS.bind h hE).mono fun q S1 ι1 H1 G1 s1 h1 J hJ => ?_⟩
  obtain ⟨ds, g⟩ := q
  refine ⟨fun i m σ' H' => m = ds.length - i ∧ i ≤ ds.length ∧ ∃ ι' ρ' S', Grow ι1 H1 ι' H' ∧ RepE K ι' H' σ' ρ' ∧ Sim K ι' H' S' ∧ PostS K W E ι' H' (forD g T B Z (ds.drop i) ρ' S'), ⟨_, rfl, Nat.zero_le _, ι1, ρ, S1, Grow.refl _ _, hE.grow G1, s1, h1⟩, ?_⟩
  rintro i m σ' H' ⟨rfl, hi, ι', ρ', S', G', e', s', h'⟩
  by_cases hlt : i < ds.length
  · rw [List.drop_eq_getElem_cons hlt] at h'
    unfold forD at h'
    (try unfold ifp at h'); split at h'
    · rename_i hg
      obtain ⟨-, item⟩ := hJ ι' H' S' G' s' hg
      obtain ⟨go, yl⟩ := item i ds[i] (List.getElem?_eq_some_iff.mpr ⟨hlt, rfl⟩)
      refine .inr ⟨go, fun σ2 H2 => ∃ ι2 ρ2 S2, Grow ι1 H1 ι2 H2 ∧ RepE K ι2 H2 σ2 ρ2 ∧ Sim K ι2 H2 S2 ∧ PostS K W E ι2 H2 (forD g T B Z (ds.drop (i + 1)) ρ2 S2), fun σ2 H2 hh => ⟨ds.length - (i + 1), by omega, rfl, hlt, hh⟩, fun x H2 y => ?_⟩
      obtain ⟨G2, s2, rx⟩ := yl x H2 y
      cases hT : T ds[i] ρ' S' with
      | none => simp only [hT] at h'; exact h'.elim
      | some q =>
        obtain ⟨ρ1, S2⟩ := q
        simp only [hT] at h'
        refine ⟨ι', ρ', S', ds[i], ρ1, S2, e'.grow G2, s2, rx, hT, fun ι3 H3 σ3 G3 s3 e3 => ⟨ι3, ρ1, S2, e3, s3, ?_⟩⟩
        have G13 := (G'.trans G2).trans G3
        have h3 := PostS.grow h' (G2.trans G3)
        cases hB : B ρ1 S2 with
        | nx ρ2 S3 => simp only [hB] at h3; exact fun ι4 H4 σ4 G4 s4 e4 => ⟨ι4, ρ2, S3, G13.trans G4, e4, s4, PostS.grow h3 G4⟩
        | ct ρ2 S3 => simp only [hB] at h3; exact fun ι4 H4 σ4 G4 s4 e4 => ⟨ι4, ρ2, S3, G13.trans G4, e4, s4, PostS.grow h3 G4⟩
        | bk ρ2 S3 => simp only [hB] at h3; exact h3
        | rt d S3 => simp only [hB] at h3; exact h3
        | er x ρ2 S3 => simp only [hB] at h3; exact h3
        | stuck => simp only [hB] at h3; exact h3
    · exact h'.elim
  · have e : i = ds.length := by omega
    subst e
    rw [List.drop_length] at h'
    unfold forD at h'
    (try unfold ifp at h'); split at h'
    · rename_i hg
      obtain ⟨stop, -⟩ := hJ ι' H' S' G' s' hg
      exact .inl ⟨stop _ (Nat.le_refl _), ι', ρ', S', e', s', h'⟩
    · exact h'.elim
theorem ds_for {iter : Expr} {body orelse : List Stmt} {f : Ev → Sto → R Src} {T : Tg} {B Z : Ev → Sto → SR} (hp : PassesOwn (model X.prog X.w) X.A X.env X.xe) (hc : X.calm = true) (hi : DI X W tg iter f) (hg : DG X tg T) (hb : DSs X W body B) (ho : DSs X W orelse Z)
    (hs : ∀ x, foldedSetIterable iter X.env x = pure x := by intro _; rfl) : DS X W (.For tg iter body orelse pos) (sFor f T B Z) := PS.imp (ps_forE hp hc hi hg hb ho hs) for_read
def whileD (c : Ev → Sto → R Bool) (B : Ev → Sto → SR) : Nat → Ev → Sto → SR
  | 0, _, _ => .stuck
  | n + 1, ρ, S => (c ρ S).toS ρ fun b S1 => if b = true then (match B ρ S1 with
      | .nx ρ2 S2 => whileD c B n ρ2 S2
      | .ct ρ2 S2 => whileD c B n ρ2 S2
      | .bk ρ2 S2 => .nx ρ2 S2
      | .rt d S2 => .rt d S2
      | .er e ρ2 S2 => .er e ρ2 S2
      | .stuck => .stuck) else .nx ρ S1
theorem ds_while (n : Nat) {c : Expr} {body : List Stmt} {t : Ev → Sto → R Bool} {B : Ev → Sto → SR} (hp : PassesOwn (model X.prog X.w) X.A X.env X.xe) (hc : DT X W c t) (hb : DSs X W body B) : DS X W (.While c body [] pos) (whileD t B n) := by
  refine PS.imp (ps_while hp hc hb) fun E σ H ⟨ι, ρ, S, hE, hS, h⟩ => ?_
  refine ⟨fun m σ' H' => ∃ ι' ρ' S', RepE X.K ι' H' σ' ρ' ∧ Sim X.K ι' H' S' ∧ PostS X.K W E ι' H' (whileD t B m ρ' S'), ⟨n, ι, ρ, S, hE, hS, h⟩, ?_⟩
  rintro m σ' H' ⟨ι', ρ', S', e', s', h'⟩
  cases m with
  | zero => exact h'.elim
  | succ m =>
    refine ⟨ι', ρ', S', e', s', (PostS.bind h' e').mono fun b S1 ι1 H1 G1 s1 h1 => ?_⟩
    cases b with
    | false => rw [if_neg (by decide)] at h1 ⊢; exact h1 ι1 H1 σ' (Grow.refl _ _) s1 (e'.grow G1)
    | true =>
      rw [if_pos rfl] at h1 ⊢
      refine ⟨fun σ2 H2 => ∃ ι2 ρ2 S2, RepE X.K ι2 H2 σ2 ρ2 ∧ Sim X.K ι2 H2 S2 ∧ PostS X.K W E ι2 H2 (whileD t B m ρ2 S2), fun σ2 H2 hh => ⟨m, Nat.lt_succ_self _, hh⟩, ι1, ρ', S1, e'.grow G1, s1, ?_⟩
      cases hB : B ρ' S1 with
      | nx ρ2 S3 => simp only [hB] at h1; exact fun ι4 H4 σ4 G4 s4 e4 => ⟨ι4, ρ2, S3, e4, s4, PostS.grow h1 G4⟩
      | ct ρ2 S3 => simp only [hB] at h1; exact fun ι4 H4 σ4 G4 s4 e4 => ⟨ι4, ρ2, S3, e4, s4, PostS.grow h1 G4⟩
      | bk ρ2 S3 => simp only [hB] at h1; exact h1
      | rt d S3 => simp only [hB] at h1; exact h1
      | er x ρ2 S3 => simp only [hB] at h1; exact h1
      | stuck => simp only [hB] at h1; exact h1
end
end DL
namespace DL
open PySem PySem.Spec L2
open PyProof.Rows hiding St
mutual
def low (n : Nat) : D → Bool
  | .loc m => decide (m < n)
  | .tup ds => lowL n ds
  | .fl ds => lowL n ds
  | .kl ds => lowL n ds
  | .ktp ds => lowL n ds
  | .ztp ds => lowL n ds
  | .fd kvs => lowK n kvs
  | .exc _ fs => lowF n fs
  | .non => true
  | .bl _ => true
  | .int _ => true
  | .str _ => true
  | .ty _ => true
  | .fn _ => true
def lowL (n : Nat) : List D → Bool
  | [] => true
  | d :: ds => low n d && lowL n ds
def lowK (n : Nat) : List (Key × D) → Bool
  | [] => true
  | (_, d) :: ds => low n d && lowK n ds
def lowF (n : Nat) : List (Str × D) → Bool
  | [] => true
  | (_, d) :: ds => low n d && lowF n ds
end
def lowKT (n : Nat) : List (List Key × D) → Bool
  | [] => true
  | (_, d) :: ds => low n d && lowKT n ds
def lowO (n : Nat) : Ob → Bool
  | .lst ds => lowL n ds
  | .ins _ fs => lowF n fs
  | .dct kvs => lowK n kvs
  | .dtt kvs => lowK n kvs
  | .scr ds => lowL n ds
  | .tpl ds => lowL n ds
  | .dkt kvs => lowKT n kvs
  | .dkl kvs => lowKT n kvs
  | .tab _ _ => true
  | .clo _ _ ds => lowL n ds
  | .ded => true
section
variable {K : PySem.W.Frag} {ι : List Addr} {H : Hp}
theorem take_out {a : Addr} {n : Nat} (h : a ∉ ι) : a ∉ ι.take n := fun z => h (List.mem_of_mem_take z)
mutual
theorem RepV.low (n : Nat) : ∀ (d : D) (v : V), RepV K ι H d v → DL.low n d = true → RepV K (ι.take n) H d v
  | .non, _, h, _ => by rw [RepV] at h ⊢; exact h
  | .bl _, _, h, _ => by rw [RepV] at h ⊢; exact h
  | .int _, _, h, _ => by rw [RepV] at h ⊢; exact h
  | .str _, _, h, _ => by rw [RepV] at h ⊢; exact h
  | .ty _, _, h, _ => by rw [RepV] at h ⊢; exact h
  | .fn _, _, h, _ => by rw [RepV] at h ⊢; exact h
  | .loc m, _, h, l => by
    rw [RepV] at h ⊢
    obtain ⟨a, e, r⟩ := h
    have l : m < n := by simpa [DL.low] using l
    exact ⟨a, by rw [List.getElem?_take_of_lt l]; exact e, r⟩
  | .tup ds, _, h, l => by
    rw [RepV] at h ⊢
    obtain ⟨a, vs, e, t, r⟩ := h
    refine ⟨a, vs, e, ?_, RepL.low n ds vs r (by simpa [DL.low] using l)⟩
    rcases t with ⟨t1, t2⟩ | t
    · exact .inl ⟨take_out t1, t2⟩
    · exact .inr t
  | .fl ds, _, h, l => by
    rw [RepV] at h ⊢
    obtain ⟨a, vs, e, t, r⟩ := h
    exact ⟨a, vs, e, ⟨take_out t.1, t.2⟩, RepL.low n ds vs r (by simpa [DL.low] using l)⟩
  | .kl ds, _, h, l => by
    rw [RepV] at h ⊢
    obtain ⟨a, vs, e, t, r⟩ := h
    refine ⟨a, vs, e, ?_, RepL.low n ds vs r (by simpa [DL.low] using l)⟩
    rcases t with ⟨t1, t2⟩ | t
    · exact .inl ⟨take_out t1, t2⟩
    · exact .inr t
  | .ktp ds, _, h, l => by
    rw [RepV] at h ⊢
    obtain ⟨a, vs, e, t, r⟩ := h
    exact ⟨a, vs, e, ⟨take_out t.1, t.2⟩, RepL.low n ds vs r (by simpa [DL.low] using l)⟩
  | .ztp ds, _, h, l => by
    rw [RepV] at h ⊢
    obtain ⟨a, vs, e, t, r⟩ := h
    exact ⟨a, vs, e, t, RepL.low n ds vs r (by simpa [DL.low] using l)⟩
  | .fd kvs, _, h, l => by
    rw [RepV] at h ⊢
    obtain ⟨a, vs, e, m, t, r⟩ := h
    exact ⟨a, vs, e, take_out m, t, RepK.low n kvs vs r (by simpa [DL.low] using l)⟩
  | .exc c fs, _, h, l => by
    rw [RepV] at h ⊢
    obtain ⟨a, cls, dd, e, m, t, rc, r⟩ := h
    refine ⟨a, cls, dd, e, take_out m, t, rc, ?_⟩
    rcases r with r | ⟨d, vs, e1, e2, e3, e4⟩
    · exact .inl r
    · exact .inr ⟨d, vs, e1, take_out e2, e3, RepF.low n fs vs e4 (by simpa [DL.low] using l)⟩
theorem RepL.low (n : Nat) : ∀ (ds : List D) (vs : List V), RepL K ι H ds vs → DL.lowL n ds = true → RepL K (ι.take n) H ds vs
  | [], _, h, _ => by rw [RepL] at h ⊢; exact h
  | d :: ds, _, h, l => by
    rw [RepL] at h ⊢
    obtain ⟨v, r, e, a, b⟩ := h
    simp only [DL.lowL, Bool.and_eq_true] at l
    exact ⟨v, r, e, RepV.low n d v a l.1, RepL.low n ds r b l.2⟩
theorem RepK.low (n : Nat) : ∀ (ds : List (Key × D)) (vs : List (Key × V)), RepK K ι H ds vs → DL.lowK n ds = true → RepK K (ι.take n) H ds vs
  | [], _, h, _ => by rw [RepK] at h ⊢; exact h
  | (k, d) :: ds, _, h, l => by
    rw [RepK] at h ⊢
    obtain ⟨v, r, e, a, b⟩ := h
    simp only [DL.lowK, Bool.and_eq_true] at l
    exact ⟨v, r, e, RepV.low n d v a l.1, RepK.low n ds r b l.2⟩
theorem RepF.low (n : Nat) : ∀ (ds : List (Str × D)) (vs : List (Str × V)), RepF K ι H ds vs → DL.lowF n ds = true → RepF K (ι.take n) H ds vs
  | [], _, h, _ => by rw [RepF] at h ⊢; exact h
  | (k, d) :: ds, _, h, l => by
    rw [RepF] at h ⊢
    obtain ⟨v, r, e, a, b⟩ := h
    simp only [DL.lowF, Bool.and_eq_true] at l
    exact ⟨v, r, e, RepV.low n d v a l.1, RepF.low n ds r b l.2⟩
end
theorem RepKT.low (n : Nat) : ∀ (ds : List (List Key × D)) (vs : List (List Key × V)), RepKT K ι H ds vs → DL.lowKT n ds = true → RepKT K (ι.take n) H ds vs
  | [], _, h, _ => by rw [RepKT] at h ⊢; exact h
  | (k, d) :: ds, _, h, l => by
    rw [RepKT] at h ⊢
    obtain ⟨v, r, e, a, b⟩ := h
    simp only [DL.lowKT, Bool.and_eq_true] at l
    exact ⟨v, r, e, RepV.low n d v a l.1, RepKT.low n ds r b l.2⟩
theorem RepO.low {a : Addr} {o : Ob} (n : Nat) (h : RepO K ι H a o) (l : DL.lowO n o = true) : RepO K (ι.take n) H a o := by
  cases o with
  | lst ds => obtain ⟨vs, q, r⟩ := h; exact ⟨vs, q, RepL.low n ds vs r l⟩
  | ins C fs => obtain ⟨C', dx, vs, nc, q, r⟩ := h; exact ⟨C', dx, vs, nc, q, RepF.low n fs vs r l⟩
  | dct ks => obtain ⟨vs, q, r⟩ := h; exact ⟨vs, q, RepK.low n ks vs r l⟩
  | dtt ks => obtain ⟨o, vs, q, r⟩ := h; exact ⟨o, vs, q, RepK.low n ks vs r l⟩
  | scr ds => obtain ⟨o, vs, q, r⟩ := h; exact ⟨o, vs, q, RepL.low n ds vs r l⟩
  | tpl ds => obtain ⟨o, vs, q, c1, c2, r⟩ := h; exact ⟨o, vs, q, c1, c2, RepL.low n ds vs r l⟩
  | dkt ks => obtain ⟨vs, q, r⟩ := h; exact ⟨vs, q, RepKT.low n ks vs r l⟩
  | dkl ks => obtain ⟨o, vs, q, r⟩ := h; exact ⟨o, vs, q, RepKT.low n ks vs r l⟩
  | tab x q =>
    obtain ⟨t, ps, h1, h2, h3⟩ := h
    refine ⟨t, ps, h1, h2, fun pos cv hc => ?_⟩
    obtain ⟨c, e1, e2, e3⟩ := h3 pos cv hc
    exact ⟨c, e1, take_out e2, e3⟩
  | clo i l' ds => obtain ⟨c', pm, ctv, cl, vs, h1, h2, h3, h4, h5⟩ := h; exact ⟨c', pm, ctv, cl, vs, h1, ⟨take_out h2.1, h2.2⟩, h3, paired_mono (fun _ _ z => ⟨take_out z.1, z.2⟩) h4, RepL.low n ds vs h5 l⟩
  | ded => exact h
mutual
theorem RepV.isLow : ∀ (d : D) (v : V), RepV K ι H d v → DL.low ι.length d = true
  | .non, _, _ => rfl
  | .bl _, _, _ => rfl
  | .int _, _, _ => rfl
  | .str _, _, _ => rfl
  | .ty _, _, _ => rfl
  | .fn _, _, _ => rfl
  | .loc m, _, h => by
    rw [RepV] at h
    obtain ⟨a, e, _⟩ := h
    simpa [DL.low] using (List.getElem?_eq_some_iff.mp e).1
  | .tup ds, _, h => by
    rw [RepV] at h
    obtain ⟨a, vs, e, t, r⟩ := h
    simpa [DL.low] using RepL.isLow ds vs r
  | .fl ds, _, h => by
    rw [RepV] at h
    obtain ⟨a, vs, e, t, r⟩ := h
    simpa [DL.low] using RepL.isLow ds vs r
  | .kl ds, _, h => by
    rw [RepV] at h
    obtain ⟨a, vs, e, t, r⟩ := h
    simpa [DL.low] using RepL.isLow ds vs r
  | .ktp ds, _, h => by
    rw [RepV] at h
    obtain ⟨a, vs, e, t, r⟩ := h
    simpa [DL.low] using RepL.isLow ds vs r
  | .ztp ds, _, h => by
    rw [RepV] at h
    obtain ⟨a, vs, e, t, r⟩ := h
    simpa [DL.low] using RepL.isLow ds vs r
  | .fd ds, _, h => by
    rw [RepV] at h
    obtain ⟨a, vs, e, m, t, r⟩ := h
    simpa [DL.low] using RepK.isLow ds vs r
  | .exc c ds, _, h => by
    rw [RepV] at h
    obtain ⟨a, cls, dd, e, m, t, rc, r⟩ := h
    rcases r with ⟨_, rfl⟩ | ⟨d, vs, e1, e2, e3, e4⟩
    · rfl
    · simpa [DL.low] using RepF.isLow ds vs e4
theorem RepL.isLow : ∀ (ds : List D) (vs : List V), RepL K ι H ds vs → DL.lowL ι.length ds = true
  | [], _, _ => rfl
  | d :: ds, _, h => by
    rw [RepL] at h
    obtain ⟨v, r, e, a, b⟩ := h
    simp only [DL.lowL, Bool.and_eq_true]
    exact ⟨RepV.isLow d v a, RepL.isLow ds r b⟩
theorem RepK.isLow : ∀ (ds : List (Key × D)) (vs : List (Key × V)), RepK K ι H ds vs → DL.lowK ι.length ds = true
  | [], _, _ => rfl
  | (k, d) :: ds, _, h => by
    rw [RepK] at h
    obtain ⟨v, r, e, a, b⟩ := h
    simp only [DL.lowK, Bool.and_eq_true]
    exact ⟨RepV.isLow d v a, RepK.isLow ds r b⟩
theorem RepF.isLow : ∀ (ds : List (Str × D)) (vs : List (Str × V)), RepF K ι H ds vs → DL.lowF ι.length ds = true
  | [], _, _ => rfl
  | (k, d) :: ds, _, h => by
    rw [RepF] at h
    obtain ⟨v, r, e, a, b⟩ := h
    simp only [DL.lowF, Bool.and_eq_true]
    exact ⟨RepV.isLow d v a, RepF.isLow ds r b⟩
end
theorem RepKT.isLow : ∀ (ds : List (List Key × D)) (vs : List (List Key × V)), RepKT K ι H ds vs → DL.lowKT ι.length ds = true
  | [], _, _ => rfl
  | (k, d) :: ds, _, h => by
    rw [RepKT] at h
    obtain ⟨v, r, e, a, b⟩ := h
    simp only [DL.lowKT, Bool.and_eq_true]
    exact ⟨RepV.isLow d v a, RepKT.isLow ds r b⟩
theorem RepO.isLow {a : Addr} {o : Ob} (h : RepO K ι H a o) : DL.lowO ι.length o = true := by
  cases o with
  | lst ds => obtain ⟨vs, q, r⟩ := h; exact RepL.isLow ds vs r
  | ins C fs => obtain ⟨C', dx, vs, nc, q, r⟩ := h; exact RepF.isLow fs vs r
  | dct ks => obtain ⟨vs, q, r⟩ := h; exact RepK.isLow ks vs r
  | dtt ks => obtain ⟨o, vs, q, r⟩ := h; exact RepK.isLow ks vs r
  | scr ds => obtain ⟨o, vs, q, r⟩ := h; exact RepL.isLow ds vs r
  | tpl ds => obtain ⟨o, vs, q, c1, c2, r⟩ := h; exact RepL.isLow ds vs r
  | dkt ks => obtain ⟨vs, q, r⟩ := h; exact RepKT.isLow ks vs r
  | dkl ks => obtain ⟨o, vs, q, r⟩ := h; exact RepKT.isLow ks vs r
  | tab x q => rfl
  | clo i l ds => obtain ⟨c', pm, ctv, cl, vs, h1, h2, h3, h4, h5⟩ := h; exact RepL.isLow ds vs h5
  | ded => rfl
end
/-- the elder places hold what they held, or nothing that points to a younger one -/
def Trunc (S S' : Sto) : Prop := S.length ≤ S'.length ∧ ∀ k o, k < S.length → S'[k]? = some o → S[k]? = some o ∨ lowO S.length o = true
theorem Trunc.same (S l : Sto) : Trunc S (S ++ l) := ⟨by simp, fun k o h e => .inl (by rw [List.getElem?_append_left h] at e; exact e)⟩
theorem Sim.trunc {K : PySem.W.Frag} {ι ι' : List Addr} {H H' : Hp} {S S' : Sto} (s : Sim K ι H S) (s' : Sim K ι' H' S') (G : Grow ι H ι' H') (t : Trunc S S') : Sim K ι H' (S'.take S.length) ∧ Grow ι H ι H' := by
  have hp : ι'.take ι.length = ι := by
    obtain ⟨r, e⟩ := G.pre
    rw [← e, List.take_left]
  refine ⟨⟨s.nd, by rw [s.len, List.length_take]; have := t.1; omega, fun n a o e1 e2 => ?_⟩, List.prefix_rfl, G.keep, fun _ z n => absurd z n, G.frz⟩
  have hn : n < S.length := by rw [← s.len]; exact (List.getElem?_eq_some_iff.mp e1).1
  rw [List.getElem?_take_of_lt hn] at e2
  have e1' := getElem?_pre G.pre e1
  have r' := s'.ob n a o e1' e2
  have l : lowO S.length o = true := by
    rcases t.2 n o hn e2 with h | h
    · have := (s.ob n a o e1 h).isLow
      rw [s.len] at this; exact this
    · exact h
  have := r'.low S.length l
  rw [← s.len, hp] at this
  exact this
theorem RepV.trunc {K : PySem.W.Frag} {ι ι' : List Addr} {H H' : Hp} {S : Sto} {d : D} {v : V} (s : Sim K ι H S) (G : Grow ι H ι' H') (r : RepV K ι' H' d v) (l : DL.low S.length d = true) : RepV K ι H' d v := by
  have hp : ι'.take S.length = ι := by
    obtain ⟨r, e⟩ := G.pre
    rw [← s.len, ← e, List.take_left]
  have := RepV.low S.length d v r l
  rw [hp] at this; exact this
theorem RepL.trunc {K : PySem.W.Frag} {ι ι' : List Addr} {H H' : Hp} {S : Sto} {ds : List D} {vs : List V} (s : Sim K ι H S) (G : Grow ι H ι' H') (r : RepL K ι' H' ds vs) (l : lowL S.length ds = true) : RepL K ι H' ds vs := by
  have hp : ι'.take S.length = ι := by
    obtain ⟨r, e⟩ := G.pre
    rw [← s.len, ← e, List.take_left]
  have := RepL.low S.length ds vs r l
  rw [hp] at this; exact this
theorem RepF.trunc {K : PySem.W.Frag} {ι ι' : List Addr} {H H' : Hp} {S : Sto} {ds : List (Str × D)} {vs : List (Str × V)} (s : Sim K ι H S) (G : Grow ι H ι' H') (r : RepF K ι' H' ds vs) (l : lowF S.length ds = true) : RepF K ι H' ds vs := by
  have hp : ι'.take S.length = ι := by
    obtain ⟨r, e⟩ := G.pre
    rw [← s.len, ← e, List.take_left]
  have := RepF.low S.length ds vs r l
  rw [hp] at this; exact this
abbrev W0 : WX := fun _ _ _ _ => False
open Classical in
noncomputable def compD (g : Sto → Prop) (T : Tg) (c : Ev → Sto → R Bool) (f : Ev → Sto → R D) (n : Nat) (ρ : Ev) : List D → Sto → Option Sto
  | [], S => if g S then some S else none
  | d :: ds, S => if g S then (match T d ρ S with
    | none => none
    | some (ρ1, S1) => match c ρ1 S1 with
      | .ok b S2 => if b = true then (match f ρ1 S2 with
          | .ok y S3 => (match getL S3 n with
            | some acc => ifp (acc.length < sizeLine) (compD g T c f n ρ ds (S3.set n (.lst (acc ++ [y])))) none
            | none => none)
          | _ => none) else compD g T c f n ρ ds S2
      | _ => none) else none
def cYes : Ev → Sto → R Bool := fun _ S => .ok true S
/-- how the list stays: in the store, or frozen -/
def finLoc (S : Sto) (S' : Sto) : R D := .ok (.loc S.length) S'
open Classical in
noncomputable def finFl (S : Sto) (S' : Sto) : R D := match getL S' S.length with
  | some acc => if Trunc S S' ∧ S'.length = S.length + 1 ∧ lowL S.length acc = true then .ok (.fl acc) (S'.take S.length) else .stuck
  | none => .stuck
def FinOk (fin : Sto → Sto → R D) : Prop := ∀ (K : PySem.W.Frag) (W : WX) (σ : St) (ι ι' : List Addr) (H H0 H' : Hp) (S S' : Sto) (Da : Addr) (Q : VK), Sim K ι H S → H Da = none → Grow ι H ι H0 → (∀ b, b ≠ Da → H0 b = H b) → Sim K ι' H' S' → Grow (ι ++ [Da]) H0 ι' H' →
  Post K W σ ι H (fin S S') (fun d _ ι' H' => ∀ v, RepV K ι' H' d v → Q v H') → Q (.ref Da) H'
theorem fin_grow {ι ι' : List Addr} {H H0 H' : Hp} {Da : Addr} (n : H Da = none) (hb : ∀ b, b ≠ Da → H0 b = H b) (G : Grow (ι ++ [Da]) H0 ι' H') : Grow ι H ι' H' where
  pre := (List.prefix_append _ _).trans G.pre
  keep := fun a o e na => by
    have hne : a ≠ Da := ne_of_none e n
    refine G.keep a o (by rw [hb a hne]; exact e) fun z => ?_
    rcases List.mem_append.mp z with z | z
    · exact na z
    · exact hne (List.mem_singleton.mp z)
  fresh := fun a z na => by
    by_cases hne : a = Da
    · rw [hne]; exact n
    · have := G.fresh a z fun y => by
        rcases List.mem_append.mp y with y | y
        · exact na y
        · exact hne (List.mem_singleton.mp y)
      rw [hb a hne] at this; exact this
  frz := fun a od u e => G.frz a od u (by rw [hb a (ne_of_none e n)]; exact e)
theorem fin_loc : FinOk finLoc := fun K W σ ι ι' H H0 H' S S' Da Q s n G0 hb s' G h => by
  refine h ι' H' (fin_grow n hb G) s' _ ?_
  rw [RepV]
  exact ⟨Da, getElem?_pre G.pre (by rw [← s.len]; simp), rfl⟩
theorem fin_fl : FinOk finFl := fun K W σ ι ι' H H0 H' S S' Da Q s n G0 hb s' G h => by
  unfold finFl at h
  (try unfold ifp at h); split at h
  · rename_i acc ha
    (try unfold ifp at h); split at h
    · rename_i hh
      obtain ⟨t, hl, hlow⟩ := hh
      have G1 := fin_grow n hb G
      obtain ⟨s2, G2⟩ := s.trunc s' G1 t
      have ea : ι'[S.length]? = some Da := getElem?_pre G.pre (by rw [← s.len]; simp)
      obtain ⟨vs, h1, h2⟩ := s'.ob _ _ _ ea (getL_some ha)
      refine h ι H' G2 s2 _ ?_
      rw [RepV]
      refine ⟨Da, vs, rfl, ⟨fun z => ?_, h1⟩, RepL.trunc s G1 h2 hlow⟩
      obtain ⟨u, e⟩ := s.there z
      rw [n] at e; cases e
    · exact h.elim
  · exact h.elim
/-- the target of a comprehension: its own slots, its store, by the very slots -/
structure CT (K : PySem.W.Frag) (vs : List Nat) (g : TG) (T : Tg) : Prop where
  wipeE : ∀ (ι : List Addr) (H : Hp) (σ : St) (ρ : Ev), RepE K ι H σ ρ → RepE K ι H (wipe σ vs) (ρ.mapIdx fun i d => if i ∈ vs then none else d)
  run : ∀ (ι : List Addr) (H : Hp) (S S' : Sto) (σ : St) (ρ ρ' : Ev) (d : D) (v : V) (Q : St → Hp → Prop), RepE K ι H (wipe σ vs) ρ → Sim K ι H S → RepV K ι H d v → T d ρ S = some (ρ', S') → S' = S ∧
    ((∀ σ', wipe σ' vs = wipe σ vs → RepE K ι H σ' ρ' → Q σ' H) → g v (wipe σ vs) H Q)
def wipeD (ρ : Ev) (vs : List Nat) : Ev := ρ.mapIdx fun i d => if i ∈ vs then none else d
noncomputable def eLc (fin : Sto → Sto → R D) (src : Ev → Sto → R Src) (T : Tg) (vs : List Nat) (c : Ev → Sto → R Bool) (f : Ev → Sto → R D) : Ev → Sto → R D := fun ρ S => (src ρ S).bind fun q S1 => match compD q.2 T c f S1.length (wipeD ρ vs) q.1 (S1 ++ [.lst []]) with
  | some S2 => fin S1 S2
  | none => .stuck
section
variable {X : Cx} {W : WX} {pos : Pos}
theorem lc_read {fin : Sto → Sto → R D} {K : PySem.W.Frag} {src : Ev → Sto → R Src} {g : TG} {T : Tg} {vs : List Nat} {c : Ev → Sto → R Bool} {f : Ev → Sto → R D} (hfin : FinOk fin) (ct : CT K vs g T) :
    ∀ σ H Q, rdE K W (eLc fin src T vs c f) σ H Q → tLc (rdI K W src) g (rdT K W0 c) (rdE K W0 f) vs σ H Q := fun σ H Q ⟨ι, ρ, S, hE, hS, h⟩ => by
  refine ⟨ι, ρ, S, hE, hS, (Post.bind h).mono fun q S1 ι1 H1 G1 s1 h1 J hJ Da hDa => ?_⟩
  obtain ⟨ds, gd⟩ := q
  cases hc : compD gd T c f S1.length (wipeD ρ vs) ds (S1 ++ [.lst []]) with
  | none => simp only [hc] at h1; exact h1.elim
  | some S2 =>
    simp only [hc] at h1
    have G0 : Grow ι1 H1 (ι1 ++ [Da]) (upd H1 Da (.lst [])) := Grow.push hDa
    have hE1 := ct.wipeE _ _ _ _ (hE.grow G1)
    refine ⟨fun i m H' => m = ds.length - i ∧ i ≤ ds.length ∧ ∃ ι' S', Grow (ι1 ++ [Da]) (upd H1 Da (.lst [])) ι' H' ∧ Sim K ι' H' S' ∧ compD gd T c f S1.length (wipeD ρ vs) (ds.drop i) S' = some S2,
      ⟨_, rfl, Nat.zero_le _, ι1 ++ [Da], (S1 ++ [Ob.lst []] : Sto), Grow.refl _ _, s1.push (b := Ob.lst []) hDa ⟨[], upd_same, RepL.nil⟩, hc⟩, ?_⟩
    rintro i m H' ⟨rfl, hi, ι', S', G', s', h'⟩
    have Gt : Grow ι1 H1 ι' H' := G0.trans G'
    have hE' : RepE K ι' H' (wipe σ vs) (wipeD ρ vs) := hE1.grow Gt
    have eD : ι'[S1.length]? = some Da := getElem?_pre G'.pre (by rw [← s1.len]; simp)
    by_cases hlt : i < ds.length
    · rw [List.drop_eq_getElem_cons hlt] at h'
      unfold compD at h'
      (try unfold ifp at h'); split at h'
      · rename_i hg
        obtain ⟨-, item⟩ := hJ ι' H' S' Gt s' hg
        obtain ⟨go, yl⟩ := item i ds[i] (List.getElem?_eq_some_iff.mpr ⟨hlt, rfl⟩)
        refine .inr ⟨go, fun H2 => ∃ ι2 S2', Grow (ι1 ++ [Da]) (upd H1 Da (.lst [])) ι2 H2 ∧ Sim K ι2 H2 S2' ∧ compD gd T c f S1.length (wipeD ρ vs) (ds.drop (i + 1)) S2' = some S2, fun H2 hh => ⟨ds.length - (i + 1), by omega, rfl, hlt, hh⟩, fun x H2 y => ?_⟩
        obtain ⟨G2, s2, rx⟩ := yl x H2 y
        cases hT : T ds[i] (wipeD ρ vs) S' with
        | none => simp only [hT] at h'; cases h'
        | some q =>
          obtain ⟨ρ1, S3⟩ := q
          simp only [hT] at h'
          obtain ⟨e3, run⟩ := ct.run ι' H2 S' S3 σ _ ρ1 ds[i] x (fun σ2 H2 => wipe σ2 vs = wipe σ vs ∧ rdT K W0 c σ2 H2 fun b H3 =>
            if b = true then rdE K W0 f σ2 H3 fun y H4 => ∃ acc, H4 Da = some (.lst acc) ∧ acc.length < sizeLine ∧ ∃ ι2 S2', Grow (ι1 ++ [Da]) (upd H1 Da (.lst [])) ι2 (upd H4 Da (.lst (acc ++ [y]))) ∧ Sim K ι2 (upd H4 Da (.lst (acc ++ [y]))) S2' ∧ compD gd T c f S1.length (wipeD ρ vs) (ds.drop (i + 1)) S2' = some S2
            else ∃ ι2 S2', Grow (ι1 ++ [Da]) (upd H1 Da (.lst [])) ι2 H3 ∧ Sim K ι2 H3 S2' ∧ compD gd T c f S1.length (wipeD ρ vs) (ds.drop (i + 1)) S2' = some S2) (hE'.grow G2) s2 rx hT
          subst e3
          refine run fun σ2 hw e2 => ⟨hw, ι', ρ1, S3, e2, s2, ?_⟩
          cases hcc : c ρ1 S3 with
          | stuck => simp only [hcc] at h'; cases h'
          | er x S4 => simp only [hcc] at h'; cases h'
          | ok b S4 =>
            simp only [hcc] at h'
            intro ι3 H3 G3 s3
            cases b with
            | false =>
              rw [if_neg (by decide)] at h' ⊢
              exact ⟨ι3, S4, (G'.trans G2).trans G3, s3, h'⟩
            | true =>
              rw [if_pos rfl] at h' ⊢
              refine ⟨ι3, ρ1, S4, e2.grow G3, s3, ?_⟩
              cases hf : f ρ1 S4 with
              | stuck => simp only [hf] at h'; cases h'
              | er x S5 => simp only [hf] at h'; cases h'
              | ok z S5 =>
                simp only [hf] at h'
                intro ι4 H4 G4 s4 v rv
                cases hL : getL S5 S1.length with
                | none => simp only [hL] at h'; cases h'
                | some acc =>
                  simp only [hL] at h'
                  (try unfold ifp at h'); split at h'
                  · rename_i hz
                    have e4 : ι4[S1.length]? = some Da := getElem?_pre G4.pre (getElem?_pre G3.pre eD)
                    obtain ⟨us, h5, h6⟩ := s4.ob _ _ _ e4 (getL_some hL)
                    have G5 : Grow ι4 H4 ι4 (upd H4 Da (.lst (us ++ [v]))) := Grow.put (List.mem_of_getElem? e4) h5 (fun _ _ z => by cases z)
                    refine ⟨us, h5, by rw [← RepL.length _ _ h6]; exact hz, ι4, _, (((G'.trans G2).trans G3).trans G4).trans G5, s4.put (b := .lst (acc ++ [z])) e4 h5 (fun _ _ z => by cases z) ⟨_, upd_same, ?_⟩, h'⟩
                    exact RepL.app _ _ (RepL.grow G5 _ _ h6) _ _ (RepL.one (RepV.grow G5 _ _ rv))
                  · cases h'
      · cases h'
    · have e : i = ds.length := by omega
      subst e
      rw [List.drop_length] at h'
      unfold compD at h'
      (try unfold ifp at h'); split at h'
      · rename_i hg
        cases h'
        obtain ⟨stop, -⟩ := hJ ι' H' S2 Gt s' hg
        exact .inl ⟨stop _ (Nat.le_refl _), hfin K W σ ι1 ι' H1 _ H' S1 S2 Da Q s1 hDa (Grow.upd hDa) (fun b hb => upd_ne hb) s' G' h1⟩
      · cases h'
theorem getElem?_wipe {ρ : Ev} {vs : List Nat} {i : Nat} {d : D} (h : (wipeD ρ vs)[i]? = some (some d)) : i ∉ vs ∧ ρ[i]? = some (some d) := by
  unfold wipeD at h
  rw [List.getElem?_mapIdx] at h
  cases e : ρ[i]? with
  | none => rw [e] at h; cases h
  | some x =>
    rw [e] at h
    simp only [Option.map_some, Option.some.injEq] at h
    by_cases hi : i ∈ vs
    · rw [if_pos hi] at h; cases h
    · rw [if_neg hi] at h; exact ⟨hi, by rw [h]⟩
theorem wipe_get (σ : St) : ∀ (vs : List Nat) (i : Nat), i ∉ vs → (wipe σ vs)[i]? = σ[i]?
  | [], _, _ => rfl
  | v :: vs, i, h => by
    unfold wipe
    rw [List.getElem?_set_ne (fun e => h (by rw [← e]; exact List.mem_cons_self))]
    exact wipe_get σ vs i fun z => h (List.mem_cons_of_mem _ z)
theorem wipe_rep {K : PySem.W.Frag} (vs : List Nat) : ∀ (ι : List Addr) (H : Hp) (σ : St) (ρ : Ev), RepE K ι H σ ρ → RepE K ι H (wipe σ vs) (wipeD ρ vs) := fun ι H σ ρ h => by
  refine ⟨by rw [wipe_length]; simp [wipeD, h.1], fun i d e => ?_⟩
  obtain ⟨hi, e⟩ := getElem?_wipe e
  obtain ⟨v, e', r⟩ := h.2 i d e
  exact ⟨v, by rw [wipe_get σ vs i hi]; exact e', r⟩
theorem ct_name {K : PySem.W.Frag} (i : Nat) : CT K [i] (gName i) (tN i) where
  wipeE := wipe_rep [i]
  run := fun ι H S S' σ ρ ρ' d v Q hE s r e => by
    cases e
    refine ⟨rfl, fun h => ?_⟩
    refine h ((wipe σ [i]).set i (some v)) ?_ (hE.set r i)
    simp [wipe]
theorem ct_pair {K : PySem.W.Frag} (i j : Nat) (hij : i ≠ j) : CT K [i, j] (gTup K 2 (gCons (gName i) (gCons (gName j) gNil))) (tTup 2 (tCons (tN i) (tCons (tN j) tNil))) where
  wipeE := wipe_rep [i, j]
  run := fun ι H S S' σ ρ ρ' d v Q hE s r e => by
    cases d with
    | tup ds =>
      match ds, r, e with
      | [a, b], r, e =>
        have e : some ((ρ.set i (some a)).set j (some b), S) = some (ρ', S') := e
        cases e
        refine ⟨rfl, fun h => ?_⟩
        obtain ⟨p, vs, rfl, q, rl⟩ := tup_at r
        obtain ⟨x, y, rfl, rx, ry⟩ := RepL.two_inv rl
        refine ⟨p, [x, y], rfl, q, rfl, x, [y], rfl, y, [], rfl, rfl, ?_⟩
        refine h _ ?_ ((hE.set rx i).set ry j)
        apply List.ext_getElem?
        intro k
        simp only [wipe, List.getElem?_set]
        by_cases h1 : i = k <;> by_cases h2 : j = k <;> simp [h1, h2]
      | [], r, e => cases e
      | [_], r, e => cases e
      | _ :: _ :: _ :: _, r, e => simp [tTup] at e
    | _ => cases e
theorem de_lc {fin : Sto → Sto → R D} {elt tg iter : Expr} {ifs : List Expr} {scope : Scope} {own : List (Str × Nat)} {src : Ev → Sto → R Src} {g : TG} {T : Tg} {c : Ev → Sto → R Bool} {f : Ev → Sto → R D} (hfin : FinOk fin) (ct : CT X.K (own.map (·.2)) g T) (hc : X.calm = true) (hN : X.N.Nodup) (hi : DI X W tg iter src) (ok : BlkOk X.N X.env.scope scope own)
    (hg : ∀ (s : Shared) (H : Hp) (C : Addr) (cl : List (Str × Addr)) (fp : List Addr), PG (X.blk s H scope (compEnvC scope cl C X.env) fp) tg g) (ht : ∀ (s : Shared) (H : Hp) (C : Addr) (cl : List (Str × Addr)) (fp : List Addr), PTs (X.blk s H scope (compEnvC scope cl C X.env) fp) ifs (rdT X.K W0 c))
    (he : ∀ (s : Shared) (H : Hp) (C : Addr) (cl : List (Str × Addr)) (fp : List Addr), DE (X.blk s H scope (compEnvC scope cl C X.env) fp) W0 elt f) (hs : ∀ x, foldedSetIterable iter X.env x = pure x := by intro _; rfl) :
    DE X W (.ListComp elt [⟨tg, iter, ifs, 0⟩] scope pos) (eLc fin src T (own.map (·.2)) c f) := PE.imp (pe_lc hc hN hi ok hg ht he hs) (lc_read hfin ct)
/-- name = [..] -/
theorem ds_setLc (i : Nat) {y : Str} {py spos : Pos} {fin : Sto → Sto → R D} {elt tg iter : Expr} {ifs : List Expr} {scope : Scope} {own : List (Str × Nat)} {src : Ev → Sto → R Src} {g : TG} {T : Tg} {c : Ev → Sto → R Bool} {f : Ev → Sto → R D} (hfin : FinOk fin) (ct : CT X.K (own.map (·.2)) g T) (hc : X.calm = true) (hN : X.N.Nodup) (hi : DI X W tg iter src) (ok : BlkOk X.N X.env.scope scope own)
    (hg : ∀ (s : Shared) (H : Hp) (C : Addr) (cl : List (Str × Addr)) (fp : List Addr), PG (X.blk s H scope (compEnvC scope cl C X.env) fp) tg g) (ht : ∀ (s : Shared) (H : Hp) (C : Addr) (cl : List (Str × Addr)) (fp : List Addr), PTs (X.blk s H scope (compEnvC scope cl C X.env) fp) ifs (rdT X.K W0 c))
    (he : ∀ (s : Shared) (H : Hp) (C : Addr) (cl : List (Str × Addr)) (fp : List Addr), DE (X.blk s H scope (compEnvC scope cl C X.env) fp) W0 elt f) (hy : X.N[i]? = some y := by rfl) (hyl : X.env.scope.names.lookup y = some .local := by rfl)
    (hsw : swapsWith (.ListComp elt [⟨tg, iter, ifs, 0⟩] scope pos) (some (.Name y py)) spos.line X.env = pure true := by exact sw_true rfl rfl rfl (by decide +kernel)) (hs : ∀ x, foldedSetIterable iter X.env x = pure x := by intro _; rfl) :
    DS X W (.Assign [.Name y py] (.ListComp elt [⟨tg, iter, ifs, 0⟩] scope pos) spos) (sSet i (eLc fin src T (own.map (·.2)) c f)) :=
  PS.imp (ps_setLc hc hN hy hyl hsw hi ok hg ht he hs) fun E σ H q => by
    obtain ⟨ι, ρ, S, hE, hS, h⟩ := q
    refine lc_read (W := W) hfin ct σ H _ ⟨ι, ρ, S, hE, hS, (PostS.bind h hE).mono fun d S1 ι1 H1 G1 s1 h1 v rv => ?_⟩
    exact h1 ι1 H1 _ (Grow.refl _ _) s1 ((hE.grow G1).set rv i)
theorem dts_nil : PTs X [] (rdT X.K W0 cYes) := ⟨fun pins s σ H Q I ⟨ι, ρ, S, hE, hS, h⟩ => pts_nil.run pins s σ H Q I (h.here hS)⟩
theorem dts_one {c : Expr} {t : Ev → Sto → R Bool} (h : DT X W0 c t) : PTs X [c] (rdT X.K W0 t) := pts_one h
end
end DL
namespace DL
open PySem PySem.Spec L2
open PyProof.Rows hiding St
abbrev Fn := List D → Sto → R D
def PostX (K : PySem.W.Frag) (E : XK) (ι : List Addr) (H : Hp) (r : R D) (Q : VK) : Prop := match r with
  | .ok d S' => ∀ ι' H' v, Grow ι H ι' H' → Sim K ι' H' S' → RepV K ι' H' d v → Q v H'
  | .er e S' => ∀ ι' H' cls dd, Grow ι H ι' H' → Sim K ι' H' S' → RepX K ι' H' e cls dd → E cls dd H'
  | .stuck => False
def spD (K : PySem.W.Frag) (F : Fn) : Sp := fun vs H Q E => ∃ ι S ds, RepL K ι H ds vs ∧ Sim K ι H S ∧ PostX K E ι H (F ds S) Q
/-- the def at f does what F says, called by position -/
def FnD (gd : Bool) (P : Program) (w : World) (K : PySem.W.Frag) (mg : Str → Option Value) (base : Heap) (k : Nat) (f : Addr) (F : Fn) : Prop :=
  ∀ (A : Around) (outer : List Env) (s : Shared) (H : Hp) (us : List Value) (vs : List V) (Q : VK) (E : XK), Room k A → (gd = true → A.guards = some []) → Env0 P w K mg base A outer s H → Vals vs us → spD K F vs H Q E →
    codeAny (model P w) A (.call (.ref f) ⟨us, []⟩) (CR (L2.CX P w) outer P w H s Q E) s
theorem FnD.mono {gd : Bool} {P : Program} {w : World} {K : PySem.W.Frag} {mg : Str → Option Value} {base : Heap} {j k : Nat} {f : Addr} {F : Fn} (h : FnD gd P w K mg base j f F) (hj : j ≤ k) : FnD gd P w K mg base k f F :=
  fun A outer s H us vs Q E hr => h A outer s H us vs Q E (hr.mono hj)
open Classical in
noncomputable def close (S : Sto) (d : D) (S' : Sto) : R D :=
  if S'.length = S.length then .ok d S' else if Trunc S S' ∧ low S.length d = true then .ok d (S'.take S.length) else match d with
    | .loc m => (match getL S' m with
      | some ds => if Trunc S S' ∧ lowL S.length ds = true then .ok (.fl ds) (S'.take S.length) else .stuck
      | none => .stuck)
    | _ => .stuck
open Classical in
noncomputable def closeE (S : Sto) (e : Ex) (S' : Sto) : R D := if S'.length = S.length then .er e S' else if Trunc S S' ∧ lowF S.length e.fs = true then .er e (S'.take S.length) else .er e S'
/-- nothing is dropped -/
def closeK (_ : Sto) (d : D) (S' : Sto) : R D := .ok d S'
def ClOk (cl : Sto → D → Sto → R D) : Prop := ∀ (K : PySem.W.Frag) (E : XK) (ι ι' : List Addr) (H H' : Hp) (S S' : Sto) (d : D) (v : V) (Q : VK), Sim K ι H S → Sim K ι' H' S' → Grow ι H ι' H' → RepV K ι' H' d v → PostX K E ι H (cl S d S') Q → Q v H'
theorem cl_keep : ClOk closeK := fun K E ι ι' H H' S S' d v Q s s' G r h => h ι' H' v G s' r
theorem cl_drop : ClOk close := fun K E ι ι' H H' S S' d v Q s s' G r h => by
  unfold close at h
  split at h
  · exact h ι' H' v G s' r
  · rename_i hl
    split at h
    · rename_i hh
      obtain ⟨s2, G2⟩ := s.trunc s' G hh.1
      exact h ι H' v G2 s2 (RepV.trunc s G r hh.2)
    · rename_i hlow
      split at h
      · rename_i m
        split at h
        · rename_i ds hd
          split at h
          · rename_i hh
            obtain ⟨s2, G2⟩ := s.trunc s' G hh.1
            refine h ι H' v G2 s2 ?_
            rw [RepV] at r
            obtain ⟨a, ea, rfl⟩ := r
            obtain ⟨vs, h1, h2⟩ := s'.ob _ _ _ ea (getL_some hd)
            have hm : ¬ m < S.length := fun z => hlow ⟨hh.1, by simpa [low] using z⟩
            rw [RepV]
            refine ⟨a, vs, rfl, ⟨fun z => ?_, h1⟩, RepL.trunc s G h2 hh.2⟩
            obtain ⟨n, hn, en⟩ := List.mem_iff_getElem.mp z
            have e1 : ι'[n]? = some a := getElem?_pre G.pre (List.getElem?_eq_some_iff.mpr ⟨hn, en⟩)
            obtain ⟨q1, q2⟩ := List.getElem?_eq_some_iff.mp e1
            obtain ⟨q3, q4⟩ := List.getElem?_eq_some_iff.mp ea
            have : n = m := (List.getElem_inj s'.nd).mp (q2.trans q4.symm)
            rw [← s.len] at hm
            omega
          · exact h.elim
        · exact h.elim
      · exact h.elim
theorem cl_err {K : PySem.W.Frag} {E : XK} {ι ι' : List Addr} {H H' : Hp} {S S' : Sto} {e : Ex} {cls : Value} {dd : Option Addr} {Q : VK} (s : Sim K ι H S) (s' : Sim K ι' H' S') (G : Grow ι H ι' H') (r : RepX K ι' H' e cls dd) (h : PostX K E ι H (closeE S e S') Q) : E cls dd H' := by
  unfold closeE at h
  split at h
  · exact h ι' H' cls dd G s' r
  · split at h
    · rename_i hh
      obtain ⟨s2, G2⟩ := s.trunc s' G hh.1
      refine h ι H' cls dd G2 s2 ⟨r.1, ?_⟩
      rcases r.2 with r2 | ⟨a, vs, e1, e2, e3, e4⟩
      · exact .inl r2
      · refine .inr ⟨a, vs, e1, fun z => e2 ?_, e3, RepF.trunc s G e4 hh.2⟩
        obtain ⟨t, rfl⟩ := G.pre
        exact List.mem_append_left _ z
    · exact h ι' H' cls dd G s' r
def startD (n : Nat) (ds : List D) : Ev := ds.map some ++ List.replicate (n - ds.length) none
noncomputable def fnC (cl : Sto → D → Sto → R D) (n : Nat) (m : Nat) (B : Ev → Sto → SR) : Fn := fun ds S => if ds.length = m then (match B (startD n ds) S with
  | .nx _ S' => cl S .non S'
  | .rt d S' => cl S d S'
  | .er e _ S' => closeE S e S'
  | _ => .stuck) else .stuck
theorem start_rep {K : PySem.W.Frag} {ι : List Addr} {H : Hp} {ds : List D} {vs : List V} (N : List Str) (r : RepL K ι H ds vs) : RepE K ι H (start N vs) (startD N.length ds) := by
  have hl := RepL.length _ _ r
  refine ⟨by simp [L2.start, startD, hl], fun i d e => ?_⟩
  unfold startD at e
  by_cases hi : i < ds.length
  · rw [List.getElem?_append_left (by simpa using hi), List.getElem?_map] at e
    cases q : ds[i]? with
    | none => rw [q] at e; cases e
    | some x =>
      rw [q] at e; cases e
      obtain ⟨v, hv, rv⟩ := RepL.get _ _ r i d q
      refine ⟨v, ?_, rv⟩
      unfold L2.start
      rw [List.getElem?_append_left (by simp [← hl]; exact hi), List.getElem?_map, hv]
      rfl
  · rw [List.getElem?_append_right (by simpa using hi), List.getElem?_replicate] at e
    split at e <;> cases e
/-- how the body's reading gives the def's -/
theorem body_read {K : PySem.W.Frag} {cl : Sto → D → Sto → R D} (hcl : ClOk cl) {N : List Str} {m : Nat} {B : Ev → Sto → SR} {vs : List V} {H : Hp} {Q : VK} {E : XK} (h : spD K (fnC cl N.length m B) vs H Q E) :
    vs.length = m ∧ rdS K (fun cls d _ H' => E cls d H') B { nx := fun _ H' => Q .non H', rt := Q } (start N vs) H := by
  obtain ⟨ι, S, ds, rl, s, h⟩ := h
  unfold fnC at h
  split at h
  · rename_i hm
    refine ⟨by rw [← RepL.length _ _ rl]; exact hm, ι, startD N.length ds, S, start_rep N rl, s, ?_⟩
    cases hB : B (startD N.length ds) S with
    | nx ρ S' => simp only [hB] at h; exact fun ι' H' σ' G s' e => hcl K E ι ι' H H' S S' .non .non Q s s' G non_rep h
    | rt d S' => simp only [hB] at h; exact fun ι' H' v G s' r => hcl K E ι ι' H H' S S' d v Q s s' G r h
    | er e ρ S' => simp only [hB] at h; exact fun ι' H' σ' cls dd G s' _ r => cl_err s s' G r h
    | bk ρ S' => simp only [hB] at h; exact h.elim
    | ct ρ S' => simp only [hB] at h; exact h.elim
    | stuck => simp only [hB] at h; exact h.elim
  · exact h.elim
section
variable {gd : Bool} {P : Program} {w : World} {K : PySem.W.Frag} {mg : Str → Option Value} {base : Heap} {k : Nat} {f : Addr} {fd : FuncData} {N ps : List Str}
/-- a def by its body -/
theorem fnD_of {x qual : Str} {st : Stmt} {cl : Sto → D → Sto → R D} {B : Ev → Sto → SR} (F : Fun K x qual st f fd) (sc : FnScope N ps (defScope st)) (hb : Binds K fd ps []) (hcl : ClOk cl)
    (hbody : ∀ (cdv : Value) (A : Around) (outer : List Env) (s : Shared) (H : Hp) (E : XK), Room k (A.deeper (envOfC qual (defScope st) s.heap.objs.size f cdv)) → (gd = true → A.guards = some []) →
      Takes (cxOf (L2.CX P w) P w K mg base N qual (defScope st) f cdv A outer s H E) (fun cls d _ H' => E cls d H') →
      PassesOwn (model P w) (A.deeper (envOfC qual (defScope st) s.heap.objs.size f cdv)) (envOfC qual (defScope st) s.heap.objs.size f cdv) (cxOf (L2.CX P w) P w K mg base N qual (defScope st) f cdv A outer s H E).xe →
      DSs (cxOf (L2.CX P w) P w K mg base N qual (defScope st) f cdv A outer s H E) (fun cls d _ H' => E cls d H') (defBody st) B) : FnD gd P w K mg base (k + 1) f (fnC cl N.length ps.length B) := by
  intro A outer s H us vs Q E hr hgd e0 rv hsp
  obtain ⟨oc, od, kV, doc, pm, an, cdv, ct, osl, efd, lk, hcd⟩ := F.ex
  obtain ⟨hl, rd⟩ := body_read (N := N) hcl hsp
  have hlu : us.length = ps.length := by rw [← rv.length]; exact hl
  have kept : ∀ b o, base.get? b = some o → s.heap.get? b = some o := fun b o e => (e0.bs b o e).1
  have KX : K.In s.heap := e0.mod.kin.keeps kept
  have bd := hb s us KX (by rw [List.append_nil]; exact hlu)
  rw [List.append_nil, efd] at bd
  rw [efd] at lk
  have hkind : ∀ y ∈ ps.zip us, (defScope st).names.lookup y.1 = some .local ∨ ((defScope st).names.lookup y.1 = some .cell ∧
      ((cellsFrom (s.heap.objs.size + 1) (defScope st).names []).lookup y.1).isSome = true) := by
    rintro ⟨n, v⟩ hy
    exact (sc.par n (List.of_mem_zip hy).1).imp id fun q => ⟨q, PySem.W.cellsFrom_some _ _ _ (.inl q)⟩
  refine codeAny_call_function hr.depth (KX _ _ lk) rfl sc.co sc.gen rfl
    (PySem.W.codeRec_of KX hcd) (bd _ _ _ _ (wpAny_newFunctionEnv_cells sc.kind hkind fun env he s1 ic => ?_))
  subst he
  refine ⟨(e0.mod.nolimit.keeps kept).keeps ic.toInCall.keep, codeAny_func ?_⟩
  have I := inv_start (CX := L2.CX P w) (P := P) (w := w) (E := E) sc hr.hd e0 hl rv ic
  have body := hbody cdv A outer s H E (hr.deeper _) hgd (takes_of rfl rfl rfl rfl) (passes_of rfl)
  refine wpAny_mono (body.run [] s1 (start N vs) H _ I rd) (fun fl s' hs => ?_) fun e s' hs => hs
  cases fl with
  | ret u =>
    obtain ⟨v, σ', H', J, r', q⟩ := hs
    exact ⟨v, H', J.os, J.bare, J.base, J.hok, r', q⟩
  | next =>
    obtain ⟨σ', H', J, q⟩ := hs
    exact ⟨V.non, H', J.os, J.bare, J.base, J.hok, rfl, q⟩
  | brk => obtain ⟨_, _, _, q⟩ := hs; exact False.elim q
  | cont => obtain ⟨_, _, _, q⟩ := hs; exact False.elim q
end
def eCall (F : Fn) (g : Ev → Sto → R (List D)) : Ev → Sto → R D := fun ρ S => (g ρ S).bind fun ds S1 => F ds S1
theorem PostX.of {K : PySem.W.Frag} {W : WX} {σ : St} {ι : List Addr} {H : Hp} {r : R D} {Q : VK} (h : Post K W σ ι H r fun d _ ι' H' => ∀ v, RepV K ι' H' d v → Q v H') : PostX K (WE W σ) ι H r Q := by
  cases r with
  | ok d S => exact fun ι' H' v G s r => h ι' H' G s v r
  | er e S => exact h
  | stuck => exact h
section
variable {X : Cx} {W : WX} {gd : Bool} {k : Nat} {f : Addr} {F : Fn} {x : Str} {p pos : Pos} {e : Expr} {es : List Expr} {g : Ev → Sto → R (List D)}
theorem run_fnD {pins : List (Addr × Obj)} {σ : St} {H : Hp} {s : Shared} {Q : VK} {us : List Value} {vs : List V} (hF : FnD gd X.prog X.w X.K X.mg X.base k f F) (hr : Room k X.A) (hG : gd = true → X.A.guards = some []) (tk : Takes X W)
    (I : Inv X pins σ H s) (r : Vals vs us) (h : spD X.K F vs H Q (WE W σ)) : wpAny (model X.prog X.w) X.A (call (.ref f) us) (EP X pins σ Q) X.xe s := by
  refine wpAny_call (codeAny_mono (hF X.A X.stack s H us vs Q (WE W σ) hr hG I.env0 r h) fun res s' hq => ?_)
  cases res with
  | error er => exact passAt tk σ pins H s er s' I hq
  | ok fl =>
    cases fl with
    | ret u => exact I.after hq
    | next => exact False.elim hq
    | brk => exact False.elim hq
    | cont => exact False.elim hq
theorem de_callD (hF : FnD gd X.prog X.w X.K X.mg X.base k f F) (hr : Room k X.A) (hG : gd = true → X.A.guards = some []) (tk : Takes X W) (hm : X.mg x = some (.ref f)) (hk : PySem.W.keepIn X.K (.ref f) = true) (ha : DA X W (e :: es) g) (hg : Gl X x := by rfl) (hdb : (x == ("__debug__" : Str)) = false := by decide)
    (he : starEach (e :: es) X.env = (false, eval e X.env) :: starEach es X.env := by rfl) (hpl : (backTo pos (starEach es X.env)).any (·.1) = false := by rfl) : DE X W (.Call (.Name x p) (e :: es) [] pos) (eCall F g) := by
  refine ⟨fun pins s σ H Q I ⟨ι, ρ, S, hE, hS, h⟩ => ?_⟩
  refine wpAny_Call_Name_kw (ld_glob I hg hm ?_ hdb)
  have rd : rdA X.K W g σ H fun vs H1 => spD X.K F vs H1 Q (WE W σ) := ⟨ι, ρ, S, hE, hS, (Post.bind h).mono fun ds S1 ι1 H1 G1 s1 h1 vs rs => ⟨ι1, S1, ds, rs, s1, PostX.of h1⟩⟩
  exact PySem.W.callWith_K (h₀ := X.base) I.ok.mod.kin hk (thn (ha.run pos pins s σ H _ I rd) fun us s1 ⟨vs, H1, I1, r1, q1⟩ => ⟨I1.kIn, run_fnD hF hr hG tk I1 r1 q1⟩) he hpl
end
end DL
namespace DL
open PySem PySem.Spec L2
open PyProof.Rows hiding St
def CallK (K : PySem.W.Frag) (r : List V → Hp → VK → Prop) (b : Fn) : Prop := ∀ (W : WX) (σ : St) (ι : List Addr) (H : Hp) (S : Sto) (vs : List V) (ds : List D) (Q : VK), Sim K ι H S → RepL K ι H ds vs →
  Post K W σ ι H (b ds S) (fun d _ ι' H' => ∀ v, RepV K ι' H' d v → Q v H') → r vs H Q
theorem CallR.or {X : Cx} {f : Value} {r r' : List V → Hp → VK → Prop} (h : CallR X f r) (h' : CallR X f r') : CallR X f (fun vs H Q => r vs H Q ∨ r' vs H Q) := by
  intro pins s σ H vs us Q I rv q
  rcases q with q | q
  · exact h pins s σ H vs us Q I rv q
  · exact h' pins s σ H vs us Q I rv q
section
variable {X : Cx} {W : WX} {x : Str} {p pos : Pos} {e : Expr} {es : List Expr} {g : Ev → Sto → R (List D)} {id T : String} {r : List V → Hp → VK → Prop} {b : Fn}
theorem cb_read {K : PySem.W.Frag} (k : CallK K r b) : ∀ σ H Q, rdE K W (eCall b g) σ H Q → tCB r (rdA K W g) σ H Q := fun σ H Q ⟨ι, ρ, S, hE, hS, h⟩ =>
  ⟨ι, ρ, S, hE, hS, (Post.bind h).mono fun ds S1 ι1 H1 G1 s1 h1 vs rs => k W σ ι1 H1 S1 vs ds Q s1 rs h1⟩
theorem de_callB (hc : CallR X (.builtin id) r) (k : CallK X.K r b) (hm : X.mg x = none) (hv : bootBuiltins x = some (.builtin id)) (ha : DA X W (e :: es) g) (hg : Gl X x := by rfl) (hn : x ≠ "__name__" := by decide) (hdb : (x == ("__debug__" : Str)) = false := by decide)
    (he : starEach (e :: es) X.env = (false, eval e X.env) :: starEach es X.env := by rfl) (hpl : (backTo pos (starEach es X.env)).any (·.1) = false := by rfl) : DE X W (.Call (.Name x p) (e :: es) [] pos) (eCall b g) :=
  PE.imp (pe_callB hc hg hm hv ha hn hdb he hpl) (cb_read k)
theorem de_callTy (hc : CallR X (.type T) r) (k : CallK X.K r b) (hm : X.mg x = none) (hv : bootBuiltins x = some (.type T)) (ha : DA X W (e :: es) g) (hg : Gl X x := by rfl) (hn : x ≠ "__name__" := by decide) (hdb : (x == ("__debug__" : Str)) = false := by decide)
    (he : starEach (e :: es) X.env = (false, eval e X.env) :: starEach es X.env := by rfl) (hpl : (backTo pos (starEach es X.env)).any (·.1) = false := by rfl) : DE X W (.Call (.Name x p) (e :: es) [] pos) (eCall b g) :=
  PE.imp (pe_callTy hc hg hm hv ha hn hdb he hpl) (cb_read k)
end
section
variable {X : Cx} {K : PySem.W.Frag}
noncomputable def bLen : Fn := fun ds S => match ds with
  | [.str z] => ifp (z.length ≤ sizeLine) (.ok (.int z.length) S) .stuck
  | [d] => (match seqOf S d with
    | some xs => .ok (.int xs.length) S
    | none => .stuck)
  | _ => .stuck
theorem c_len : CallR X (.builtin "len") (fun xs H Q => (∃ z, xs = [.str z] ∧ z.length ≤ sizeLine ∧ Q (.int z.length) H) ∨ ∃ p ys, xs = [.ref p] ∧ (SqL X.K H p ys ∨ SqT X.K H p ys) ∧ Q (.int ys.length) H) := CallR.or call_len_str call_len_seq
theorem k_len : CallK K (fun xs H Q => (∃ z, xs = [.str z] ∧ z.length ≤ sizeLine ∧ Q (.int z.length) H) ∨ ∃ p ys, xs = [.ref p] ∧ (SqL K H p ys ∨ SqT K H p ys) ∧ Q (.int ys.length) H) bLen := by
  intro W σ ι H S vs ds Q s rl h
  unfold bLen at h
  (try unfold ifp at h); split at h
  · obtain ⟨v, rfl, rv⟩ := RepL.one_inv rl
    (try unfold ifp at h); split at h
    · rename_i hz
      exact .inl ⟨_, by rw [str_at rv], hz, h.here s _ int_rep⟩
    · exact h.elim
  · obtain ⟨v, rfl, rv⟩ := RepL.one_inv rl
    (try unfold ifp at h); split at h
    · rename_i xs hx
      obtain ⟨p, vs, rfl, q, rq⟩ := seq_at s rv hx
      refine .inr ⟨p, vs, rfl, q, ?_⟩
      rw [← RepL.length _ _ rq]
      exact h.here s _ int_rep
    · exact h.elim
  · exact h.elim
def bAbs : Fn := fun ds S => match ds with
  | [.int i] => .ok (.int (if i < 0 then -i else i)) S
  | _ => .stuck
theorem k_abs : CallK K (fun xs H Q => ∃ i, xs = [.int i] ∧ Q (.int (if i < 0 then -i else i)) H) bAbs := by
  intro W σ ι H S vs ds Q s rl h
  unfold bAbs at h
  (try unfold ifp at h); split at h
  · obtain ⟨v, rfl, rv⟩ := RepL.one_inv rl
    exact ⟨_, by rw [int_at rv], h.here s _ int_rep⟩
  · exact h.elim
def intsOf : List D → Option (List Int)
  | [] => some []
  | .int i :: ds => (intsOf ds).map fun is => i :: is
  | _ => none
theorem intsOf_rep {ι : List Addr} {H : Hp} : ∀ (ds : List D) (vs : List V) (is : List Int), RepL K ι H ds vs → intsOf ds = some is → vs = is.map V.int
  | [], vs, is, r, e => by rw [RepL] at r; cases e; subst r; rfl
  | d :: ds, vs, is, r, e => by
    rw [RepL] at r
    obtain ⟨v, us, rfl, a, b⟩ := r
    cases d with
    | int i =>
      have e : (intsOf ds).map (fun is => i :: is) = some is := e
      cases h : intsOf ds with
      | none => rw [h] at e; cases e
      | some js =>
        rw [h] at e; cases e
        rw [int_at a, intsOf_rep ds us js b h]; rfl
    | _ => cases e
theorem intsOf_map (is : List Int) : intsOf (is.map D.int) = some is := by
  induction is with
  | nil => rfl
  | cons i is ih => simp [intsOf, ih]
def maxL : List Int → Int
  | [] => 0
  | i :: is => is.foldl max i
def minL : List Int → Int
  | [] => 0
  | i :: is => is.foldl min i
def bMax : Fn := fun ds S => match ds with
  | [.int i, .int j] => .ok (.int (max i j)) S
  | [d] => (match (lstOf S d).bind intsOf with
    | some is => if is = [] then .stuck else .ok (.int (maxL is)) S
    | none => .stuck)
  | _ => .stuck
def bMin : Fn := fun ds S => match ds with
  | [.int i, .int j] => .ok (.int (min i j)) S
  | [d] => (match (lstOf S d).bind intsOf with
    | some is => if is = [] then .stuck else .ok (.int (minL is)) S
    | none => .stuck)
  | _ => .stuck
theorem foldl_max_ge (l : List Int) : ∀ i : Int, i ≤ l.foldl max i ∧ ∀ x ∈ l, x ≤ l.foldl max i := by
  induction l with
  | nil => intro i; simp
  | cons a l ih =>
    intro i
    obtain ⟨h1, h2⟩ := ih (max i a)
    refine ⟨by simp only [List.foldl_cons]; omega, fun x hx => ?_⟩
    simp only [List.foldl_cons]
    rcases List.mem_cons.mp hx with rfl | hx
    · omega
    · exact h2 x hx
theorem foldl_max_mem (l : List Int) : ∀ i : Int, l.foldl max i = i ∨ l.foldl max i ∈ l := by
  induction l with
  | nil => intro i; simp
  | cons a l ih =>
    intro i
    simp only [List.foldl_cons]
    rcases ih (max i a) with h | h
    · rw [h]
      by_cases hia : i ≤ a
      · exact .inr (by rw [Int.max_eq_right hia]; exact List.mem_cons_self)
      · exact .inl (by omega)
    · exact .inr (List.mem_cons_of_mem _ h)
theorem foldl_min_le (l : List Int) : ∀ i : Int, l.foldl min i ≤ i ∧ ∀ x ∈ l, l.foldl min i ≤ x := by
  induction l with
  | nil => intro i; simp
  | cons a l ih =>
    intro i
    obtain ⟨h1, h2⟩ := ih (min i a)
    refine ⟨by simp only [List.foldl_cons]; omega, fun x hx => ?_⟩
    simp only [List.foldl_cons]
    rcases List.mem_cons.mp hx with rfl | hx
    · omega
    · exact h2 x hx
theorem foldl_min_mem (l : List Int) : ∀ i : Int, l.foldl min i = i ∨ l.foldl min i ∈ l := by
  induction l with
  | nil => intro i; simp
  | cons a l ih =>
    intro i
    simp only [List.foldl_cons]
    rcases ih (min i a) with h | h
    · rw [h]
      by_cases hia : a ≤ i
      · exact .inr (by rw [Int.min_eq_right hia]; exact List.mem_cons_self)
      · exact .inl (by omega)
    · exact .inr (List.mem_cons_of_mem _ h)
theorem maxL_spec {is : List Int} (h : is ≠ []) : maxL is ∈ is ∧ ∀ x ∈ is, x ≤ maxL is := by
  cases is with
  | nil => exact absurd rfl h
  | cons i l =>
    obtain ⟨h1, h2⟩ := foldl_max_ge l i
    refine ⟨?_, fun x hx => ?_⟩
    · rcases foldl_max_mem l i with e | e
      · show l.foldl max i ∈ i :: l
        rw [e]; exact List.mem_cons_self
      · exact List.mem_cons_of_mem _ e
    · rcases List.mem_cons.mp hx with rfl | hx
      · exact h1
      · exact h2 x hx
theorem minL_spec {is : List Int} (h : is ≠ []) : minL is ∈ is ∧ ∀ x ∈ is, minL is ≤ x := by
  cases is with
  | nil => exact absurd rfl h
  | cons i l =>
    obtain ⟨h1, h2⟩ := foldl_min_le l i
    refine ⟨?_, fun x hx => ?_⟩
    · rcases foldl_min_mem l i with e | e
      · show l.foldl min i ∈ i :: l
        rw [e]; exact List.mem_cons_self
      · exact List.mem_cons_of_mem _ e
    · rcases List.mem_cons.mp hx with rfl | hx
      · exact h1
      · exact h2 x hx
theorem lst_ints {ι : List Addr} {H : Hp} {S : Sto} {d : D} {v : V} {is : List Int} (s : Sim K ι H S) (r : RepV K ι H d v) (e : (lstOf S d).bind intsOf = some is) : ∃ p, v = .ref p ∧ SqL K H p (is.map V.int) := by
  cases h : lstOf S d with
  | none => rw [h] at e; cases e
  | some ds =>
    rw [h] at e
    obtain ⟨p, vs, rfl, q, rl⟩ := lst_at s r h
    rw [intsOf_rep _ _ _ rl e] at q
    exact ⟨p, rfl, SqL.of q⟩
theorem c_max (hc : X.calm = true) : CallR X (.builtin "max") (fun xs H Q => (∃ i j, xs = [.int i, .int j] ∧ Q (.int (if j > i then j else i)) H) ∨ rMax X.K xs H Q) := CallR.or (call_max2 hc) (cr_max hc)
theorem c_min (hc : X.calm = true) : CallR X (.builtin "min") (fun xs H Q => (∃ i j, xs = [.int i, .int j] ∧ Q (.int (if j < i then j else i)) H) ∨ rMin X.K xs H Q) := CallR.or (call_min2 hc) (cr_min hc)
theorem k_max : CallK K (fun xs H Q => (∃ i j, xs = [.int i, .int j] ∧ Q (.int (if j > i then j else i)) H) ∨ rMax K xs H Q) bMax := by
  intro W σ ι H S vs ds Q s rl h
  unfold bMax at h
  (try unfold ifp at h); split at h
  · rename_i i j
    obtain ⟨v, u, rfl, rv, ru⟩ := RepL.two_inv rl
    refine .inl ⟨i, j, by rw [int_at rv, int_at ru], ?_⟩
    have : (if j > i then j else i) = max i j := by split <;> omega
    rw [this]
    exact h.here s _ int_rep
  · obtain ⟨v, rfl, rv⟩ := RepL.one_inv rl
    (try unfold ifp at h); split at h
    · rename_i is hi
      (try unfold ifp at h); split at h
      · exact h.elim
      · rename_i hne
        obtain ⟨p, rfl, q⟩ := lst_ints s rv hi
        obtain ⟨m1, m2⟩ := maxL_spec hne
        refine .inr ⟨p, is, rfl, q, List.length_pos_iff.mpr hne, fun m hm hle => ?_⟩
        have : m = maxL is := by have := hle _ m1; have := m2 _ hm; omega
        rw [this]
        exact h.here s _ int_rep
    · exact h.elim
  · exact h.elim
theorem k_min : CallK K (fun xs H Q => (∃ i j, xs = [.int i, .int j] ∧ Q (.int (if j < i then j else i)) H) ∨ rMin K xs H Q) bMin := by
  intro W σ ι H S vs ds Q s rl h
  unfold bMin at h
  (try unfold ifp at h); split at h
  · rename_i i j
    obtain ⟨v, u, rfl, rv, ru⟩ := RepL.two_inv rl
    refine .inl ⟨i, j, by rw [int_at rv, int_at ru], ?_⟩
    have : (if j < i then j else i) = min i j := by split <;> omega
    rw [this]
    exact h.here s _ int_rep
  · obtain ⟨v, rfl, rv⟩ := RepL.one_inv rl
    (try unfold ifp at h); split at h
    · rename_i is hi
      (try unfold ifp at h); split at h
      · exact h.elim
      · rename_i hne
        obtain ⟨p, rfl, q⟩ := lst_ints s rv hi
        obtain ⟨m1, m2⟩ := minL_spec hne
        refine .inr ⟨p, is, rfl, q, List.length_pos_iff.mpr hne, fun m hm hle => ?_⟩
        have : m = minL is := by have := hle _ m1; have := m2 _ hm; omega
        rw [this]
        exact h.here s _ int_rep
    · exact h.elim
  · exact h.elim
def bList (mk : List D → Sto → R D) : Fn := fun ds S => match ds with
  | [d] => (match seqOf S d with
    | some xs => mk xs S
    | none => .stuck)
  | _ => .stuck
theorem k_list {mk : List D → Sto → R D} (m : MkOk mk) : CallK K (fun xs H Q => ∃ p ys, xs = [.ref p] ∧ (SqL K H p ys ∨ SqT K H p ys) ∧ ∀ l, H l = none → Q (.ref l) (upd H l (.lst ys))) (bList mk) := by
  intro W σ ι H S vs ds Q s rl h
  unfold bList at h
  (try unfold ifp at h); split at h
  · obtain ⟨v, rfl, rv⟩ := RepL.one_inv rl
    (try unfold ifp at h); split at h
    · rename_i xs hx
      obtain ⟨p, vs, rfl, q, rq⟩ := seq_at s rv hx
      exact ⟨p, vs, rfl, q, m _ _ _ _ _ _ _ _ _ h s rq⟩
    · exact h.elim
  · exact h.elim
def bTuple : Fn := fun ds S => match ds with
  | [d] => (match seqOf S d with
    | some xs => .ok (.tup xs) S
    | none => .stuck)
  | _ => .stuck
theorem k_tuple : CallK K (fun xs H Q => ∃ p ys, xs = [.ref p] ∧ ((SqL K H p ys ∧ ∀ l, H l = none → Q (.ref l) (upd H l (.tup ys))) ∨ (SqT K H p ys ∧ Q (.ref p) H))) bTuple := by
  intro W σ ι H S vs ds Q s rl h
  match ds, rl, h with
  | [], rl, h => exact (show False from h).elim
  | _ :: _ :: _, rl, h => exact (show False from h).elim
  | [d], rl, h =>
    obtain ⟨v, rfl, rv⟩ := RepL.one_inv rl
    replace h : Post K W σ ι H (match seqOf S d with
      | some xs => .ok (.tup xs) S
      | none => .stuck) (fun d _ ι' H' => ∀ v, RepV K ι' H' d v → Q v H') := h
    cases d with
    | tup ys =>
      have rv' := rv
      obtain ⟨p, vs, rfl, q, rq⟩ := tup_at rv
      exact ⟨p, vs, rfl, .inr ⟨q, Post.here (a := D.tup ys) h s _ rv'⟩⟩
    | fl ys =>
      rw [RepV] at rv
      obtain ⟨a, us, rfl, t, rl'⟩ := rv
      exact ⟨a, us, rfl, .inl ⟨t.sq, new_tup h s rl'⟩⟩
    | kl ys =>
      rw [RepV] at rv
      obtain ⟨a, us, rfl, t, rl'⟩ := rv
      exact ⟨a, us, rfl, .inl ⟨t.sq, new_tup h s rl'⟩⟩
    | loc n =>
      rw [RepV] at rv
      obtain ⟨a, ea, rfl⟩ := rv
      cases hq : getQ S n with
      | none =>
        have e : seqOf S (.loc n) = none := hq
        rw [e] at h; exact h.elim
      | some ys =>
        have e : seqOf S (.loc n) = some ys := hq
        rw [e] at h
        obtain ⟨us, z, rl'⟩ := loc_at s ea hq
        exact ⟨a, us, rfl, .inl ⟨z, new_tup h s rl'⟩⟩
    | _ => exact (show False from h).elim
def tyOf (S : Sto) : D → Option String
  | .non => some "NoneType"
  | .bl _ => some "bool"
  | .int _ => some "int"
  | .str _ => some "str"
  | .tup _ => some "tuple"
  | .fl _ => some "list"
  | .fd _ => some "dict"
  | .kl _ => none
  | .ktp _ => none
  | .ztp _ => none
  | .loc n => (match S[n]? with
    | some (.lst _) => some "list"
    | some (.dct _) => some "dict"
    | _ => none)
  | .ty _ => none
  | .fn _ => none
  | .exc _ _ => none
theorem ty_at {ι : List Addr} {H : Hp} {S : Sto} {d : D} {v : V} {t : String} (s : Sim K ι H S) (r : RepV K ι H d v) (e : tyOf S d = some t) : TyX K H v (.type t) := by
  cases d with
  | non => rw [RepV] at r; cases e; subst r; exact .base .non
  | bl b => rw [RepV] at r; cases e; subst r; exact .base (.bl b)
  | int b => rw [RepV] at r; cases e; subst r; exact .base (.int b)
  | str b => rw [RepV] at r; cases e; subst r; exact .base (.str b)
  | tup ds =>
    cases e
    rw [RepV] at r
    obtain ⟨a, vs, rfl, tt, rl⟩ := r
    rcases tt with tt | ⟨o, tt⟩ | tt | ⟨o, its, n, h1, h2, _⟩
    · exact .base (.tup tt.2)
    · exact .fTuple tt
    · exact (no_rd tt).elim
    · exact .kTuple h1 h2
  | fl ds =>
    cases e
    rw [RepV] at r
    obtain ⟨a, vs, rfl, tt, rl⟩ := r
    exact .base (.lst tt.2)
  | fd ds =>
    cases e
    rw [RepV] at r
    obtain ⟨a, vs, rfl, tt, h1, rl⟩ := r
    exact .base (.dK h1)
  | loc n =>
    rw [RepV] at r
    obtain ⟨a, ea, rfl⟩ := r
    have e : (match S[n]? with
      | some (.lst _) => some "list"
      | some (.dct _) => some "dict"
      | _ => none) = some t := e
    (try unfold ifp at e); split at e
    · rename_i q
      cases e
      obtain ⟨vs, h1, _⟩ := s.ob _ _ _ ea q
      exact .base (.lst h1)
    · rename_i q
      cases e
      obtain ⟨vs, h1, _⟩ := s.ob _ _ _ ea q
      exact .base (.dK h1)
    · cases e
  | ty b => cases e
  | kl b => cases e
  | ktp b => cases e
  | ztp b => cases e
  | fn b => cases e
  | exc c b => cases e
def bIsi : Fn := fun ds S => match ds with
  | [d, .ty c] => (match tyOf S d with
    | some t => (match kitB t c with
      | some b => .ok (.bl b) S
      | none => .stuck)
    | none => .stuck)
  | _ => .stuck
theorem k_isi : CallK K (rIsi K) bIsi := by
  intro W σ ι H S vs ds Q s rl h
  unfold bIsi at h
  (try unfold ifp at h); split at h
  · obtain ⟨v, u, rfl, rv, ru⟩ := RepL.two_inv rl
    rw [RepV] at ru
    (try unfold ifp at h); split at h
    · rename_i t ht
      (try unfold ifp at h); split at h
      · rename_i b hb
        refine ⟨v, u, .type t, .type _, b, rfl, ?_, ty_at s rv ht, kit_ty hb, h.here s _ bl_rep⟩
        subst ru
        exact .ty _
      · exact h.elim
    · exact h.elim
  · exact h.elim
end
section
variable {X : Cx} {W : WX} {pos : Pos} {a b c : Expr}
def eNeg (f : Ev → Sto → R D) : Ev → Sto → R D := fun ρ S => (f ρ S).bind fun d S1 => (iOf d S1).bind fun i S2 => .ok (.int (-i)) S2
def eChain (o o' : D → D → Sto → R D) (f g h : Ev → Sto → R D) : Ev → Sto → R D := fun ρ S => (f ρ S).bind fun x S1 => (g ρ S1).bind fun y S2 => (o x y S2).bind fun z S3 => (bOf z S3).bind fun k S4 => if k = true then (h ρ S4).bind fun w S5 => o' y w S5 else .ok (.bl false) S4
theorem chain_read {r r' : R2} {o o' : D → D → Sto → R D} {f g h : Ev → Sto → R D} (k : OpK X.K r o) (k' : OpK X.K r' o') : ∀ σ H Q, rdE X.K W (eChain o o' f g h) σ H Q → tChain r r' (rdE X.K W f) (rdE X.K W g) (rdE X.K W h) σ H Q := fun σ H Q ⟨ι, ρ, S, hE, hS, q⟩ => by
  refine ⟨ι, ρ, S, hE, hS, (Post.bind q).mono fun x S1 ι1 H1 G1 s1 h1 vx rx => ?_⟩
  refine ⟨ι1, ρ, S1, hE.grow G1, s1, (Post.bind h1).mono fun y S2 ι2 H2 G2 s2 h2 vy ry => ?_⟩
  refine k W σ ι2 H2 S2 vx vy x y _ s2 (RepV.grow G2 _ _ rx) ry ((Post.bind h2).mono fun z S3 ι3 H3 G3 s3 h3 vz rz => ?_)
  obtain ⟨b, e, h4⟩ := bOf_bind h3 s3 rz
  refine ⟨b, e, ?_⟩
  have hE3 := ((hE.grow G1).grow G2).grow G3
  cases b with
  | false => rw [if_neg (by decide)] at h4 ⊢; exact h4.here s3 _ bl_rep
  | true =>
    rw [if_pos rfl] at h4 ⊢
    refine ⟨ι3, ρ, S3, hE3, s3, (Post.bind h4).mono fun w S4 ι4 H4 G4 s4 h5 vw rw' => ?_⟩
    exact k' W σ ι4 H4 S4 vy vw y w Q s4 (RepV.grow G4 _ _ (RepV.grow G3 _ _ ry)) rw' h5
theorem de_chain {op op' : CmpOp} {r r' : R2} {o o' : D → D → Sto → R D} {f g h : Ev → Sto → R D} (ho : OpR X (compareOp op) r) (k : OpK X.K r o) (ho' : OpR X (compareOp op') r') (k' : OpK X.K r' o') (ha : DE X W a f) (hb : DE X W b g) (hc : DE X W c h)
    (hm : lastMarks [op, op'] [b, c] = false := by with_unfolding_all rfl) : DE X W (.Compare a [op, op'] [b, c] pos) (eChain o o' f g h) := PE.imp (pe_chain ho ho' ha hb hc hm) (chain_read k k')
end
end DL
namespace DL
open PySem PySem.Spec L2
open PyProof.Rows hiding St
abbrev Mt := D → List D → Sto → R D
def MtK (K : PySem.W.Frag) (r : V → List V → Hp → VK → Prop) (m : Mt) : Prop := ∀ (W : WX) (σ : St) (ι : List Addr) (H : Hp) (S : Sto) (x : V) (vs : List V) (a : D) (ds : List D) (Q : VK), Sim K ι H S → RepV K ι H a x → RepL K ι H ds vs →
  Post K W σ ι H (m a ds S) (fun d _ ι' H' => ∀ v, RepV K ι' H' d v → Q v H') → r x vs H Q
def isLst (S : Sto) (d : D) : Bool := (lstOf S d).isSome
def eMt (c : Sto → D → Bool) (m : Mt) (f : Ev → Sto → R D) (g : Ev → Sto → R (List D)) : Ev → Sto → R D := fun ρ S => (f ρ S).bind fun a S1 => if c S1 a = true then (g ρ S1).bind fun ds S2 => m a ds S2 else .stuck
def ChkOk (T : String) (c : Sto → D → Bool) : Prop := ∀ (K : PySem.W.Frag) (ι : List Addr) (H : Hp) (S : Sto) (d : D) (x : V), Sim K ι H S → RepV K ι H d x → c S d = true → tyV K T x H
theorem chk_lst : ChkOk "list" isLst := fun K ι H S d x s r h => by
  unfold isLst at h
  cases e : lstOf S d with
  | none => rw [e] at h; cases h
  | some ds =>
    obtain ⟨p, vs, rfl, q, _⟩ := lst_at s r e
    exact .inl ⟨rfl, vs, SqL.of q⟩
section
variable {X : Cx} {W : WX} {o e : Expr} {es : List Expr} {apos cpos : Pos} {T id : String} {name : Str} {r : V → List V → Hp → VK → Prop} {c : Sto → D → Bool} {m : Mt} {f : Ev → Sto → R D} {g : Ev → Sto → R (List D)}
theorem de_bm (pa : PlainAttrs T) (slot : Slot T name id) (hty : typeOf (.builtin id) = pure (.type "method_descriptor")) (hm : MtR X id r) (k : MtK X.K r m) (hc : ChkOk T c) (ho : DE X W o f) (ha : DA X W (e :: es) g)
    (hbase : attributeBase o name X.env (eval o X.env) = eval o X.env := by rfl)
    (hfew : ((backTo cpos (starEach (e :: es) X.env)).all (fun x => !x.1) && (backToKw cpos (keywordEach [] X.env)).all (fun x => x.1.isSome)
      && decide ((e :: es).length + ([] : List Keyword).length + (if ([] : List Keyword).isEmpty then 0 else 1) < 30)) = true := by rfl)
    (hline : (apos.endLine == cpos.line) = true := by rfl) (hs : starEach (e :: es) X.env = (false, eval e X.env) :: starEach es X.env := by rfl)
    (hplain : (backTo cpos (starEach es X.env)).any (·.1) = false := by rfl) : DE X W (.Call (.Attribute o name apos) (e :: es) [] cpos) (eMt c m f g) := by
  refine PE.imp (pe_bm pa slot hty hm ho ha hbase hfew hline hs hplain) fun σ H Q ⟨ι, ρ, S, hE, hS, h⟩ => ⟨ι, ρ, S, hE, hS, (Post.bind h).mono fun a S1 ι1 H1 G1 s1 h1 x rx => ?_⟩
  (try unfold ifp at h1); split at h1
  · rename_i hh
    refine ⟨hc _ _ _ _ _ _ s1 rx hh, ι1, ρ, S1, hE.grow G1, s1, (Post.bind h1).mono fun ds S2 ι2 H2 G2 s2 h2 vs rs => ?_⟩
    exact k W σ ι2 H2 S2 x vs a ds Q s2 (RepV.grow G2 _ _ rx) rs h2
  · exact h1.elim
end
section
variable {X : Cx} {K : PySem.W.Frag}
noncomputable def mAppend : Mt := fun o ds S => match o, ds with
  | .loc n, [y] => (match getL S n with
    | some xs => ifp (xs.length < sizeLine) (.ok .non (S.set n (.lst (xs ++ [y])))) .stuck
    | none => .stuck)
  | _, _ => .stuck
/-- a list of the store is changed -/
theorem loc_put {W : WX} {σ : St} {ι : List Addr} {H : Hp} {S : Sto} {n : Nat} {a : Addr} {xs : List D} {ys : List D} {us : List V} {d : D} {Q : VK} {v : V} (h : Post K W σ ι H (.ok d (S.set n (.lst ys))) fun d _ ι' H' => ∀ v, RepV K ι' H' d v → Q v H') (s : Sim K ι H S) (ea : ι[n]? = some a)
    {u0 : List V} (hu : H a = some (.lst u0)) (rl : RepL K ι H ys us) (rv : RepV K ι H d v) : Q v (upd H a (.lst us)) :=
  have G := Grow.put (H := H) (o := .lst us) (List.mem_of_getElem? ea) hu (fun _ _ z => by cases z)
  h ι _ G (s.put (b := .lst ys) ea hu (fun _ _ z => by cases z) ⟨us, upd_same, RepL.grow G _ _ rl⟩) v (RepV.grow G _ _ rv)
theorem k_append : MtK K rAppend mAppend := by
  intro W σ ι H S x vs a ds Q s rx rl h
  unfold mAppend at h
  (try unfold ifp at h); split at h
  · (try unfold ifp at h); split at h
    · rename_i xs hL
      (try unfold ifp at h); split at h
      · rename_i hz
        obtain ⟨y, rfl, ry⟩ := RepL.one_inv rl
        rw [RepV] at rx
        obtain ⟨p, ea, rfl⟩ := rx
        obtain ⟨us, h1, h2⟩ := s.ob _ _ _ ea (getL_some hL)
        exact ⟨p, us, y, rfl, rfl, h1, by rw [← RepL.length _ _ h2]; exact hz, loc_put (xs := xs) h s ea h1 (RepL.app _ _ h2 _ _ (RepL.one ry)) non_rep⟩
      · exact h.elim
    · exact h.elim
  · exact h.elim
noncomputable def mExtend : Mt := fun o ds S => match o, ds with
  | .loc n, [y] => (match getL S n, lstOf S y with
    | some xs, some ys => ifp (xs.length + ys.length ≤ sizeLine) (.ok .non (S.set n (.lst (xs ++ ys)))) .stuck
    | _, _ => .stuck)
  | _, _ => .stuck
theorem k_extend : MtK K rExtend mExtend := by
  intro W σ ι H S x vs a ds Q s rx rl h
  unfold mExtend at h
  (try unfold ifp at h); split at h
  · (try unfold ifp at h); split at h
    · rename_i xs ys hL hy
      (try unfold ifp at h); split at h
      · rename_i hz
        obtain ⟨y, rfl, ry⟩ := RepL.one_inv rl
        rw [RepV] at rx
        obtain ⟨p, ea, rfl⟩ := rx
        obtain ⟨us, h1, h2⟩ := s.ob _ _ _ ea (getL_some hL)
        obtain ⟨q, ws, rfl, h3, h4⟩ := lst_at s ry hy
        exact ⟨p, q, us, ws, rfl, rfl, h1, h3, by rw [← RepL.length _ _ h2, ← RepL.length _ _ h4]; exact hz, loc_put (xs := xs) h s ea h1 (RepL.app _ _ h2 _ _ h4) non_rep⟩
      · exact h.elim
    · exact h.elim
  · exact h.elim
theorem RepL.dropLast {ι : List Addr} {H : Hp} {ds : List D} {vs : List V} (h : RepL K ι H ds vs) : RepL K ι H ds.dropLast vs.dropLast := by
  rw [List.dropLast_eq_take, List.dropLast_eq_take, ← RepL.length _ _ h]
  exact RepL.take _ _ _ h
noncomputable def mPopAt : Mt := fun o ds S => match o, ds with
  | .loc n, [.int i] => (match getL S n with
    | some xs => ifp (-(2 ^ 63) ≤ i ∧ i < 2 ^ 63) (match seqIndex? i xs.length with
        | some k => (match xs[k]? with
          | some y => .ok y (S.set n (.lst (xs.eraseIdx k)))
          | none => .stuck)
        | none => .stuck) .stuck
    | none => .stuck)
  | _, _ => .stuck
theorem RepL.erase {ι : List Addr} {H : Hp} : ∀ (ds : List D) (vs : List V) (k : Nat), RepL K ι H ds vs → RepL K ι H (ds.eraseIdx k) (vs.eraseIdx k)
  | [], _, k, h => by rw [RepL] at h; subst h; simp [RepL]
  | d :: ds, _, 0, h => by
    rw [RepL] at h
    obtain ⟨v, r, rfl, a, b⟩ := h
    exact b
  | d :: ds, _, k + 1, h => by
    rw [RepL] at h
    obtain ⟨v, r, rfl, a, b⟩ := h
    exact RepL.cons a (RepL.erase ds r k b)
theorem k_popAt : MtK K rPopAt mPopAt := by
  intro W σ ι H S x vs a ds Q s rx rl h
  unfold mPopAt at h
  (try unfold ifp at h); split at h
  · rename_i n i
    (try unfold ifp at h); split at h
    · rename_i xs hL
      (try unfold ifp at h); split at h
      · rename_i hi
        (try unfold ifp at h); split at h
        · rename_i k hk
          (try unfold ifp at h); split at h
          · rename_i y hy
            obtain ⟨u, rfl, ru⟩ := RepL.one_inv rl
            rw [RepV] at rx
            obtain ⟨p, ea, rfl⟩ := rx
            obtain ⟨us, h1, h2⟩ := s.ob _ _ _ ea (getL_some hL)
            obtain ⟨v, hv, rv⟩ := RepL.get _ _ h2 _ _ hy
            refine ⟨p, us, i, k, v, rfl, by rw [int_at ru], h1, hi.1, hi.2, by rw [← RepL.length _ _ h2]; exact hk, hv, loc_put (xs := xs) h s ea h1 (RepL.erase _ _ _ h2) rv⟩
          · exact h.elim
        · exact h.elim
      · exact h.elim
    · exact h.elim
  · exact h.elim
end
/-- the name of a built-in class as a value -/
theorem de_bty {X : Cx} {W : WX} {x : Str} {T : String} {pos : Pos} (hm : X.mg x = none) (hv : bootBuiltins x = some (.type T)) (hg : Gl X x := by rfl) (hn : x ≠ "__name__" := by decide) (hd : (x == ("__debug__" : Str)) = false := by decide) : DE X W (.Name x pos) (eC (.ty T)) :=
  de_c (pe_bltn (v := .ty T) hg hm hv rfl hn hd) fun _ _ => by rw [RepV]
end DL
namespace DL
open PySem PySem.Spec L2
open PyProof.Rows hiding St
/-- what a law's function must give -/
def LawOk (F : Fn) : Prop := ∀ ns : List Int, ns.length ≤ 63 → (∀ z ∈ ns, Builtin.Int.intBits z ≤ 1048576) → ∃ S', F [.kl (ns.map D.int)] [] = .ok (.bl true) S'
theorem repL_ints {K : PySem.W.Frag} {ι : List Addr} {H : Hp} (ns : List Int) : RepL K ι H (ns.map D.int) (ns.map V.int) := by
  induction ns with
  | nil => exact RepL.nil
  | cons n ns ih => exact RepL.cons int_rep ih
end DL
namespace DL
open PySem PySem.Spec L2
open PyProof.Rows hiding St
section
variable {K : PySem.W.Frag}
theorem k_lt : OpK K (rI0 fun i j => .bl (decide (i < j))) dLt := k_cmp
theorem k_le : OpK K (rI0 fun i j => .bl (decide (i ≤ j))) dLe := k_cmp
theorem k_gt : OpK K (rI0 fun i j => .bl (decide (j < i))) dGt := k_cmp
theorem k_ge : OpK K (rI0 fun i j => .bl (decide (j ≤ i))) dGe := k_cmp
end
def sPar3 (i j l : Nat) (g : Ev → Sto → R (List D)) : Ev → Sto → SR := fun ρ S => (g ρ S).toS ρ fun ds S1 => match ds with
  | [a, b, c] => .nx (((ρ.set i (some a)).set j (some b)).set l (some c)) S1
  | _ => .stuck
end DL
namespace DL
open PySem PySem.Spec L2
open PyProof.Rows hiding St
theorem dAdd_int (i j : Int) (S : Sto) : dAdd (.int i) (.int j) S = .ok (.int (i + j)) S := rfl
theorem dLt_int (i j : Int) (S : Sto) : dLt (.int i) (.int j) S = .ok (.bl (decide (i < j))) S := rfl
theorem dLe_int (i j : Int) (S : Sto) : dLe (.int i) (.int j) S = .ok (.bl (decide (i ≤ j))) S := rfl
theorem dGt_int (i j : Int) (S : Sto) : dGt (.int i) (.int j) S = .ok (.bl (decide (j < i))) S := rfl
theorem dGe_int (i j : Int) (S : Sto) : dGe (.int i) (.int j) S = .ok (.bl (decide (j ≤ i))) S := rfl
theorem dAddI_int (i j : Int) (S : Sto) : dAddI (.int i) (.int j) S = .ok (.int (i + j)) S := rfl
theorem dSubI_int (i j : Int) (S : Sto) : dSubI (.int i) (.int j) S = .ok (.int (i - j)) S := rfl
theorem dSub_int (i j : Int) (S : Sto) : dSub (.int i) (.int j) S = .ok (.int (i - j)) S := rfl
theorem dMod_int (i j : Int) (S : Sto) : dMod (.int i) (.int j) S = if 0 < j then .ok (.int (i % j)) S else .stuck := rfl
theorem dFdiv_int (i j : Int) (S : Sto) : dFdiv (.int i) (.int j) S = ifp (0 < j ∧ j.natAbs.log2 < 9000) (.ok (.int (i / j)) S) .stuck := rfl
theorem dPow_ok {i j : Int} (h : 0 ≤ j ∧ j ≤ 1000000 ∧ i.natAbs < 2 ^ 64) (S : Sto) : dPow (.int i) (.int j) S = .ok (.int (i ^ j.toNat)) S := ifp_pos h
theorem dIsN_non (n : Bool) (a : D) (S : Sto) : dIsN n a .non S = .ok (.bl (if n then !isN a else isN a)) S := rfl
theorem ll0 : (0 ≤ sizeLine) = True := eq_true (by decide)
theorem ll1 : (1 ≤ sizeLine) = True := eq_true (by decide)
theorem ll2 : (2 ≤ sizeLine) = True := eq_true (by decide)
theorem ll3 : (3 ≤ sizeLine) = True := eq_true (by decide)
theorem ll4 : (4 ≤ sizeLine) = True := eq_true (by decide)
theorem ll5 : (5 ≤ sizeLine) = True := eq_true (by decide)
theorem ll6 : (6 ≤ sizeLine) = True := eq_true (by decide)
theorem ll7 : (7 ≤ sizeLine) = True := eq_true (by decide)
theorem ll8 : (8 ≤ sizeLine) = True := eq_true (by decide)
theorem ll9 : (9 ≤ sizeLine) = True := eq_true (by decide)
theorem ll10 : (10 ≤ sizeLine) = True := eq_true (by decide)
theorem ll11 : (11 ≤ sizeLine) = True := eq_true (by decide)
theorem ll12 : (12 ≤ sizeLine) = True := eq_true (by decide)
theorem ll13 : (13 ≤ sizeLine) = True := eq_true (by decide)
theorem ll14 : (14 ≤ sizeLine) = True := eq_true (by decide)
theorem ll15 : (15 ≤ sizeLine) = True := eq_true (by decide)
theorem ll16 : (16 ≤ sizeLine) = True := eq_true (by decide)
theorem ll17 : (17 ≤ sizeLine) = True := eq_true (by decide)
theorem ll18 : (18 ≤ sizeLine) = True := eq_true (by decide)
theorem ll19 : (19 ≤ sizeLine) = True := eq_true (by decide)
theorem ll20 : (20 ≤ sizeLine) = True := eq_true (by decide)
theorem ll21 : (21 ≤ sizeLine) = True := eq_true (by decide)
theorem ll22 : (22 ≤ sizeLine) = True := eq_true (by decide)
theorem ll23 : (23 ≤ sizeLine) = True := eq_true (by decide)
theorem ll24 : (24 ≤ sizeLine) = True := eq_true (by decide)
theorem ll25 : (25 ≤ sizeLine) = True := eq_true (by decide)
theorem ll26 : (26 ≤ sizeLine) = True := eq_true (by decide)
theorem ll27 : (27 ≤ sizeLine) = True := eq_true (by decide)
theorem ll28 : (28 ≤ sizeLine) = True := eq_true (by decide)
theorem ll29 : (29 ≤ sizeLine) = True := eq_true (by decide)
theorem ll30 : (30 ≤ sizeLine) = True := eq_true (by decide)
theorem ll31 : (31 ≤ sizeLine) = True := eq_true (by decide)
theorem ll32 : (32 ≤ sizeLine) = True := eq_true (by decide)
theorem ll33 : (33 ≤ sizeLine) = True := eq_true (by decide)
theorem ll34 : (34 ≤ sizeLine) = True := eq_true (by decide)
theorem ll35 : (35 ≤ sizeLine) = True := eq_true (by decide)
theorem ll36 : (36 ≤ sizeLine) = True := eq_true (by decide)
theorem ll37 : (37 ≤ sizeLine) = True := eq_true (by decide)
theorem ll38 : (38 ≤ sizeLine) = True := eq_true (by decide)
theorem ll39 : (39 ≤ sizeLine) = True := eq_true (by decide)
theorem ll40 : (40 ≤ sizeLine) = True := eq_true (by decide)
theorem pyL_ints (l : List Int) : pyL (l.map D.int) = some (l.map PyData.int) := by
  induction l with
  | nil => rfl
  | cons i l ih => simp [pyL, py, ih]
theorem canLayAll_ints (l : List Int) : PyData.canLayAll0 (l.map PyData.int) = true := by
  induction l with
  | nil => rfl
  | cons i l ih => simp [PyData.canLayAll0, PyData.canLay0, ih]
theorem depthAll_ints (l : List Int) : PyData.depthAll (l.map PyData.int) = 0 := by
  induction l with
  | nil => rfl
  | cons i l ih => simp [PyData.depthAll, PyData.depth, ih]
theorem shaped_ints (l : List Int) : SeqAt.shaped (.list (l.map PyData.int)) = true := by
  simp [SeqAt.shaped, PyData.canLay0, canLayAll_ints, PyData.depth, depthAll_ints]
theorem shaped_int (i : Int) : SeqAt.shaped (.int i) = true := by
  simp [SeqAt.shaped, PyData.canLay0, PyData.depth]
theorem shaped_nilL : SeqAt.shaped (.list []) = true := by decide
theorem dEq_int (n : Bool) (i j : Int) (S : Sto) : dEq n (.int i) (.int j) S = .ok (.bl (if n then !(i == j) else i == j)) S := by
  simp [dEq, dEqP, pyS, py, shaped_int, PyData.eqv]
theorem dEqP_py {n : Bool} {a b : D} {S : Sto} {p q : PyData} (h1 : pyS S a = some p) (h2 : pyS S b = some q) (s1 : SeqAt.shaped p = true) (s2 : SeqAt.shaped q = true) : dEqP n a b S = .ok (.bl (if n then !PyData.eqv p q else PyData.eqv p q)) S := by
  unfold dEqP
  rw [h1, h2]
  show (if SeqAt.shaped p = true ∧ SeqAt.shaped q = true then _ else _) = _
  rw [if_pos ⟨s1, s2⟩]
theorem pyS_loc {S : Sto} {n : Nat} {l : List Int} (h : getQ S n = some (l.map D.int)) : pyS S (.loc n) = some (.list (l.map PyData.int)) := by
  show (getQ S n).bind (fun ds => (pyL ds).map PyData.list) = _
  rw [h]
  show (pyL (l.map D.int)).map PyData.list = _
  rw [pyL_ints]; rfl
/-- a list of ints of the store against [] -/
theorem dNe_loc_nil {S : Sto} {n : Nat} {l : List Int} (h : getQ S n = some (l.map D.int)) : dEq true (.loc n) (.fl []) S = .ok (.bl (!l.isEmpty)) S := by
  show dEqP true (.loc n) (.fl []) S = _
  rw [dEqP_py (pyS_loc h) (q := .list []) rfl (shaped_ints l) shaped_nilL]
  cases l <;> simp [PyData.eqv, PyData.eqvAll]
theorem rangeD_nat (n : Nat) : rangeD 0 n = (List.range n).map fun k => D.int (k : Nat) := by
  unfold rangeD
  congr 1
  funext k
  simp
theorem forD_nil {g : Sto → Prop} {T : Tg} {B Z : Ev → Sto → SR} {ρ : Ev} {S : Sto} (h : g S) : forD g T B Z [] ρ S = Z ρ S := by
  unfold forD; rw [if_pos h]
theorem forD_cons {g : Sto → Prop} {T : Tg} {B Z : Ev → Sto → SR} {d : D} {ds : List D} {ρ ρ1 ρ2 : Ev} {S S1 S2 : Sto} (h : g S) (hT : T d ρ S = some (ρ1, S1)) (hB : B ρ1 S1 = .nx ρ2 S2) : forD g T B Z (d :: ds) ρ S = forD g T B Z ds ρ2 S2 := by
  rw [forD, if_pos h, hT]; simp only [hB]
/-- a loop that goes through: P before each turn -/
theorem forD_all {T : Tg} {B Z : Ev → Sto → SR} (P : Nat → Ev → Sto → Prop) : ∀ (ds : List D) (i : Nat) (ρ : Ev) (S : Sto), P i ρ S →
    (∀ (j : Nat) (d : D) (ρ : Ev) (S : Sto), ds[j]? = some d → P (i + j) ρ S → ∃ ρ1 S1 ρ2 S2, T d ρ S = some (ρ1, S1) ∧ (B ρ1 S1 = .nx ρ2 S2 ∨ B ρ1 S1 = .ct ρ2 S2) ∧ P (i + j + 1) ρ2 S2) →
    ∃ ρ' S', P (i + ds.length) ρ' S' ∧ forD yes T B Z ds ρ S = Z ρ' S'
  | [], i, ρ, S, h, _ => ⟨ρ, S, h, forD_nil trivial⟩
  | d :: ds, i, ρ, S, h, step => by
    obtain ⟨ρ1, S1, ρ2, S2, hT, hB, h2⟩ := step 0 d ρ S rfl h
    obtain ⟨ρ', S', h3, e⟩ := forD_all P ds (i + 1) ρ2 S2 h2 fun j d' ρ S hj hp => by
      have e1 : i + (j + 1) = i + 1 + j := by omega
      have := step (j + 1) d' ρ S (by simpa using hj) (by rw [e1]; exact hp)
      rw [e1] at this
      exact this
    refine ⟨ρ', S', ?_, ?_⟩
    · have : i + (d :: ds).length = i + 1 + ds.length := by simp; omega
      rw [this]; exact h3
    · rw [forD, if_pos (show yes S from trivial), hT]
      rcases hB with hB | hB <;> (simp only [hB]; exact e)
mutual
def rok : D → Bool
  | .non => true
  | .bl _ => true
  | .int i => decide (i.natAbs.log2 < 1920)
  | .str x => x.cps.toList.all fun c => decide (c < 16 ^ 8)
  | .tup ds => rokL ds
  | .fl ds => rokL ds
  | .fd kvs => rokK kvs
  | .kl _ => false
  | .ktp _ => false
  | .ztp _ => false
  | .ty _ => false
  | .fn _ => false
  | .exc _ _ => false
  | .loc _ => false
def rokL : List D → Bool
  | [] => true
  | d :: ds => rok d && rokL ds
def rokK : List (Key × D) → Bool
  | [] => true
  | (k, d) :: ds => (match k with
    | .inl i => decide (i.natAbs.log2 < 1920)
    | .inr x => x.cps.toList.all fun c => decide (c < 16 ^ 8)) && rok d && rokK ds
end
mutual
def bulkD : D → Nat
  | .str x => x.cps.size
  | .tup ds => bulkL ds
  | .fl ds => bulkL ds
  | .fd kvs => bulkK kvs
  | .non => 0
  | .bl _ => 0
  | .int _ => 0
  | .kl _ => 0
  | .ktp _ => 0
  | .ztp _ => 0
  | .ty _ => 0
  | .fn _ => 0
  | .exc _ _ => 0
  | .loc _ => 0
def bulkL : List D → Nat
  | [] => 0
  | d :: ds => bulkD d + 1 + bulkL ds
def bulkK : List (Key × D) → Nat
  | [] => 0
  | (k, d) :: ds => (match k with
    | .inl _ => 0
    | .inr x => x.cps.size) + bulkD d + 2 + bulkK ds
end
mutual
def depD : D → Nat
  | .tup ds => depL ds + 1
  | .fl ds => depL ds + 1
  | .fd kvs => depK kvs + 1
  | .str _ => 0
  | .non => 0
  | .bl _ => 0
  | .int _ => 0
  | .kl _ => 0
  | .ktp _ => 0
  | .ztp _ => 0
  | .ty _ => 0
  | .fn _ => 0
  | .exc _ _ => 0
  | .loc _ => 0
def depL : List D → Nat
  | [] => 0
  | d :: ds => max (depD d) (depL ds)
def depK : List (Key × D) → Nat
  | [] => 0
  | (_, d) :: ds => max (depD d) (depK ds)
end
end DL
namespace DL
open PySem PySem.Spec L2
open PyProof.Rows hiding St
noncomputable def E1__law_stream (ρ : Ev) (S : Sto) : R D :=
  (eCall bAbs (aCons (eVar 2) aNil)) ρ S
noncomputable def E2__law_stream (ρ : Ev) (S : Sto) : R D :=
  (eVar 2) ρ S
noncomputable def Q1__law_stream (ρ : Ev) (S : Sto) : R Bool :=
  (eT (eOp dGe (eVar 2) (eOp dPow (eC (.int 10)) (eC (.int 18))))) ρ S
noncomputable def B__law_stream : Ev → Sto → SR :=
  (sSeq (sSet 1 (eLc finFl (iSeq (eVar 0)) (tN 2) [2] cYes E1__law_stream))
    (sRet (eLoc (aCons (eLc finLoc (iSeq (eVar 1)) (tN 2) [2] Q1__law_stream E2__law_stream) (aCons (eOp dAdd (eVar 1) (eFl (aCons (eOp dAdd (eCall bLen (aCons (eVar 1) aNil)) (eC (.int 17))) aNil))) (aCons (eC (.int 0)) aNil))))))
noncomputable def F__law_stream : Fn := fnC closeK 3 1 B__law_stream
noncomputable def C1__law_draw (ρ : Ev) (S : Sto) : R Bool :=
  (eT (eOp (dEq true) (eOp dIx (eVar 0) (eC (.int 0))) (eFl aNil))) ρ S
noncomputable def L1__law_draw (ρ : Ev) (S : Sto) : SR :=
  (sSeq (sSet 2 (eOp dIx (eOp dIx (eVar 0) (eC (.int 0))) (eC (.int 0))))
    (sSeq (sIf (eT (eOp dGt (eVar 2) (eC (.int 0)))) (sSeq (sAsg (eOp dFdiv (eVar 2) (eVar 1)) (tSub (eOp dIx (eVar 0) (eC (.int 0))) (eC (.int 0))))
    (sRet (eOp dMod (eVar 2) (eVar 1)))) sNil)
    (sExp (eMt isLst mPopAt (eOp dIx (eVar 0) (eC (.int 0))) (aCons (eC (.int 0)) aNil))))) ρ S
noncomputable def B__law_draw : Ev → Sto → SR :=
  (sSeq (whileD C1__law_draw L1__law_draw 4000)
    (sSeq (sSet 3 (eOp dAdd (eOp dIx (eVar 0) (eC (.int 2))) (eC (.int 1))))
    (sSeq (sAsg (eVar 3) (tSub (eVar 0) (eC (.int 2))))
    (sSeq (sSet 4 (eOp dMod (eOp dIx (eOp dIx (eVar 0) (eC (.int 1))) (eOp dMod (eVar 3) (eCall bLen (aCons (eOp dIx (eVar 0) (eC (.int 1))) aNil)))) (eC (.int 2147483587))))
    (sSeq (sSet 5 (eOp dMod (eOp dAdd (eOp dAdd (eOp dMul (eVar 4) (eOp dAdd (eC (.int 16807)) (eOp dMul (eC (.int 48271)) (eVar 3)))) (eOp dMul (eOp dMul (eC (.int 69621)) (eVar 3)) (eVar 3))) (eC (.int 5))) (eC (.int 2147483647))))
    (sRet (eOp dMod (eOp dFdiv (eOp dMod (eOp dMul (eVar 5) (eVar 5)) (eC (.int 2147483629))) (eC (.int 16))) (eVar 1))))))))
noncomputable def F__law_draw : Fn := fnC close 6 2 B__law_draw
noncomputable def B__law_pick : Ev → Sto → SR :=
  (sRet (eOp dIx (eVar 1) (eCall F__law_draw (aCons (eVar 0) (aCons (eCall bLen (aCons (eVar 1) aNil)) aNil)))))
noncomputable def F__law_pick : Fn := fnC close 2 2 B__law_pick
def strO (big cells : List Int) (t : Int) (rest : Sto) : Sto := .lst (big.map .int) :: .lst [.loc 0, .fl (cells.map .int), .int t] :: rest
structure StrOk (big cells : List Int) (t : Int) (n : Nat) : Prop where
  bigs : ∀ c ∈ big, 0 ≤ c
  cls : ∀ c ∈ cells, 0 ≤ c
  ne : cells ≠ []
  few : big.length ≤ 63
  t0 : 0 ≤ t
  tn : t ≤ n
/-- the stream stands in S, at most n mixed draws were made -/
def Strm (S : Sto) (n : Nat) (rest : Sto) : Prop := ∃ big cells t, S = strO big cells t rest ∧ StrOk big cells t n
theorem Strm.mono {S : Sto} {n m : Nat} {rest : Sto} (h : Strm S n rest) (hm : n ≤ m) : Strm S m rest := by
  obtain ⟨b, c, t, e, o⟩ := h
  exact ⟨b, c, t, e, o.bigs, o.cls, o.ne, o.few, o.t0, by have := o.tn; omega⟩
theorem getQ_lst0 (ds : List D) (S : Sto) : getQ (.lst ds :: S) 0 = some ds := rfl
theorem getQ_lst1 (o : Ob) (ds : List D) (S : Sto) : getQ (o :: .lst ds :: S) 1 = some ds := rfl
theorem getL_lst0 (ds : List D) (S : Sto) : getL (.lst ds :: S) 0 = some ds := rfl
theorem getL_lst1 (o : Ob) (ds : List D) (S : Sto) : getL (o :: .lst ds :: S) 1 = some ds := rfl
theorem dIx_loc {S : Sto} {n : Nat} {xs : List D} {i : Int} {d : D} (h : getQ S n = some xs) (e : atI xs i = some d) : dIx (.loc n) (.int i) S = .ok d S := by
  show (match seqOf S (.loc n) with
    | some xs => (match atI xs i with
      | some d => R.ok d S
      | none => .stuck)
    | none => .stuck) = _
  rw [show seqOf S (.loc n) = some xs from h]
  show (match atI xs i with
      | some d => R.ok d S
      | none => .stuck) = _
  rw [e]
theorem dIx_fl {S : Sto} {xs : List D} {i : Int} {d : D} (e : atI xs i = some d) : dIx (.fl xs) (.int i) S = .ok d S := by
  show (match atI xs i with
      | some d => R.ok d S
      | none => .stuck) = _
  rw [e]
theorem dIx_tup {S : Sto} {xs : List D} {i : Int} {d : D} (e : atI xs i = some d) : dIx (.tup xs) (.int i) S = .ok d S := by
  show (match atI xs i with
      | some d => R.ok d S
      | none => .stuck) = _
  rw [e]
theorem atI_nn {α : Type} {xs : List α} {i : Int} (h0 : 0 ≤ i) (h1 : i < xs.length) : atI xs i = xs[i.toNat]? := by
  unfold atI ixN
  rw [if_pos h0, if_pos h1]; rfl
theorem atI_map {xs : List Int} {i : Int} (h0 : 0 ≤ i) (h1 : i < xs.length) : ∃ z, z ∈ xs ∧ atI (xs.map D.int) i = some (.int z) := by
  have hi : i.toNat < xs.length := by omega
  refine ⟨xs[i.toNat], List.getElem_mem hi, ?_⟩
  rw [atI_nn h0 (by simpa using h1), List.getElem?_map, List.getElem?_eq_getElem hi]; rfl
theorem str_ix0 (big cells : List Int) (t : Int) (rest : Sto) : dIx (.loc 1) (.int 0) (strO big cells t rest) = .ok (.loc 0) (strO big cells t rest) := dIx_loc (getQ_lst1 _ _ _) rfl
theorem str_ix1 (big cells : List Int) (t : Int) (rest : Sto) : dIx (.loc 1) (.int 1) (strO big cells t rest) = .ok (.fl (cells.map .int)) (strO big cells t rest) := dIx_loc (getQ_lst1 _ _ _) rfl
theorem str_ix2 (big cells : List Int) (t : Int) (rest : Sto) : dIx (.loc 1) (.int 2) (strO big cells t rest) = .ok (.int t) (strO big cells t rest) := dIx_loc (getQ_lst1 _ _ _) rfl
theorem str_ne (big cells : List Int) (t : Int) (rest : Sto) : dEq true (.loc 0) (.fl []) (strO big cells t rest) = .ok (.bl (!big.isEmpty)) (strO big cells t rest) := dNe_loc_nil (getQ_lst0 _ _)
theorem str_get (b : Int) (big cells : List Int) (t : Int) (rest : Sto) : dIx (.loc 0) (.int 0) (strO (b :: big) cells t rest) = .ok (.int b) (strO (b :: big) cells t rest) := dIx_loc (getQ_lst0 _ _) (by simp [atI, ixN])
theorem str_set (b c : Int) (big cells : List Int) (t : Int) (rest : Sto) : dSet (.loc 0) (.int 0) (.int c) (strO (b :: big) cells t rest) = some (strO (c :: big) cells t rest) := by
  simp [dSet, strO, getL_lst0, ixN]
theorem str_pop (b : Int) (big cells : List Int) (t : Int) (rest : Sto) : mPopAt (.loc 0) [.int 0] (strO (b :: big) cells t rest) = .ok (.int b) (strO big cells t rest) := by
  have : seqIndex? 0 (big.length + 1) = some 0 := by simp [seqIndex?]
  have h2 : (-(2 ^ 63) : Int) ≤ 0 ∧ (0 : Int) < 2 ^ 63 := by decide
  simp [mPopAt, strO, getL_lst0, this, ifp_t]
theorem str_lst (big cells : List Int) (t : Int) (rest : Sto) : isLst (strO big cells t rest) (.loc 0) = true := rfl
theorem str_turn (big cells : List Int) (t u : Int) (rest : Sto) : dSet (.loc 1) (.int 2) (.int u) (strO big cells t rest) = some (strO big cells u rest) := by
  simp [dSet, strO, getL_lst1, ixN]
theorem close_same {S S' : Sto} {d : D} (h : S'.length = S.length) : close S d S' = .ok d S' := by
  unfold close; rw [if_pos h]
theorem draw_loop {m : Int} (hm : 0 < m) (hm2 : m.natAbs.log2 < 9000) (cells : List Int) (t : Int) (rest : Sto) (x3 x4 x5 : Option D) : ∀ (big : List Int) (k : Nat) (x2 : Option D), (∀ c ∈ big, 0 ≤ c) → big.length < k →
    (∃ r big', whileD C1__law_draw L1__law_draw k [some (.loc 1), some (.int m), x2, x3, x4, x5] (strO big cells t rest) = .rt (.int r) (strO big' cells t rest) ∧ 0 ≤ r ∧ r < m ∧ (∀ c ∈ big', 0 ≤ c) ∧ big'.length ≤ big.length) ∨
    (∃ x2', whileD C1__law_draw L1__law_draw k [some (.loc 1), some (.int m), x2, x3, x4, x5] (strO big cells t rest) = .nx [some (.loc 1), some (.int m), x2', x3, x4, x5] (strO [] cells t rest)) := by
  intro big
  induction big with
  | nil =>
    intro k x2 _ hk
    obtain ⟨k, rfl⟩ : ∃ j, k = j + 1 := ⟨k - 1, by omega⟩
    refine .inr ⟨x2, ?_⟩
    rw [whileD]
    simp only [eVar, eC, eOp, eT, eAnd, eOr, eNot, eIf, eAndV, eOrV, eNotV, eCall, aNil, aCons, aStar, sOf, eTup, eFl, eLoc, eSl, oNone, oSome, iOf, eNeg, eChain, eMt, bOf, List.lookup, R.bind_ok, R.bind_er, R.bind_stuck, R.toS_ok, R.toS_er, R.toS_stuck, SR.next_nx, SR.next_rt, SR.next_er, SR.next_bk, SR.next_ct, SR.next_stuck, sNil, sSeq, sBrk, sCnt, sExp, sRet, sRetN, sIf, sSet, sAsg, sAug, sPar2, sPar3, tN, DL.tTup, DL.tNil, DL.tCons, DL.tSub, iSeq, srcOf, iRange1, iRange2, sFor, startD, List.map_cons, List.map_nil, List.length_cons, List.length_nil, List.replicate, List.cons_append, List.nil_append, List.getElem?_cons_zero, List.getElem?_cons_succ, List.set_cons_zero, List.set_cons_succ, dSub_int, dFdiv_int, dMod_int, dLt_int, dLe_int, dGt_int, dGe_int, dAddI_int, dSubI_int, dIsN_non, isN, dAdd_int, ll0, ll1, ll2, ll3, ll4, ll5, ll6, ll7, ll8, ll9, ll10, ll11, ll12, ll13, ll14, ll15, ll16, ll17, ll18, ll19, ll20, ll21, ll22, ll23, ll24, ll25, ll26, ll27, ll28, ll29, ll30, ll31, ll32, ll33, ll34, ll35, ll36, ll37, ll38, ll39, ll40, Nat.reduceSub, Nat.reduceAdd, Nat.reduceEqDiff, if_true, if_false, ifp_t, ifp_f, reduceIte, Bool.true_eq_false, Bool.false_eq_true, Option.map_some, Option.map_none, Option.bind_some, Option.bind_none, C1__law_draw, L1__law_draw, str_ix0, str_ne, List.isEmpty_nil, Bool.not_true, Nat.zero_le]
  | cons b big ih =>
    intro k x2 hb hk
    obtain ⟨k, rfl⟩ : ∃ j, k = j + 1 := ⟨k - 1, by omega⟩
    have hb0 : 0 ≤ b := hb b List.mem_cons_self
    have hk' : big.length < k := by simp at hk; omega
    by_cases hpos : 0 < b
    · refine .inl ⟨b % m, (b / m) :: big, ?_, Int.emod_nonneg _ (by omega), Int.emod_lt_of_pos _ hm, fun c hc => ?_, by simp⟩
      · rw [whileD]
        simp only [eVar, eC, eOp, eT, eAnd, eOr, eNot, eIf, eAndV, eOrV, eNotV, eCall, aNil, aCons, aStar, sOf, eTup, eFl, eLoc, eSl, oNone, oSome, iOf, eNeg, eChain, eMt, bOf, List.lookup, R.bind_ok, R.bind_er, R.bind_stuck, R.toS_ok, R.toS_er, R.toS_stuck, SR.next_nx, SR.next_rt, SR.next_er, SR.next_bk, SR.next_ct, SR.next_stuck, sNil, sSeq, sBrk, sCnt, sExp, sRet, sRetN, sIf, sSet, sAsg, sAug, sPar2, sPar3, tN, DL.tTup, DL.tNil, DL.tCons, DL.tSub, iSeq, srcOf, iRange1, iRange2, sFor, startD, List.map_cons, List.map_nil, List.length_cons, List.length_nil, List.replicate, List.cons_append, List.nil_append, List.getElem?_cons_zero, List.getElem?_cons_succ, List.set_cons_zero, List.set_cons_succ, dSub_int, dFdiv_int, dMod_int, dLt_int, dLe_int, dGt_int, dGe_int, dAddI_int, dSubI_int, dIsN_non, isN, dAdd_int, ll0, ll1, ll2, ll3, ll4, ll5, ll6, ll7, ll8, ll9, ll10, ll11, ll12, ll13, ll14, ll15, ll16, ll17, ll18, ll19, ll20, ll21, ll22, ll23, ll24, ll25, ll26, ll27, ll28, ll29, ll30, ll31, ll32, ll33, ll34, ll35, ll36, ll37, ll38, ll39, ll40, Nat.reduceSub, Nat.reduceAdd, Nat.reduceEqDiff, if_true, if_false, ifp_t, ifp_f, reduceIte, Bool.true_eq_false, Bool.false_eq_true, Option.map_some, Option.map_none, Option.bind_some, Option.bind_none, C1__law_draw, L1__law_draw, str_ix0, str_ne, str_get, str_set, List.isEmpty_cons, Bool.not_false, hpos, decide_true, hm, hm2, and_self, Nat.zero_le]
      · rcases List.mem_cons.mp hc with rfl | hc
        · exact Int.ediv_nonneg hb0 (by omega)
        · exact hb c (List.mem_cons_of_mem _ hc)
    · have e : b = 0 := by omega
      subst e
      rw [whileD]
      simp only [eVar, eC, eOp, eT, eAnd, eOr, eNot, eIf, eAndV, eOrV, eNotV, eCall, aNil, aCons, aStar, sOf, eTup, eFl, eLoc, eSl, oNone, oSome, iOf, eNeg, eChain, eMt, bOf, List.lookup, R.bind_ok, R.bind_er, R.bind_stuck, R.toS_ok, R.toS_er, R.toS_stuck, SR.next_nx, SR.next_rt, SR.next_er, SR.next_bk, SR.next_ct, SR.next_stuck, sNil, sSeq, sBrk, sCnt, sExp, sRet, sRetN, sIf, sSet, sAsg, sAug, sPar2, sPar3, tN, DL.tTup, DL.tNil, DL.tCons, DL.tSub, iSeq, srcOf, iRange1, iRange2, sFor, startD, List.map_cons, List.map_nil, List.length_cons, List.length_nil, List.replicate, List.cons_append, List.nil_append, List.getElem?_cons_zero, List.getElem?_cons_succ, List.set_cons_zero, List.set_cons_succ, dSub_int, dFdiv_int, dMod_int, dLt_int, dLe_int, dGt_int, dGe_int, dAddI_int, dSubI_int, dIsN_non, isN, dAdd_int, ll0, ll1, ll2, ll3, ll4, ll5, ll6, ll7, ll8, ll9, ll10, ll11, ll12, ll13, ll14, ll15, ll16, ll17, ll18, ll19, ll20, ll21, ll22, ll23, ll24, ll25, ll26, ll27, ll28, ll29, ll30, ll31, ll32, ll33, ll34, ll35, ll36, ll37, ll38, ll39, ll40, Nat.reduceSub, Nat.reduceAdd, Nat.reduceEqDiff, if_true, if_false, ifp_t, ifp_f, reduceIte, Bool.true_eq_false, Bool.false_eq_true, Option.map_some, Option.map_none, Option.bind_some, Option.bind_none, C1__law_draw, L1__law_draw, str_ix0, str_ne, str_get, str_pop, str_lst, List.isEmpty_cons, Bool.not_false, Int.lt_irrefl, decide_false, Nat.zero_le]
      have := ih k (some (.int 0)) (fun c hc => hb c (List.mem_cons_of_mem _ hc)) hk'
      rcases this with ⟨r, big', h1, h2, h3, h4, h5⟩ | h
      · exact .inl ⟨r, big', h1, h2, h3, h4, Nat.le_succ_of_le h5⟩
      · exact .inr h
theorem mul_small {i j : Int} (h : -(2 ^ 64) < i ∧ i < 2 ^ 64) (S : Sto) : dMul (.int i) (.int j) S = .ok (.int (i * j)) S := by
  exact ifp_pos (.inl (.inl h))
theorem mul_smallR {i j : Int} (h : -(2 ^ 64) < j ∧ j < 2 ^ 64) (S : Sto) : dMul (.int i) (.int j) S = .ok (.int (i * j)) S := by
  exact ifp_pos (.inl (.inr h))
theorem log2_small {x : Nat} (b : Nat) (h : x < 2 ^ b) (h0 : 0 < b) (h9 : b ≤ 9000) : x.log2 < 9000 := Nat.lt_of_lt_of_le (PySem.Flt.log2_lt_of h0 h) h9
theorem bLen_fl (xs : List D) (S : Sto) : bLen [.fl xs] S = .ok (.int xs.length) S := rfl
theorem fnC_rt {n m : Nat} {B : Ev → Sto → SR} {ds : List D} {S S' : Sto} {d : D} (hm : ds.length = m) (h : B (startD n ds) S = .rt d S') (hc : S'.length = S.length) : fnC close n m B ds S = .ok d S' := by
  unfold fnC
  rw [if_pos hm, h]
  exact close_same hc
/-- a draw: some number below m, and the stream goes on -/
theorem draw_ok {S : Sto} {n : Nat} {rest : Sto} (h : Strm S n rest) {m : Int} (hm : 0 < m) (hm2 : m.natAbs.log2 < 9000) (hn : n < 2 ^ 60) :
    ∃ r S', F__law_draw [.loc 1, .int m] S = .ok (.int r) S' ∧ 0 ≤ r ∧ r < m ∧ Strm S' (n + 1) rest := by
  obtain ⟨big, cells, t, rfl, o⟩ := h
  have hst : startD 6 [D.loc 1, D.int m] = [some (.loc 1), some (.int m), none, none, none, none] := rfl
  rcases draw_loop hm hm2 cells t rest none none none big 4000 none o.bigs (by have := o.few; omega) with ⟨r, big', h1, h2, h3, h4, h5⟩ | ⟨x2, h1⟩
  · refine ⟨r, strO big' cells t rest, ?_, h2, h3, big', cells, t, rfl, h4, o.cls, o.ne, Nat.le_trans h5 o.few, o.t0, by have := o.tn; omega⟩
    refine fnC_rt rfl ?_ rfl
    rw [hst]
    unfold B__law_draw
    rw [sSeq, h1]; rfl
  · have t0 := o.t0
    have tn := o.tn
    have hcl : 0 < (cells.length : Int) := by
      have := List.length_pos_iff.mpr o.ne
      omega
    have hix0 : 0 ≤ (t + 1) % (cells.length : Int) := Int.emod_nonneg _ (by omega)
    have hix1 : (t + 1) % (cells.length : Int) < cells.length := Int.emod_lt_of_pos _ hcl
    obtain ⟨z, hz, hat⟩ := atI_map hix0 hix1
    have hz0 := o.cls z hz
    have c0 : 0 ≤ z % 2147483587 := Int.emod_nonneg _ (by decide)
    have c1 : z % 2147483587 < 2147483587 := Int.emod_lt_of_pos _ (by decide)
    have hx : ∀ S, dIx (.fl (cells.map D.int)) (.int ((t + 1) % (cells.length : Int))) S = .ok (.int z) S := fun S => dIx_fl hat
    have m1 : ∀ S, dMul (.int 48271) (.int (t + 1)) S = .ok (.int (48271 * (t + 1))) S := fun S => mul_small (by decide) S
    have m2 : ∀ S, dMul (.int (z % 2147483587)) (.int (16807 + 48271 * (t + 1))) S = .ok (.int (z % 2147483587 * (16807 + 48271 * (t + 1)))) S := fun S => mul_small (by omega) S
    have m3 : ∀ S, dMul (.int 69621) (.int (t + 1)) S = .ok (.int (69621 * (t + 1))) S := fun S => mul_small (by decide) S
    have m4 : ∀ S, dMul (.int (69621 * (t + 1))) (.int (t + 1)) S = .ok (.int (69621 * (t + 1) * (t + 1))) S := fun S => mul_smallR (by omega) S
    have l16 : (16 : Int).natAbs.log2 < 9000 := by decide
    have m5 : ∀ (x : Int) S, dMul (.int (x % 2147483647)) (.int (x % 2147483647)) S = .ok (.int (x % 2147483647 * (x % 2147483647))) S := fun x S => by
      have a0 : 0 ≤ x % 2147483647 := Int.emod_nonneg _ (by decide)
      have a1 : x % 2147483647 < 2147483647 := Int.emod_lt_of_pos _ (by decide)
      exact mul_small (by omega) S
    have key : ∃ y : Int, B__law_draw [some (.loc 1), some (.int m), none, none, none, none] (strO big cells t rest) = .rt (.int (y % m)) (strO [] cells (t + 1) rest) := by
      unfold B__law_draw
      rw [sSeq, h1]
      simp only [eVar, eC, eOp, eT, eAnd, eOr, eNot, eIf, eAndV, eOrV, eNotV, eCall, aNil, aCons, aStar, sOf, eTup, eFl, eLoc, eSl, oNone, oSome, iOf, eNeg, eChain, eMt, bOf, List.lookup, R.bind_ok, R.bind_er, R.bind_stuck, R.toS_ok, R.toS_er, R.toS_stuck, SR.next_nx, SR.next_rt, SR.next_er, SR.next_bk, SR.next_ct, SR.next_stuck, sNil, sSeq, sBrk, sCnt, sExp, sRet, sRetN, sIf, sSet, sAsg, sAug, sPar2, sPar3, tN, DL.tTup, DL.tNil, DL.tCons, DL.tSub, iSeq, srcOf, iRange1, iRange2, sFor, startD, List.map_cons, List.map_nil, List.length_cons, List.length_nil, List.replicate, List.cons_append, List.nil_append, List.getElem?_cons_zero, List.getElem?_cons_succ, List.set_cons_zero, List.set_cons_succ, dSub_int, dFdiv_int, dMod_int, dLt_int, dLe_int, dGt_int, dGe_int, dAddI_int, dSubI_int, dIsN_non, isN, dAdd_int, ll0, ll1, ll2, ll3, ll4, ll5, ll6, ll7, ll8, ll9, ll10, ll11, ll12, ll13, ll14, ll15, ll16, ll17, ll18, ll19, ll20, ll21, ll22, ll23, ll24, ll25, ll26, ll27, ll28, ll29, ll30, ll31, ll32, ll33, ll34, ll35, ll36, ll37, ll38, ll39, ll40, Nat.reduceSub, Nat.reduceAdd, Nat.reduceEqDiff, if_true, if_false, ifp_t, ifp_f, reduceIte, Bool.true_eq_false, Bool.false_eq_true, Option.map_some, Option.map_none, Option.bind_some, Option.bind_none, str_ix0, str_ix1, str_ix2, str_turn, dAdd_int, bLen_fl, List.length_map, hcl, hx, m1, m2, m3, m4, m5, l16, hm, Int.reduceLT, and_self]
      exact ⟨_, rfl⟩
    obtain ⟨y, hy⟩ := key
    exact ⟨y % m, _, fnC_rt rfl hy rfl, Int.emod_nonneg _ (by omega), Int.emod_lt_of_pos _ hm, [], cells, t + 1, rfl, by simp, o.cls, o.ne, by simp, by omega, by omega⟩
end DL
namespace DL
open PySem PySem.Spec L2
open PyProof.Rows hiding St
theorem Strm.len {S : Sto} {n : Nat} {rest : Sto} (h : Strm S n rest) : S.length = rest.length + 2 := by
  obtain ⟨b, c, t, rfl, o⟩ := h; rfl
theorem lowL_ints (n : Nat) (l : List Int) : lowL n (l.map D.int) = true := by
  induction l with
  | nil => rfl
  | cons i l ih => simp [lowL, low, ih]
theorem lowL_of {n : Nat} : ∀ {l : List D}, (∀ d ∈ l, low n d = true) → lowL n l = true
  | [], _ => rfl
  | d :: l, h => by
    rw [lowL, h d List.mem_cons_self, lowL_of fun x hx => h x (List.mem_cons_of_mem _ hx)]; rfl
theorem getL_end (S : Sto) (ds : List D) : getL (S ++ [.lst ds]) S.length = some ds := getL_of (by simp)
theorem getQ_end (S : Sto) (ds : List D) : getQ (S ++ [.lst ds]) S.length = some ds := getQ_of (by simp)
theorem set_end (S : Sto) (a b : Ob) : (S ++ [a]).set S.length b = S ++ [b] := by
  rw [List.set_append_right _ _ (Nat.le_refl _)]; simp
theorem finFl_eq {S S' : Sto} {l : List D} (h : getL S' S.length = some l) (hc : Trunc S S' ∧ S'.length = S.length + 1 ∧ lowL S.length l = true) : finFl S S' = .ok (.fl l) (S'.take S.length) := by
  unfold finFl
  simp only [h]
  rw [if_pos hc]
theorem finFl_end {S : Sto} {l : List D} (h : lowL S.length l = true) : finFl S (S ++ [.lst l]) = .ok (.fl l) S := by
  rw [finFl_eq (getL_end S l) ⟨Trunc.same _ _, by simp, h⟩]
  simp
/-- a comprehension whose parts change nothing -/
theorem compD_pure {T : Tg} {c : Ev → Sto → R Bool} {f : Ev → Sto → R D} {ρ : Ev} (ρd : D → Ev) (p : D → Bool) (e : D → D) (S : Sto) : ∀ (ds acc : List D),
    (∀ d ∈ ds, ∀ S', T d ρ S' = some (ρd d, S') ∧ c (ρd d) S' = .ok (p d) S' ∧ (p d = true → f (ρd d) S' = .ok (e d) S')) → acc.length + ds.length ≤ sizeLine →
    compD yes T c f S.length ρ ds (S ++ [.lst acc]) = some (S ++ [.lst (acc ++ (ds.filter p).map e)])
  | [], acc, _, _ => by rw [compD, if_pos (show yes _ from trivial)]; simp
  | d :: ds, acc, h, hl => by
    obtain ⟨h1, h2, h3⟩ := h d List.mem_cons_self (S ++ [.lst acc])
    have hl' : acc.length + (ds.length + 1) ≤ sizeLine := hl
    rw [compD, if_pos (show yes _ from trivial), h1]
    simp only [h2]
    cases hp : p d with
    | false =>
      rw [if_neg (by decide)]
      rw [compD_pure ρd p e S ds acc (fun x hx => h x (List.mem_cons_of_mem _ hx)) (by omega)]
      simp [List.filter, hp]
    | true =>
      rw [if_pos rfl]
      simp only [h3 hp, getL_end, set_end]
      rw [ifp_pos (by omega)]
      rw [compD_pure ρd p e S ds (acc ++ [e d]) (fun x hx => h x (List.mem_cons_of_mem _ hx)) (by simp; omega)]
      simp [List.filter, hp]
theorem eLc_pure {src : Ev → Sto → R Src} {T : Tg} {vs : List Nat} {c : Ev → Sto → R Bool} {f : Ev → Sto → R D} {ρ : Ev} {S : Sto} (ds : List D) (ρd : D → Ev) (p : D → Bool) (e : D → D) (hs : src ρ S = .ok (ds, yes) S)
    (h : ∀ d ∈ ds, ∀ S', T d (wipeD ρ vs) S' = some (ρd d, S') ∧ c (ρd d) S' = .ok (p d) S' ∧ (p d = true → f (ρd d) S' = .ok (e d) S')) (hl : ds.length ≤ sizeLine) (hlow : ∀ d ∈ ds, p d = true → low S.length (e d) = true) :
    eLc finFl src T vs c f ρ S = .ok (.fl ((ds.filter p).map e)) S := by
  unfold eLc
  rw [hs]
  show (match compD yes T c f S.length (wipeD ρ vs) ds (S ++ [Ob.lst []]) with
    | some S2 => finFl S S2
    | none => .stuck) = _
  rw [compD_pure ρd p e S ds [] h (by simpa using hl)]
  simp only [List.nil_append]
  refine finFl_end (lowL_of fun d hd => ?_)
  obtain ⟨x, hx, rfl⟩ := List.mem_map.mp hd
  obtain ⟨h1, h2⟩ := List.mem_filter.mp hx
  exact hlow x h1 h2
theorem eLc_pureLoc {src : Ev → Sto → R Src} {T : Tg} {vs : List Nat} {c : Ev → Sto → R Bool} {f : Ev → Sto → R D} {ρ : Ev} {S : Sto} (ds : List D) (ρd : D → Ev) (p : D → Bool) (e : D → D) (hs : src ρ S = .ok (ds, yes) S)
    (h : ∀ d ∈ ds, ∀ S', T d (wipeD ρ vs) S' = some (ρd d, S') ∧ c (ρd d) S' = .ok (p d) S' ∧ (p d = true → f (ρd d) S' = .ok (e d) S')) (hl : ds.length ≤ sizeLine) :
    eLc finLoc src T vs c f ρ S = .ok (.loc S.length) (S ++ [.lst ((ds.filter p).map e)]) := by
  unfold eLc
  rw [hs]
  show (match compD yes T c f S.length (wipeD ρ vs) ds (S ++ [Ob.lst []]) with
    | some S2 => finLoc S S2
    | none => .stuck) = _
  rw [compD_pure ρd p e S ds [] h (by simpa using hl)]
  simp only [List.nil_append]; rfl
theorem Strm.app {S : Sto} {n : Nat} {rest : Sto} (h : Strm S n rest) (l : Sto) : Strm (S ++ l) n (rest ++ l) := by
  obtain ⟨b, c, t, rfl, o⟩ := h
  exact ⟨b, c, t, rfl, o⟩
theorem Strm.getL_end {S : Sto} {n : Nat} {rest : Sto} {ds : List D} (h : Strm S n (rest ++ [.lst ds])) : getL S (rest.length + 2) = some ds := by
  obtain ⟨b, c, t, rfl, o⟩ := h
  refine getL_of ?_
  show (rest ++ [Ob.lst ds])[rest.length]? = _
  simp
theorem Strm.getQ_end {S : Sto} {n : Nat} {rest : Sto} {ds : List D} (h : Strm S n (rest ++ [.lst ds])) : getQ S (rest.length + 2) = some ds := by
  obtain ⟨b, c, t, rfl, o⟩ := h
  refine getQ_of ?_
  show (rest ++ [Ob.lst ds])[rest.length]? = _
  simp
theorem Strm.set_end {S : Sto} {n : Nat} {rest : Sto} {a : Ob} (h : Strm S n (rest ++ [a])) (b : Ob) : Strm (S.set (rest.length + 2) b) n (rest ++ [b]) := by
  obtain ⟨bg, c, t, rfl, o⟩ := h
  refine ⟨bg, c, t, ?_, o⟩
  show Ob.lst _ :: Ob.lst _ :: (rest ++ [a]).set rest.length b = _
  rw [DL.set_end]; rfl
/-- young places go: the stream stays -/
theorem Strm.trunc {S S' : Sto} {n m : Nat} {rest l : Sto} (h : Strm S n rest) (h' : Strm S' m (rest ++ l)) : Trunc S S' ∧ Strm (S'.take S.length) m rest := by
  obtain ⟨b, c, t, rfl, o⟩ := h
  obtain ⟨b', c', t', rfl, o'⟩ := h'
  refine ⟨⟨by simp [strO], fun k ob hk e => ?_⟩, b', c', t', ?_, o'⟩
  · match k, hk, e with
    | 0, hk, e =>
      cases e
      exact .inr (by simp [lowO, lowL_ints])
    | 1, hk, e =>
      cases e
      refine .inr ?_
      simp [lowO, lowL, low, lowL_ints, strO]
    | k + 2, hk, e =>
      left
      have hk' : k < rest.length := by simp [strO] at hk; exact hk
      show rest[k]? = some ob
      have e : (rest ++ l)[k]? = some ob := e
      rw [List.getElem?_append_left hk'] at e; exact e
  · show (Ob.lst _ :: Ob.lst _ :: (rest ++ l)).take (rest.length + 2) = _
    simp [strO]
theorem stream_ok {ns : List Int} (h : ns.length ≤ 63) : ∃ S, F__law_stream [.kl (ns.map D.int)] [] = .ok (.loc 1) S ∧ Strm S 0 [] := by
  have e1 : ∀ S, eLc finFl (iSeq (eVar 0)) (tN 2) [2] cYes E1__law_stream [some (.kl (ns.map D.int)), none, none] S = .ok (.fl ((ns.map D.int).map fun d => match d with | .int i => .int (if i < 0 then -i else i) | d => d)) S := fun S => by
    have := eLc_pure (src := iSeq (eVar 0)) (T := tN 2) (vs := [2]) (c := cYes) (f := E1__law_stream) (ρ := [some (.kl (ns.map D.int)), none, none]) (S := S) (ns.map D.int) (fun d => [some (.kl (ns.map D.int)), none, some d]) (fun _ => true)
      (fun d => match d with | .int i => .int (if i < 0 then -i else i) | d => d) rfl (fun d hd S' => ?_) (by simp; exact Nat.le_trans h (by decide)) (fun d hd _ => ?_)
    · rw [this, List.filter_eq_self.mpr (by simp)]
    · obtain ⟨i, _, rfl⟩ := List.mem_map.mp hd
      exact ⟨rfl, rfl, fun _ => rfl⟩
    · obtain ⟨i, _, rfl⟩ := List.mem_map.mp hd
      rfl
  have e2 : ((ns.map D.int).map fun d => match d with | .int i => D.int (if i < 0 then -i else i) | d => d) = (ns.map fun i => if i < 0 then -i else i).map D.int := by simp
  generalize hcs : (ns.map fun i => if i < 0 then -i else i) = cs at e2
  have hc0 : ∀ c ∈ cs, 0 ≤ c := fun c hc => by
    rw [← hcs] at hc
    obtain ⟨i, _, rfl⟩ := List.mem_map.mp hc
    split <;> omega
  have hlen : cs.length ≤ 63 := by rw [← hcs]; simpa using h
  have hpow : ∀ S, dPow (.int 10) (.int 18) S = .ok (.int (10 ^ 18)) S := fun S => dPow_ok (by decide) S
  have e3 : ∀ S, eLc finLoc (iSeq (eVar 1)) (tN 2) [2] Q1__law_stream E2__law_stream [some (.kl (ns.map D.int)), some (.fl (cs.map D.int)), none] S = .ok (.loc S.length) (S ++ [.lst ((cs.filter fun i => decide ((10 : Int) ^ 18 ≤ i)).map D.int)]) := fun S => by
    have := eLc_pureLoc (src := iSeq (eVar 1)) (T := tN 2) (vs := [2]) (c := Q1__law_stream) (f := E2__law_stream) (ρ := [some (.kl (ns.map D.int)), some (.fl (cs.map D.int)), none]) (S := S) (cs.map D.int)
      (fun d => [some (.kl (ns.map D.int)), some (.fl (cs.map D.int)), some d]) (fun d => match d with | .int i => decide ((10 : Int) ^ 18 ≤ i) | _ => false) (fun d => d) rfl (fun d hd S' => ?_) (by simp; exact Nat.le_trans hlen (by decide))
    · rw [this, List.filter_map]
      simp [Function.comp_def]
    · obtain ⟨i, _, rfl⟩ := List.mem_map.mp hd
      refine ⟨rfl, ?_, fun _ => rfl⟩
      have hw : wipeD [some (D.kl (ns.map D.int)), some (D.fl (cs.map D.int)), none] [2] = [some (D.kl (ns.map D.int)), some (D.fl (cs.map D.int)), none] := rfl
      simp only [eVar, eC, eOp, eT, eAnd, eOr, eNot, eIf, eAndV, eOrV, eNotV, eCall, aNil, aCons, aStar, sOf, eTup, eFl, eLoc, eSl, oNone, oSome, iOf, eNeg, eChain, eMt, bOf, List.lookup, R.bind_ok, R.bind_er, R.bind_stuck, R.toS_ok, R.toS_er, R.toS_stuck, SR.next_nx, SR.next_rt, SR.next_er, SR.next_bk, SR.next_ct, SR.next_stuck, sNil, sSeq, sBrk, sCnt, sExp, sRet, sRetN, sIf, sSet, sAsg, sAug, sPar2, sPar3, tN, DL.tTup, DL.tNil, DL.tCons, DL.tSub, iSeq, srcOf, iRange1, iRange2, sFor, startD, List.map_cons, List.map_nil, List.length_cons, List.length_nil, List.replicate, List.cons_append, List.nil_append, List.getElem?_cons_zero, List.getElem?_cons_succ, List.set_cons_zero, List.set_cons_succ, dSub_int, dFdiv_int, dMod_int, dLt_int, dLe_int, dGt_int, dGe_int, dAddI_int, dSubI_int, dIsN_non, isN, dAdd_int, ll0, ll1, ll2, ll3, ll4, ll5, ll6, ll7, ll8, ll9, ll10, ll11, ll12, ll13, ll14, ll15, ll16, ll17, ll18, ll19, ll20, ll21, ll22, ll23, ll24, ll25, ll26, ll27, ll28, ll29, ll30, ll31, ll32, ll33, ll34, ll35, ll36, ll37, ll38, ll39, ll40, Nat.reduceSub, Nat.reduceAdd, Nat.reduceEqDiff, if_true, if_false, ifp_t, ifp_f, reduceIte, Bool.true_eq_false, Bool.false_eq_true, Option.map_some, Option.map_none, Option.bind_some, Option.bind_none, Q1__law_stream, hpow]
  refine ⟨strO (cs.filter fun i => decide ((10 : Int) ^ 18 ≤ i)) (cs ++ [(cs.length : Int) + 17]) 0 [], ?_, ⟨_, _, _, rfl, ?_, ?_, by simp, ?_, by omega, by omega⟩⟩
  · unfold F__law_stream fnC
    rw [if_pos (show [D.kl (ns.map D.int)].length = 1 from rfl)]
    have hst : startD 3 [D.kl (ns.map D.int)] = [some (.kl (ns.map D.int)), none, none] := rfl
    rw [hst]
    unfold B__law_stream
    have hadd : ∀ S, dAdd (.fl (cs.map D.int)) (.fl [.int ((cs.length : Int) + 17)]) S = .ok (.fl ((cs ++ [(cs.length : Int) + 17]).map D.int)) S := fun S => by
      show ifp ((cs.map D.int).length + 1 ≤ sizeLine) (R.ok (D.fl (cs.map D.int ++ [D.int ((cs.length : Int) + 17)])) S) .stuck = _
      rw [ifp_pos (by rw [List.length_map]; exact Nat.le_trans (Nat.succ_le_succ hlen) (by decide))]
      simp
    simp only [eVar, eC, eOp, eT, eAnd, eOr, eNot, eIf, eAndV, eOrV, eNotV, eCall, aNil, aCons, aStar, sOf, eTup, eFl, eLoc, eSl, oNone, oSome, iOf, eNeg, eChain, eMt, bOf, List.lookup, R.bind_ok, R.bind_er, R.bind_stuck, R.toS_ok, R.toS_er, R.toS_stuck, SR.next_nx, SR.next_rt, SR.next_er, SR.next_bk, SR.next_ct, SR.next_stuck, sNil, sSeq, sBrk, sCnt, sExp, sRet, sRetN, sIf, sSet, sAsg, sAug, sPar2, sPar3, tN, DL.tTup, DL.tNil, DL.tCons, DL.tSub, iSeq, srcOf, iRange1, iRange2, sFor, startD, List.map_cons, List.map_nil, List.length_cons, List.length_nil, List.replicate, List.cons_append, List.nil_append, List.getElem?_cons_zero, List.getElem?_cons_succ, List.set_cons_zero, List.set_cons_succ, dSub_int, dFdiv_int, dMod_int, dLt_int, dLe_int, dGt_int, dGe_int, dAddI_int, dSubI_int, dIsN_non, isN, dAdd_int, ll0, ll1, ll2, ll3, ll4, ll5, ll6, ll7, ll8, ll9, ll10, ll11, ll12, ll13, ll14, ll15, ll16, ll17, ll18, ll19, ll20, ll21, ll22, ll23, ll24, ll25, ll26, ll27, ll28, ll29, ll30, ll31, ll32, ll33, ll34, ll35, ll36, ll37, ll38, ll39, ll40, Nat.reduceSub, Nat.reduceAdd, Nat.reduceEqDiff, if_true, if_false, ifp_t, ifp_f, reduceIte, Bool.true_eq_false, Bool.false_eq_true, Option.map_some, Option.map_none, Option.bind_some, Option.bind_none, e1, e2, e3, dAdd_int, bLen_fl, List.length_map, hadd]
    rfl
  · intro c hc
    exact hc0 c (List.mem_filter.mp hc).1
  · intro c hc
    rcases List.mem_append.mp hc with hc | hc
    · exact hc0 c hc
    · simp at hc; omega
  · exact Nat.le_trans (List.length_filter_le _ _) hlen
theorem pick_fl {S : Sto} {n : Nat} {rest : Sto} (h : Strm S n rest) {xs : List D} (hx : xs ≠ []) (hs : xs.length < 2 ^ 60) (hn : n < 2 ^ 60) :
    ∃ d S', F__law_pick [.loc 1, .fl xs] S = .ok d S' ∧ d ∈ xs ∧ Strm S' (n + 1) rest := by
  have hl := List.length_pos_iff.mpr hx
  obtain ⟨r, S', h1, h2, h3, h4⟩ := draw_ok h (m := (xs.length : Int)) (by omega) (log2_small 60 (by omega) (by decide) (by decide)) hn
  have hr : r.toNat < xs.length := by omega
  refine ⟨xs[r.toNat], S', ?_, List.getElem_mem hr, h4⟩
  refine fnC_rt rfl ?_ (by rw [h.len, h4.len])
  unfold B__law_pick
  have hix : ∀ S, dIx (.fl xs) (.int r) S = .ok xs[r.toNat] S := fun S => dIx_fl (by rw [atI_nn h2 h3, List.getElem?_eq_getElem hr])
  simp only [eVar, eC, eOp, eT, eAnd, eOr, eNot, eIf, eAndV, eOrV, eNotV, eCall, aNil, aCons, aStar, sOf, eTup, eFl, eLoc, eSl, oNone, oSome, iOf, eNeg, eChain, eMt, bOf, List.lookup, R.bind_ok, R.bind_er, R.bind_stuck, R.toS_ok, R.toS_er, R.toS_stuck, SR.next_nx, SR.next_rt, SR.next_er, SR.next_bk, SR.next_ct, SR.next_stuck, sNil, sSeq, sBrk, sCnt, sExp, sRet, sRetN, sIf, sSet, sAsg, sAug, sPar2, sPar3, tN, DL.tTup, DL.tNil, DL.tCons, DL.tSub, iSeq, srcOf, iRange1, iRange2, sFor, startD, List.map_cons, List.map_nil, List.length_cons, List.length_nil, List.replicate, List.cons_append, List.nil_append, List.getElem?_cons_zero, List.getElem?_cons_succ, List.set_cons_zero, List.set_cons_succ, dSub_int, dFdiv_int, dMod_int, dLt_int, dLe_int, dGt_int, dGe_int, dAddI_int, dSubI_int, dIsN_non, isN, dAdd_int, ll0, ll1, ll2, ll3, ll4, ll5, ll6, ll7, ll8, ll9, ll10, ll11, ll12, ll13, ll14, ll15, ll16, ll17, ll18, ll19, ll20, ll21, ll22, ll23, ll24, ll25, ll26, ll27, ll28, ll29, ll30, ll31, ll32, ll33, ll34, ll35, ll36, ll37, ll38, ll39, ll40, Nat.reduceSub, Nat.reduceAdd, Nat.reduceEqDiff, if_true, if_false, ifp_t, ifp_f, reduceIte, Bool.true_eq_false, Bool.false_eq_true, Option.map_some, Option.map_none, Option.bind_some, Option.bind_none, bLen_fl, h1, hix]
theorem close_law {d : D} (h : low 0 d = true) (S' : Sto) : ∃ S'', close [] d S' = .ok d S'' := by
  unfold close
  split
  · exact ⟨_, rfl⟩
  · rw [if_pos ⟨⟨Nat.zero_le _, fun k o hk _ => absurd hk (Nat.not_lt_zero _)⟩, h⟩]
    exact ⟨_, rfl⟩
/-- a law's function by its body -/
theorem law_by {n : Nat} {B : Ev → Sto → SR} (h : ∀ ns : List Int, ns.length ≤ 63 → (∀ z ∈ ns, Builtin.Int.intBits z ≤ 1048576) → ∃ S', B (startD n [.kl (ns.map D.int)]) [] = .rt (.bl true) S') : LawOk (fnC close n 1 B) := by
  intro ns hl hb
  obtain ⟨S', e⟩ := h ns hl hb
  unfold fnC
  rw [if_pos (show [D.kl (ns.map D.int)].length = 1 from rfl), e]
  exact close_law rfl S'
end DL
namespace DL
open PySem PySem.Spec L2
open PyProof.Rows hiding St
def rSum2 (K : PySem.W.Frag) : List V → Hp → VK → Prop := fun vs H Q => ∃ (a : Addr) (ns : List Int), vs = [V.ref a] ∧ (SqL K H a (ns.map V.int) ∨ SqT K H a (ns.map V.int)) ∧ Q (.int ns.sum) H
theorem cr_sum2 {X : Cx} (hc : X.calm = true) : CallR X (.builtin "sum") (rSum2 X.K) := by
  intro pins s σ H vs us Q I r h
  obtain ⟨a, ns, rfl, hs | hs, q⟩ := h
  · exact cr_sum hc pins s σ H _ us Q I r ⟨a, ns, rfl, hs, q⟩
  · obtain ⟨its, rv, hl, _⟩ := I.tuple hs
    rw [Vals.ref1 r]
    obtain ⟨xs, e⟩ := rv.ints.allInts.items
    have hn : numsOf (intItems xs).toList = ns := by rw [← e]; exact rv.ints.numsOf
    rw [nums_intItems] at hn
    rw [e] at hl
    refine PySem.W.ktm_sumG (I.ok.hd hc) hl fun h' tk t' hk => ?_
    rw [preSum_eq, List.take_of_length_le (by simp), hn]
    exact ⟨.int _, H, I.kept hk, ⟨_, rfl⟩, q⟩
def bSum2 : Fn := fun ds S => match ds with
  | [d] => (match (seqOf S d).bind intsOf with
    | some is => .ok (.int is.sum) S
    | none => .stuck)
  | _ => .stuck
theorem seq_ints {K : PySem.W.Frag} {ι : List Addr} {H : Hp} {S : Sto} {d : D} {v : V} {is : List Int} (s : Sim K ι H S) (r : RepV K ι H d v) (e : (seqOf S d).bind intsOf = some is) : ∃ p, v = .ref p ∧ (SqL K H p (is.map V.int) ∨ SqT K H p (is.map V.int)) := by
  cases h : seqOf S d with
  | none => rw [h] at e; cases e
  | some ds =>
    rw [h] at e
    obtain ⟨p, vs, rfl, q, rl⟩ := seq_at s r h
    rw [intsOf_rep _ _ _ rl e] at q
    exact ⟨p, rfl, q⟩
theorem k_sum2 {K : PySem.W.Frag} : CallK K (rSum2 K) bSum2 := by
  intro W σ ι H S vs ds Q s rl h
  unfold bSum2 at h
  (try unfold ifp at h); split at h
  · obtain ⟨v, rfl, rv⟩ := RepL.one_inv rl
    (try unfold ifp at h); split at h
    · rename_i is hi
      obtain ⟨p, rfl, q⟩ := seq_ints s rv hi
      exact ⟨p, is, rfl, q, h.here s _ int_rep⟩
    · exact h.elim
  · exact h.elim
end DL
namespace DL
open PySem PySem.Spec L2
open PyProof.Rows hiding St
noncomputable def L1__law_missing (ρ : Ev) (S : Sto) : SR :=
  (sSeq (sIf (eT (eOp dLt (eVar 1) (eVar 3))) (sSeq (sSet 2 (eOp dSub (eOp dAdd (eVar 2) (eVar 3)) (eVar 1)))
    (sSet 1 (eVar 3))) sNil)
    (sSet 1 (eOp dAdd (eOp dSub (eVar 1) (eVar 3)) (eC (.int 1))))) ρ S
noncomputable def B__law_missing : Ev → Sto → SR :=
  (sSeq (sAsg (eTup (aCons (eC (.int 0)) (aCons (eC (.int 0)) aNil))) (tTup 2 (tCons (tN 1) (tCons (tN 2) tNil))))
    (sSeq (sFor (iSeq (eVar 0)) (tN 3) L1__law_missing sNil)
    (sRet (eFl (aCons (eVar 2) (aCons (eVar 1) aNil))))))
noncomputable def F__law_missing : Fn := fnC close 4 1 B__law_missing
noncomputable def L1_heights_of (ρ : Ev) (S : Sto) : SR :=
  (sSeq (sAug 2 dAddI (eOp dSub (eC (.int 1)) (eVar 3)))
    (sExp (eMt isLst mAppend (eVar 1) (aCons (eVar 2) aNil)))) ρ S
noncomputable def B_heights_of : Ev → Sto → SR :=
  (sSeq (sSet 1 (eLoc aNil))
    (sSeq (sSet 2 (eC (.int 0)))
    (sSeq (sFor (iSeq (eVar 0)) (tN 3) L1_heights_of sNil)
    (sRet (eCall bTuple (aCons (eVar 1) aNil))))))
noncomputable def F_heights_of : Fn := fnC close 4 1 B_heights_of
noncomputable def B_need_of : Ev → Sto → SR :=
  (sRet (eOp dSub (eC (.int 1)) (eCall bMin (aCons (eOp dAdd (eFl (aCons (eC (.int 1)) aNil)) (eCall (bList mkFl) (aCons (eCall F_heights_of (aCons (eVar 0) aNil)) aNil))) aNil))))
noncomputable def F_need_of : Fn := fnC close 1 1 B_need_of
noncomputable def B_is_integer : Ev → Sto → SR :=
  (sRet (eAndV (eCall bIsi (aCons (eVar 0) (aCons (eC (.ty "int")) aNil))) (eAndV (eNotV (eCall bIsi (aCons (eVar 0) (aCons (eC (.ty "bool")) aNil)))) (eChain dLe dLe (eVar 1) (eVar 0) (eVar 2)))))
noncomputable def F_is_integer : Fn := fnC close 3 3 B_is_integer
theorem bSum2_tup (l : List Int) (S : Sto) : bSum2 [.tup (l.map D.int)] S = .ok (.int l.sum) S := by
  unfold bSum2
  simp only [seqOf, Option.bind_some, intsOf_map]
theorem bTuple_loc {S : Sto} {n : Nat} {l : List D} (h : getQ S n = some l) : bTuple [.loc n] S = .ok (.tup l) S := by
  unfold bTuple
  simp only [show seqOf S (.loc n) = some l from h]
theorem bTuple_fl (l : List D) (S : Sto) : bTuple [.fl l] S = .ok (.tup l) S := rfl
def Arity (t : Int) : Prop := 0 ≤ t ∧ t ≤ 5
end DL
namespace DL
/-- one token read: the height, and what was missing so far -/
def stp (s : Int × Int) (t : Int) : Int × Int := (s.1 + (1 - t), max s.2 (1 - (s.1 + (1 - t))))
def hts : Int → List Int → List Int
  | _, [] => []
  | h, t :: l => (h + (1 - t)) :: hts (h + (1 - t)) l
/-- the need of a row -/
def ne (l : List Int) : Int := (l.foldl stp (0, 0)).2
/-- the height behind a row -/
def ht (l : List Int) : Int := (l.foldl stp (0, 0)).1
theorem hts_length : ∀ (l : List Int) (h : Int), (hts h l).length = l.length
  | [], _ => rfl
  | t :: l, h => by simp [hts, hts_length l]
theorem hts_min : ∀ (l : List Int) (h m : Int), (hts h l).foldl min (1 - m) = 1 - (l.foldl stp (h, m)).2
  | [], h, m => rfl
  | t :: l, h, m => by
    have e : min (1 - m) (h + (1 - t)) = 1 - max m (1 - (h + (1 - t))) := by omega
    rw [hts, List.foldl_cons, List.foldl_cons, e, hts_min l]
    rfl
theorem stp_mono : ∀ (l : List Int) (s : Int × Int), s.2 ≤ (l.foldl stp s).2
  | [], s => Int.le_refl _
  | t :: l, s => by
    have := stp_mono l (stp s t)
    rw [List.foldl_cons]
    simp only [stp] at this ⊢
    omega
def rot {α : Type} (l : List α) (p : Nat) : List α := l.drop p ++ l.take p
theorem rot_length {α : Type} (l : List α) (p : Nat) (h : p ≤ l.length) : (rot l p).length = l.length := by
  unfold rot; simp; omega
/-- the tokens round and round -/
def tk (l : List Int) (j : Nat) : Int := (l[j % l.length]?).getD 0
/-- the height behind i tokens, round and round -/
def hh (l : List Int) : Nat → Int
  | 0 => 0
  | i + 1 => hh l i + (1 - tk l i)
/-- the least of f p .. f (p + k) -/
def mn (f : Nat → Int) : Nat → Nat → Int
  | p, 0 => f p
  | p, k + 1 => min (f p) (mn f (p + 1) k)
/-- the places from which nothing is missing -/
def begs (l : List Int) : List Nat := (List.range l.length).filter fun p => decide (ne (rot l p) = 0)
end DL
namespace DL
open PySem PySem.Spec L2
open PyProof.Rows hiding St
def ti (l : List Int) : D := .tup (l.map D.int)
theorem fnC_cut {n m : Nat} {B : Ev → Sto → SR} {ds : List D} {S S' : Sto} {d : D} {l : Sto} (hm : ds.length = m) (h : B (startD n ds) S = .rt d S') (hS : S' = S ++ l) (hl : low S.length d = true) : fnC close n m B ds S = .ok d S := by
  unfold fnC
  rw [if_pos hm, h]
  show close S d S' = _
  subst hS
  unfold close
  split
  · rename_i h; have : l = [] := by simpa using h
    subst this; simp
  · rw [if_pos ⟨Trunc.same _ _, hl⟩]; simp
theorem append_end (S : Sto) (acc : List D) (d : D) (h : acc.length < sizeLine) : mAppend (.loc S.length) [d] (S ++ [.lst acc]) = .ok .non (S ++ [.lst (acc ++ [d])]) := by
  unfold mAppend
  simp only [getL_end]
  rw [ifp_pos h, set_end]
theorem isLst_end (S : Sto) (acc : List D) : isLst (S ++ [.lst acc]) (.loc S.length) = true := by
  unfold isLst
  rw [show lstOf (S ++ [.lst acc]) (.loc S.length) = some acc from getL_end S acc]; rfl
theorem heights_loop (x0 : Option D) (S : Sto) : ∀ (l : List Int) (acc : List Int) (h : Int) (x3 : Option D), acc.length + l.length ≤ sizeLine →
    ∃ y2 y3, forD yes (tN 3) L1_heights_of sNil (l.map D.int) [x0, some (.loc S.length), some (.int h), x3] (S ++ [.lst (acc.map D.int)]) = .nx [x0, some (.loc S.length), y2, y3] (S ++ [.lst ((acc ++ hts h l).map D.int)])
  | [], acc, h, x3, _ => ⟨some (.int h), x3, by rw [List.map_nil, forD_nil trivial, hts, List.append_nil]; rfl⟩
  | t :: l, acc, h, x3, hl => by
    have hl' : acc.length + (l.length + 1) ≤ sizeLine := hl
    obtain ⟨y2, y3, e⟩ := heights_loop x0 S l (acc ++ [h + (1 - t)]) (h + (1 - t)) (some (.int t)) (by simp; omega)
    refine ⟨y2, y3, ?_⟩
    rw [List.map_cons, forD_cons (ρ1 := [x0, some (.loc S.length), some (.int h), some (.int t)]) (S1 := S ++ [.lst (acc.map D.int)]) (ρ2 := [x0, some (.loc S.length), some (.int (h + (1 - t))), some (.int t)]) (S2 := S ++ [.lst ((acc ++ [h + (1 - t)]).map D.int)]) trivial rfl ?_]
    · rw [e, hts]; simp
    · have ap := append_end S (acc.map D.int) (.int (h + (1 - t))) (by rw [List.length_map]; omega)
      simp only [eVar, eC, eOp, eT, eAnd, eOr, eNot, eIf, eAndV, eOrV, eNotV, eCall, aNil, aCons, aStar, sOf, eTup, eFl, eLoc, eSl, oNone, oSome, iOf, eNeg, eChain, eMt, bOf, List.lookup, R.bind_ok, R.bind_er, R.bind_stuck, R.toS_ok, R.toS_er, R.toS_stuck, SR.next_nx, SR.next_rt, SR.next_er, SR.next_bk, SR.next_ct, SR.next_stuck, sNil, sSeq, sBrk, sCnt, sExp, sRet, sRetN, sIf, sSet, sAsg, sAug, sPar2, sPar3, tN, DL.tTup, DL.tNil, DL.tCons, DL.tSub, iSeq, srcOf, iRange1, iRange2, sFor, startD, List.map_cons, List.map_nil, List.length_cons, List.length_nil, List.replicate, List.cons_append, List.nil_append, List.getElem?_cons_zero, List.getElem?_cons_succ, List.set_cons_zero, List.set_cons_succ, dSub_int, dFdiv_int, dMod_int, dLt_int, dLe_int, dGt_int, dGe_int, dAddI_int, dSubI_int, dIsN_non, isN, dAdd_int, ll0, ll1, ll2, ll3, ll4, ll5, ll6, ll7, ll8, ll9, ll10, ll11, ll12, ll13, ll14, ll15, ll16, ll17, ll18, ll19, ll20, ll21, ll22, ll23, ll24, ll25, ll26, ll27, ll28, ll29, ll30, ll31, ll32, ll33, ll34, ll35, ll36, ll37, ll38, ll39, ll40, Nat.reduceSub, Nat.reduceAdd, Nat.reduceEqDiff, if_true, if_false, ifp_t, ifp_f, reduceIte, Bool.true_eq_false, Bool.false_eq_true, Option.map_some, Option.map_none, Option.bind_some, Option.bind_none, L1_heights_of, isLst_end, ap]
      simp
theorem heights_ok (l : List Int) (hl : l.length ≤ sizeLine) (S : Sto) : F_heights_of [ti l] S = .ok (ti (hts 0 l)) S := by
  obtain ⟨y2, y3, h⟩ := heights_loop (some (ti l)) S l [] 0 none (by simpa using hl)
  refine fnC_cut (l := [.lst ((hts 0 l).map D.int)]) (S' := S ++ [.lst ((hts 0 l).map D.int)]) rfl ?_ rfl (by simp [ti, low, lowL_ints])
  unfold B_heights_of
  have tp : bTuple [.loc S.length] (S ++ [.lst ((hts 0 l).map D.int)]) = .ok (ti (hts 0 l)) (S ++ [.lst ((hts 0 l).map D.int)]) := bTuple_loc (getQ_end _ _)
  simp only [List.nil_append, List.map_nil] at h
  have e0 : ti l = .tup (l.map D.int) := rfl
  rw [e0] at h ⊢
  simp only [eVar, eC, eOp, eT, eAnd, eOr, eNot, eIf, eAndV, eOrV, eNotV, eCall, aNil, aCons, aStar, sOf, eTup, eFl, eLoc, eSl, oNone, oSome, iOf, eNeg, eChain, eMt, bOf, List.lookup, R.bind_ok, R.bind_er, R.bind_stuck, R.toS_ok, R.toS_er, R.toS_stuck, SR.next_nx, SR.next_rt, SR.next_er, SR.next_bk, SR.next_ct, SR.next_stuck, sNil, sSeq, sBrk, sCnt, sExp, sRet, sRetN, sIf, sSet, sAsg, sAug, sPar2, sPar3, tN, DL.tTup, DL.tNil, DL.tCons, DL.tSub, iSeq, srcOf, iRange1, iRange2, sFor, startD, List.map_cons, List.map_nil, List.length_cons, List.length_nil, List.replicate, List.cons_append, List.nil_append, List.getElem?_cons_zero, List.getElem?_cons_succ, List.set_cons_zero, List.set_cons_succ, dSub_int, dFdiv_int, dMod_int, dLt_int, dLe_int, dGt_int, dGe_int, dAddI_int, dSubI_int, dIsN_non, isN, dAdd_int, ll0, ll1, ll2, ll3, ll4, ll5, ll6, ll7, ll8, ll9, ll10, ll11, ll12, ll13, ll14, ll15, ll16, ll17, ll18, ll19, ll20, ll21, ll22, ll23, ll24, ll25, ll26, ll27, ll28, ll29, ll30, ll31, ll32, ll33, ll34, ll35, ll36, ll37, ll38, ll39, ll40, Nat.reduceSub, Nat.reduceAdd, Nat.reduceEqDiff, if_true, if_false, ifp_t, ifp_f, reduceIte, Bool.true_eq_false, Bool.false_eq_true, Option.map_some, Option.map_none, Option.bind_some, Option.bind_none, mkLoc, h, tp]
theorem ti_len (l : List Int) (S : Sto) : bLen [ti l] S = .ok (.int l.length) S := by
  show R.ok (D.int ((l.map D.int).length : Nat)) S = _
  rw [List.length_map]
theorem ti_sum (l : List Int) (S : Sto) : bSum2 [ti l] S = .ok (.int l.sum) S := bSum2_tup l S
theorem need_of_ok (l : List Int) (hl : l.length < 10 ^ 6) (S : Sto) : F_need_of [ti l] S = .ok (.int (ne l)) S := by
  refine fnC_rt rfl ?_ rfl
  unfold B_need_of
  have hb : ∀ S, bList mkFl [ti (hts 0 l)] S = .ok (.fl ((hts 0 l).map D.int)) S := fun S => rfl
  have ha : ∀ S, dAdd (.fl [.int 1]) (.fl ((hts 0 l).map D.int)) S = .ok (.fl (.int 1 :: (hts 0 l).map D.int)) S := fun S => by
    show ifp ([D.int 1].length + ((hts 0 l).map D.int).length ≤ sizeLine) (R.ok (D.fl ([D.int 1] ++ (hts 0 l).map D.int)) S) .stuck = _
    rw [ifp_pos]; rfl
    rw [List.length_map, hts_length]
    exact Nat.le_trans (show 1 + l.length ≤ 10 ^ 6 by omega) (by decide)
  have hm : ∀ S, bMin [.fl (.int 1 :: (hts 0 l).map D.int)] S = .ok (.int (1 - ne l)) S := fun S => by
    rw [← List.map_cons]
    unfold bMin
    simp only [lstOf, Option.bind_some, intsOf_map]
    rw [if_neg (by simp)]
    show R.ok (D.int ((hts 0 l).foldl min 1)) S = _
    have := hts_min l 0 0
    simp only [Int.sub_zero] at this
    rw [this]; rfl
  simp only [eVar, eC, eOp, eT, eAnd, eOr, eNot, eIf, eAndV, eOrV, eNotV, eCall, aNil, aCons, aStar, sOf, eTup, eFl, eLoc, eSl, oNone, oSome, iOf, eNeg, eChain, eMt, bOf, List.lookup, R.bind_ok, R.bind_er, R.bind_stuck, R.toS_ok, R.toS_er, R.toS_stuck, SR.next_nx, SR.next_rt, SR.next_er, SR.next_bk, SR.next_ct, SR.next_stuck, sNil, sSeq, sBrk, sCnt, sExp, sRet, sRetN, sIf, sSet, sAsg, sAug, sPar2, sPar3, tN, DL.tTup, DL.tNil, DL.tCons, DL.tSub, iSeq, srcOf, iRange1, iRange2, sFor, startD, List.map_cons, List.map_nil, List.length_cons, List.length_nil, List.replicate, List.cons_append, List.nil_append, List.getElem?_cons_zero, List.getElem?_cons_succ, List.set_cons_zero, List.set_cons_succ, dSub_int, dFdiv_int, dMod_int, dLt_int, dLe_int, dGt_int, dGe_int, dAddI_int, dSubI_int, dIsN_non, isN, dAdd_int, ll0, ll1, ll2, ll3, ll4, ll5, ll6, ll7, ll8, ll9, ll10, ll11, ll12, ll13, ll14, ll15, ll16, ll17, ll18, ll19, ll20, ll21, ll22, ll23, ll24, ll25, ll26, ll27, ll28, ll29, ll30, ll31, ll32, ll33, ll34, ll35, ll36, ll37, ll38, ll39, ll40, Nat.reduceSub, Nat.reduceAdd, Nat.reduceEqDiff, if_true, if_false, ifp_t, ifp_f, reduceIte, Bool.true_eq_false, Bool.false_eq_true, Option.map_some, Option.map_none, Option.bind_some, Option.bind_none, heights_ok l (Nat.le_trans (Nat.le_of_lt hl) (by decide)), hb, ha, hm]
  have : 1 - (1 - ne l) = ne l := by omega
  rw [this]
theorem missing_loop (x0 : Option D) : ∀ (l : List Int) (h m : Int) (x3 : Option D) (S : Sto), ∃ y3, forD yes (tN 3) L1__law_missing sNil (l.map D.int) [x0, some (.int (h + m)), some (.int m), x3] S = .nx [x0, some (.int ((l.foldl stp (h, m)).1 + (l.foldl stp (h, m)).2)), some (.int (l.foldl stp (h, m)).2), y3] S
  | [], h, m, x3, S => ⟨x3, forD_nil trivial⟩
  | t :: l, h, m, x3, S => by
    obtain ⟨y3, e⟩ := missing_loop x0 l (h + (1 - t)) (max m (1 - (h + (1 - t)))) (some (.int t)) S
    refine ⟨y3, ?_⟩
    rw [List.map_cons, forD_cons (ρ1 := [x0, some (.int (h + m)), some (.int m), some (.int t)]) (S1 := S) (ρ2 := [x0, some (.int (h + (1 - t) + max m (1 - (h + (1 - t))))), some (.int (max m (1 - (h + (1 - t))))), some (.int t)]) (S2 := S) trivial rfl ?_]
    · exact e
    · by_cases hl : h + m < t
      · simp only [eVar, eC, eOp, eT, eAnd, eOr, eNot, eIf, eAndV, eOrV, eNotV, eCall, aNil, aCons, aStar, sOf, eTup, eFl, eLoc, eSl, oNone, oSome, iOf, eNeg, eChain, eMt, bOf, List.lookup, R.bind_ok, R.bind_er, R.bind_stuck, R.toS_ok, R.toS_er, R.toS_stuck, SR.next_nx, SR.next_rt, SR.next_er, SR.next_bk, SR.next_ct, SR.next_stuck, sNil, sSeq, sBrk, sCnt, sExp, sRet, sRetN, sIf, sSet, sAsg, sAug, sPar2, sPar3, tN, DL.tTup, DL.tNil, DL.tCons, DL.tSub, iSeq, srcOf, iRange1, iRange2, sFor, startD, List.map_cons, List.map_nil, List.length_cons, List.length_nil, List.replicate, List.cons_append, List.nil_append, List.getElem?_cons_zero, List.getElem?_cons_succ, List.set_cons_zero, List.set_cons_succ, dSub_int, dFdiv_int, dMod_int, dLt_int, dLe_int, dGt_int, dGe_int, dAddI_int, dSubI_int, dIsN_non, isN, dAdd_int, ll0, ll1, ll2, ll3, ll4, ll5, ll6, ll7, ll8, ll9, ll10, ll11, ll12, ll13, ll14, ll15, ll16, ll17, ll18, ll19, ll20, ll21, ll22, ll23, ll24, ll25, ll26, ll27, ll28, ll29, ll30, ll31, ll32, ll33, ll34, ll35, ll36, ll37, ll38, ll39, ll40, Nat.reduceSub, Nat.reduceAdd, Nat.reduceEqDiff, if_true, if_false, ifp_t, ifp_f, reduceIte, Bool.true_eq_false, Bool.false_eq_true, Option.map_some, Option.map_none, Option.bind_some, Option.bind_none, L1__law_missing, hl, decide_true]
        simp only [SR.nx.injEq, and_true, List.cons.injEq, Option.some.injEq, D.int.injEq, true_and]
        constructor <;> omega
      · simp only [eVar, eC, eOp, eT, eAnd, eOr, eNot, eIf, eAndV, eOrV, eNotV, eCall, aNil, aCons, aStar, sOf, eTup, eFl, eLoc, eSl, oNone, oSome, iOf, eNeg, eChain, eMt, bOf, List.lookup, R.bind_ok, R.bind_er, R.bind_stuck, R.toS_ok, R.toS_er, R.toS_stuck, SR.next_nx, SR.next_rt, SR.next_er, SR.next_bk, SR.next_ct, SR.next_stuck, sNil, sSeq, sBrk, sCnt, sExp, sRet, sRetN, sIf, sSet, sAsg, sAug, sPar2, sPar3, tN, DL.tTup, DL.tNil, DL.tCons, DL.tSub, iSeq, srcOf, iRange1, iRange2, sFor, startD, List.map_cons, List.map_nil, List.length_cons, List.length_nil, List.replicate, List.cons_append, List.nil_append, List.getElem?_cons_zero, List.getElem?_cons_succ, List.set_cons_zero, List.set_cons_succ, dSub_int, dFdiv_int, dMod_int, dLt_int, dLe_int, dGt_int, dGe_int, dAddI_int, dSubI_int, dIsN_non, isN, dAdd_int, ll0, ll1, ll2, ll3, ll4, ll5, ll6, ll7, ll8, ll9, ll10, ll11, ll12, ll13, ll14, ll15, ll16, ll17, ll18, ll19, ll20, ll21, ll22, ll23, ll24, ll25, ll26, ll27, ll28, ll29, ll30, ll31, ll32, ll33, ll34, ll35, ll36, ll37, ll38, ll39, ll40, Nat.reduceSub, Nat.reduceAdd, Nat.reduceEqDiff, if_true, if_false, ifp_t, ifp_f, reduceIte, Bool.true_eq_false, Bool.false_eq_true, Option.map_some, Option.map_none, Option.bind_some, Option.bind_none, L1__law_missing, hl, decide_false]
        simp only [SR.nx.injEq, and_true, List.cons.injEq, Option.some.injEq, D.int.injEq, true_and]
        constructor <;> omega
theorem missing_ok (l : List Int) (S : Sto) : F__law_missing [ti l] S = .ok (.fl [.int (ne l), .int (ht l + ne l)]) S := by
  obtain ⟨y3, h⟩ := missing_loop (some (ti l)) l 0 0 none S
  refine fnC_rt rfl ?_ rfl
  unfold B__law_missing
  have e0 : ti l = .tup (l.map D.int) := rfl
  rw [e0] at h ⊢
  simp only [Int.add_zero] at h
  simp only [eVar, eC, eOp, eT, eAnd, eOr, eNot, eIf, eAndV, eOrV, eNotV, eCall, aNil, aCons, aStar, sOf, eTup, eFl, eLoc, eSl, oNone, oSome, iOf, eNeg, eChain, eMt, bOf, List.lookup, R.bind_ok, R.bind_er, R.bind_stuck, R.toS_ok, R.toS_er, R.toS_stuck, SR.next_nx, SR.next_rt, SR.next_er, SR.next_bk, SR.next_ct, SR.next_stuck, sNil, sSeq, sBrk, sCnt, sExp, sRet, sRetN, sIf, sSet, sAsg, sAug, sPar2, sPar3, tN, DL.tTup, DL.tNil, DL.tCons, DL.tSub, iSeq, srcOf, iRange1, iRange2, sFor, startD, List.map_cons, List.map_nil, List.length_cons, List.length_nil, List.replicate, List.cons_append, List.nil_append, List.getElem?_cons_zero, List.getElem?_cons_succ, List.set_cons_zero, List.set_cons_succ, dSub_int, dFdiv_int, dMod_int, dLt_int, dLe_int, dGt_int, dGe_int, dAddI_int, dSubI_int, dIsN_non, isN, dAdd_int, ll0, ll1, ll2, ll3, ll4, ll5, ll6, ll7, ll8, ll9, ll10, ll11, ll12, ll13, ll14, ll15, ll16, ll17, ll18, ll19, ll20, ll21, ll22, ll23, ll24, ll25, ll26, ll27, ll28, ll29, ll30, ll31, ll32, ll33, ll34, ll35, ll36, ll37, ll38, ll39, ll40, Nat.reduceSub, Nat.reduceAdd, Nat.reduceEqDiff, if_true, if_false, ifp_t, ifp_f, reduceIte, Bool.true_eq_false, Bool.false_eq_true, Option.map_some, Option.map_none, Option.bind_some, Option.bind_none, h]
  rfl
theorem cut_from {α : Type} (xs : List α) (p : Nat) : cut xs (some (p : Int)) none = xs.drop p := by
  unfold cut
  rw [HT.sIx_nat, HT.sIx_none]
  by_cases h : p ≤ xs.length
  · rw [Nat.min_eq_left h, List.take_of_length_le (by simp)]
  · rw [Nat.min_eq_right (by omega), List.drop_of_length_le (Nat.le_refl _), List.drop_of_length_le (by omega)]; simp
theorem cut_to {α : Type} (xs : List α) (p : Nat) : cut xs none (some (p : Int)) = xs.take p := by
  unfold cut
  rw [HT.sIx_nat, HT.sIx_none]
  simp only [List.drop_zero, Nat.sub_zero]
  by_cases h : p ≤ xs.length
  · rw [Nat.min_eq_left h]
  · rw [Nat.min_eq_right (by omega), List.take_of_length_le (Nat.le_refl _), List.take_of_length_le (by omega)]
theorem sl_from (l : List Int) (p : Nat) (mk : List D → Sto → R D) (S : Sto) : dSl mk (ti l) (some (p : Int)) none S = .ok (ti (l.drop p)) S := by
  show R.ok (D.tup (cut (l.map D.int) (some (p : Int)) none)) S = _
  rw [cut_from, ← List.map_drop]; rfl
theorem sl_to (l : List Int) (p : Nat) (mk : List D → Sto → R D) (S : Sto) : dSl mk (ti l) none (some (p : Int)) S = .ok (ti (l.take p)) S := by
  show R.ok (D.tup (cut (l.map D.int) none (some (p : Int)))) S = _
  rw [cut_to, ← List.map_take]; rfl
theorem add_ti (l m : List Int) (h : l.length + m.length ≤ sizeLine) (S : Sto) : dAdd (ti l) (ti m) S = .ok (ti (l ++ m)) S := by
  show ifp ((l.map D.int).length + (m.map D.int).length ≤ sizeLine) (R.ok (D.tup (l.map D.int ++ m.map D.int)) S) .stuck = _
  rw [ifp_pos (by rw [List.length_map, List.length_map]; exact h), ← List.map_append]; rfl
/-- a comprehension over range(n) that keeps the numbers of a kind -/
theorem eLc_keep {src : Ev → Sto → R Src} {T : Tg} {vs : List Nat} {c : Ev → Sto → R Bool} {f : Ev → Sto → R D} {ρ : Ev} {S : Sto} (n : Nat) (ρd : D → Ev) (p : Nat → Bool) (hs : src ρ S = .ok (rangeD 0 n, yes) S)
    (h : ∀ k, k < n → ∀ S', T (.int k) (wipeD ρ vs) S' = some (ρd (.int k), S') ∧ c (ρd (.int k)) S' = .ok (p k) S' ∧ f (ρd (.int k)) S' = .ok (.int k) S') (hn : n < 10 ^ 6) :
    eLc finFl src T vs c f ρ S = .ok (.fl (((List.range n).filter p).map fun k : Nat => D.int k)) S := by
  have e0 : rangeD 0 n = (List.range n).map fun k => D.int (k : Nat) := rangeD_nat n
  have := eLc_pure (src := src) (T := T) (vs := vs) (c := c) (f := f) (ρ := ρ) (S := S) (rangeD 0 n) ρd (fun d => match d with | .int i => p i.toNat | _ => false) (fun d => d) hs (fun d hd S' => ?_) (by simp [rangeD]; exact Nat.le_trans (Nat.le_of_lt hn) (by decide)) (fun d hd _ => ?_)
  · rw [this, e0, List.filter_map]
    simp [Function.comp_def]
  · rw [e0] at hd
    obtain ⟨k, hk, rfl⟩ := List.mem_map.mp hd
    obtain ⟨a, b, c⟩ := h k (List.mem_range.mp hk) S'
    exact ⟨a, by simpa using b, fun _ => c⟩
  · rw [e0] at hd
    obtain ⟨k, hk, rfl⟩ := List.mem_map.mp hd
    rfl
def ni (l : List Nat) : List D := l.map fun k : Nat => D.int (k : Int)
end DL
namespace DL
open PySem PySem.Spec L2
open PyProof.Rows hiding St
/-- min of two numbers, of a list or of a tuple -/
def bMinT : Fn := fun ds S => match ds with
  | [.tup xs] => (match intsOf xs with
    | some is => if is = [] then .stuck else .ok (.int (minL is)) S
    | none => .stuck)
  | ds => bMin ds S
end DL
namespace DL
end DL
namespace DL
end DL
namespace DL
open PySem PySem.Spec L2
open PyProof.Rows hiding St
def fV : D → Option V
  | .non => some .non
  | .bl b => some (.bl b)
  | .int i => some (.int i)
  | .str x => some (.str x)
  | _ => none
def fVs : List D → Option (List V)
  | [] => some []
  | d :: ds => (fV d).bind fun v => (fVs ds).map fun vs => v :: vs
theorem fV_rep {K : PySem.W.Frag} {ι : List Addr} {H : Hp} {d : D} {v x : V} (r : RepV K ι H d v) (e : fV d = some x) : v = x ∧ flatV x = true := by
  cases d with
  | non => rw [RepV] at r; cases e; exact ⟨r, rfl⟩
  | bl b => rw [RepV] at r; cases e; exact ⟨r, rfl⟩
  | int b => rw [RepV] at r; cases e; exact ⟨r, rfl⟩
  | str b => rw [RepV] at r; cases e; exact ⟨r, rfl⟩
  | _ => cases e
theorem fVs_rep {K : PySem.W.Frag} {ι : List Addr} {H : Hp} : ∀ (ds : List D) (vs xs : List V), RepL K ι H ds vs → fVs ds = some xs → vs = xs ∧ xs.all flatV = true
  | [], vs, xs, r, e => by rw [RepL] at r; cases e; subst r; exact ⟨rfl, rfl⟩
  | d :: ds, vs, xs, r, e => by
    rw [RepL] at r
    obtain ⟨v, us, rfl, a, b⟩ := r
    rw [fVs] at e
    cases h : fV d with
    | none => rw [h] at e; cases e
    | some y =>
      rw [h] at e
      cases h2 : fVs ds with
      | none => rw [h2] at e; cases e
      | some ys =>
        rw [h2] at e; cases e
        obtain ⟨rfl, f1⟩ := fV_rep a h
        obtain ⟨rfl, f2⟩ := fVs_rep ds us ys b h2
        exact ⟨rfl, by rw [List.all_cons, f1, f2]; rfl⟩
theorem fVs_ints (l : List Int) : fVs (l.map D.int) = some (l.map V.int) := by
  induction l with
  | nil => rfl
  | cons i l ih => rw [List.map_cons, fVs, ih]; rfl
theorem inV_ints (i : Int) (l : List Int) : inV (.int i) (l.map V.int) = decide (i ∈ l) := by
  unfold inV
  induction l with
  | nil => rfl
  | cons j l ih =>
    rw [List.map_cons, List.any_cons, ih]
    by_cases h : j = i
    · subst h; simp [eqV]
    · have : ¬ i = j := fun z => h z.symm
      simp [eqV, h, this]
def dIn (neg : Bool) (a b : D) (S : Sto) : R D := match a, b with
  | .str x, .str z => (match x.cps.toList with
    | [c] => .ok (.bl (if neg then !decide (c ∈ z.cps.toList) else decide (c ∈ z.cps.toList))) S
    | _ => .stuck)
  | a, b => match fV a, (seqOf S b).bind fVs with
    | some x, some ys => .ok (.bl (if neg then !inV x ys else inV x ys)) S
    | _, _ => .stuck
def rInS (neg : Bool) : R2 := fun x y H Q => ∃ (c : Nat) (z : Str), x = .str ⟨#[c]⟩ ∧ y = .str z ∧ Q (.bl (if neg then !decide (c ∈ z.cps.toList) else decide (c ∈ z.cps.toList))) H
def rInA (K : PySem.W.Frag) (neg : Bool) : R2 := fun x y H Q => rIn K neg x y H Q ∨ rInS neg x y H Q
theorem or_in {X : Cx} : OpR X (compareOp .In) (rInA X.K false) := OpR.or op_in_seq op_in_sign
theorem k_in {K : PySem.W.Frag} (neg : Bool) : OpK K (rInA K neg) (dIn neg) := by
  intro W σ ι H S x y a b Q s rx ry h
  unfold dIn at h
  split at h
  · rename_i u z
    split at h
    · rename_i c hc
      refine .inr ⟨c, z, ?_, str_at ry, h.here s _ bl_rep⟩
      rw [str_at rx]
      congr 1
      obtain ⟨⟨l⟩⟩ := u
      simp at hc
      subst hc
      rfl
    · exact h.elim
  · split at h
    · rename_i x' ys e1 e2
      cases hs : seqOf S b with
      | none => rw [hs] at e2; cases e2
      | some ds =>
        rw [hs] at e2
        obtain ⟨p, vs, rfl, q, rl⟩ := seq_at s ry hs
        obtain ⟨rfl, f1⟩ := fV_rep rx e1
        obtain ⟨rfl, f2⟩ := fVs_rep _ _ _ rl e2
        exact .inl ⟨p, vs, rfl, q, f1, f2, h.here s _ bl_rep⟩
    · exact h.elim
theorem PE.or {X : Cx} {e : Expr} {t u : TE} (h : PE X e t) (h' : PE X e u) : PE X e (fun σ H Q => t σ H Q ∨ u σ H Q) := ⟨fun pins s σ H Q I q => by
  rcases q with q | q
  · exact h.run pins s σ H Q I q
  · exact h'.run pins s σ H Q I q⟩
def dRev (mk : List D → Sto → R D) (a : D) (S : Sto) : R D := match a with
  | .tup xs => .ok (.tup xs.reverse) S
  | a => match lstOf S a with
    | some xs => mk xs.reverse S
    | none => .stuck
def eRev (mk : List D → Sto → R D) (f : Ev → Sto → R D) : Ev → Sto → R D := fun ρ S => (f ρ S).bind fun d S1 => dRev mk d S1
theorem RepL.reverse {K : PySem.W.Frag} {ι : List Addr} {H : Hp} : ∀ (ds : List D) (vs : List V), RepL K ι H ds vs → RepL K ι H ds.reverse vs.reverse
  | [], _, h => by rw [RepL] at h; subst h; exact RepL.nil
  | d :: ds, _, h => by
    rw [RepL] at h
    obtain ⟨v, r, rfl, a, b⟩ := h
    rw [List.reverse_cons, List.reverse_cons]
    exact RepL.app _ _ (RepL.reverse ds r b) _ _ (RepL.one a)
def zipD (xs ys : List D) : List D := (xs.zip ys).map fun q => .tup [q.1, q.2]
def srcZip (a b : D) (S : Sto) : R Src := match a, b with
  | .tup xs, .tup ys => .ok (zipD xs ys, yes) S
  | .fl xs, .fl ys => .ok (zipD xs ys, yes) S
  | _, _ => .stuck
def iZipD (g : Ev → Sto → R (List D)) : Ev → Sto → R Src := fun ρ S => (g ρ S).bind fun ds S1 => match ds with
  | [a, b] => srcZip a b S1
  | _ => .stuck
end DL
namespace DL
open PySem PySem.Spec L2
open PyProof.Rows hiding St
open PySem.AutoSeq1 (wpAny_loadPart')
theorem tuple_mulSame (l : Addr) (items : Array Value) (n : Nat) (dd : Option Addr) (sl : Array (Option Value)) (x : Int) (u : Tok) (c0 : (decide (x < -(2 ^ 63)) || decide (x ≥ 2 ^ 63)) = false) (c1 : (items.isEmpty || x == 1) = true) :
    Meets (Builtin.«tuple.__mul__» ⟨[.ref l, .int x u], []⟩) (fun _ R s => s.heap.get? l = some { cls := .type "tuple", dict := dd, data := .seq items n, slots := sl } ∧ R (.ok (.ret (Value.ref l))) s) :=
  .of_wp fun prog w A R s h => by
    obtain ⟨hp, g, d, tk, os⟩ := s
    obtain ⟨hl, h⟩ := h
    have f1 := AutoSeq1.idx_int
    wp_walk using wpAny_loadPart' hl
    repeat (first
      | (refine wpAny_ite_false (decide_eq_false (by rw [c0]; exact Bool.false_ne_true)) ?_; wp_walk using wpAny_loadPart' hl)
      | (refine wpAny_ite_true (decide_eq_true (by rw [c1])) ?_; wp_walk using wpAny_loadPart' hl)
      | (with_reducible rw [if_pos (show (items.isEmpty || x == 1) = true from c1)]; wp_walk using wpAny_loadPart' hl))
    exact ⟨_, rfl, h⟩
theorem tuple_mulNil (l : Addr) (items : Array Value) (n : Nat) (dd : Option Addr) (sl : Array (Option Value)) (x : Int) (u : Tok) (c0 : (decide (x < -(2 ^ 63)) || decide (x ≥ 2 ^ 63)) = false) (c1 : (items.isEmpty || x == 1) = false) (c2 : (decide (x ≤ 0) || items.isEmpty) = true) :
    Meets (Builtin.«tuple.__mul__» ⟨[.ref l, .int x u], []⟩) (fun _ R s => s.heap.get? l = some { cls := .type "tuple", dict := dd, data := .seq items n, slots := sl } ∧
      R (.ok (.ret (Value.ref s.heap.objs.size))) { s with heap := s.heap.push { cls := Value.type "tuple", data := Data.seq #[] }, toks := s.toks }) :=
  .of_wp fun prog w A R s h => by
    obtain ⟨hp, g, d, tk, os⟩ := s
    obtain ⟨hl, h⟩ := h
    have f1 := AutoSeq1.idx_int
    wp_walk using wpAny_loadPart' hl
    repeat (first
      | (refine wpAny_ite_false (decide_eq_false (by rw [c0]; exact Bool.false_ne_true)) ?_; wp_walk using wpAny_loadPart' hl)
      | (refine wpAny_ite_false (decide_eq_false (by rw [c1]; exact Bool.false_ne_true)) ?_; wp_walk using wpAny_loadPart' hl)
      | (refine wpAny_ite_true (decide_eq_true (by rw [c2])) ?_; wp_walk using wpAny_loadPart' hl))
    exact ⟨_, rfl, h⟩
def rRepTS (K : PySem.W.Frag) : R2 := fun x y H Q => ∃ l k xs, x = .ref l ∧ y = .int k ∧ SqT K H l xs ∧ -(2 ^ 63) ≤ k ∧ k < 2 ^ 63 ∧ (xs = [] ∨ k = 1) ∧ Q (.ref l) H
def rRepTN (K : PySem.W.Frag) : R2 := fun x y H Q => ∃ l k xs, x = .ref l ∧ y = .int k ∧ SqT K H l xs ∧ xs ≠ [] ∧ -(2 ^ 63) ≤ k ∧ k ≤ 0 ∧ ∀ p, H p = none → Q (.ref p) (upd H p (.tup []))
section
variable {X : Cx}
theorem op_repTS : OpR X (binaryOp .Mult) (rRepTS X.K) := by
  intro pins s σ H x y v u Q I rx ry h
  obtain ⟨l, k, xs, rfl, rfl, hT, h1, h2, hne, q⟩ := h
  cases rx
  obtain ⟨t, rfl⟩ := ry
  obtain ⟨its, r, ⟨⟨cls, dd, data, sl⟩, ho, hc, n, hd⟩, hs⟩ := I.tuple hT
  simp only at hc hd
  subst hc hd
  have hle : its.length = xs.length := r.length.symm
  have c0 : (decide (k < -(2 ^ 63)) || decide (k ≥ 2 ^ 63)) = false := by
    rw [decide_eq_false (by omega), decide_eq_false (by omega)] <;> rfl
  have c1 : (its.toArray.isEmpty || k == 1) = true := by
    rcases hne with e | e
    · subst e
      have : its = [] := List.eq_nil_of_length_eq_zero hle
      subst this; rfl
    · subst e; simp
  exact wpAny_binaryOp_repeat_ref (T := "tuple") (U := "int") (by decide) ⟨_, ho, rfl⟩ (fun s' => typeIs_int s' k t) noFill_tuple_mul F.fills_int_mul F.slot_int_rmul repeat_tuple F.slot_int_index.lookup
    (call_meets F.slot_int_rmul (typeIs_int s k t) F.entry_int_rmul (F.args_int_rmul_2 _ _) (int_rmul_tuple k t l its.toArray n dd sl)
      ⟨ho, rfl, ⟨_, ho, rfl⟩, call_meets F.slot_tuple_mul ⟨_, ho, rfl⟩ F.entry_tuple_mul (F.args_tuple_mul_2 _ _) (tuple_mulSame l its.toArray n dd sl k t c0 c1) ⟨ho, ⟨.ref l, H, I, rfl, q⟩⟩⟩)
theorem op_repTN : OpR X (binaryOp .Mult) (rRepTN X.K) := by
  intro pins s σ H x y v u Q I rx ry h
  obtain ⟨l, k, xs, rfl, rfl, hT, hne, h1, h2, q⟩ := h
  cases rx
  obtain ⟨t, rfl⟩ := ry
  obtain ⟨its, r, ⟨⟨cls, dd, data, sl⟩, ho, hc, n, hd⟩, hs⟩ := I.tuple hT
  simp only at hc hd
  subst hc hd
  have hle : its.length = xs.length := r.length.symm
  have hn : its ≠ [] := fun e => hne (by
    rw [e] at hle
    exact List.eq_nil_of_length_eq_zero hle.symm)
  have hi : its.toArray.isEmpty = false := by
    cases its with
    | nil => exact absurd rfl hn
    | cons a b => rfl
  have c0 : (decide (k < -(2 ^ 63)) || decide (k ≥ 2 ^ 63)) = false := by
    rw [decide_eq_false (by omega), decide_eq_false (by omega)] <;> rfl
  have c1 : (its.toArray.isEmpty || k == 1) = false := by
    rw [hi, Bool.false_or]
    exact beq_eq_false_iff_ne.mpr (by omega)
  have c2 : (decide (k ≤ 0) || its.toArray.isEmpty) = true := by rw [decide_eq_true h2]; rfl
  refine wpAny_binaryOp_repeat_ref (T := "tuple") (U := "int") (by decide) ⟨_, ho, rfl⟩ (fun s' => typeIs_int s' k t) noFill_tuple_mul F.fills_int_mul F.slot_int_rmul repeat_tuple F.slot_int_index.lookup
    (call_meets F.slot_int_rmul (typeIs_int s k t) F.entry_int_rmul (F.args_int_rmul_2 _ _) (int_rmul_tuple k t l its.toArray n dd sl)
      ⟨ho, rfl, ⟨_, ho, rfl⟩, call_meets F.slot_tuple_mul ⟨_, ho, rfl⟩ F.entry_tuple_mul (F.args_tuple_mul_2 _ _) (tuple_mulNil l its.toArray n dd sl k t c0 c1 c2) ⟨ho, ?_⟩⟩)
  refine ⟨.ref s.heap.objs.size, _, I.laid (t' := s.toks) (o := .tup []) (fun b ob q => Heap.get?_push_of_some _ q) (Nat.le_refl _) ?_, rfl, q _ (I.hok.fresh (Nat.le_refl _))⟩
  exact ⟨Nat.zero_le _, [], .nil, IsTup.new _ _⟩
end
noncomputable def dMulT (a b : D) (S : Sto) : R D := match a, b with
  | .tup xs, .int k => ifp (-(2 ^ 63) ≤ k ∧ k ≤ 1000 ∧ xs.length ≤ 1000) (.ok (.tup (List.replicate k.toNat xs).flatten) S) .stuck
  | a, b => dMul a b S
def rMulT (K : PySem.W.Frag) : R2 := fun x y H Q => rRepTS K x y H Q ∨ rRepTN K x y H Q ∨ rRepT K x y H Q ∨ rMulD x y H Q
theorem or_mulT {X : Cx} : OpR X (binaryOp .Mult) (rMulT X.K) := OpR.or op_repTS (OpR.or op_repTN (OpR.or op_repT or_mul))
theorem k_mulT {K : PySem.W.Frag} : OpK K (rMulT K) dMulT := by
  intro W σ ι H S x y a b Q s rx ry h
  unfold dMulT at h
  split at h
  · rename_i xs k
    unfold ifp at h
    split at h
    · rename_i hl
      have rx' := rx
      obtain ⟨p, vs, rfl, hp, rp⟩ := tup_at rx
      have hlen := RepL.length _ _ rp
      by_cases h1 : vs = [] ∨ k = 1
      · refine .inl ⟨p, k, vs, rfl, int_at ry, hp, hl.1, by omega, h1, ?_⟩
        have e : (List.replicate k.toNat xs).flatten = xs := by
          rcases h1 with e | e
          · subst e
            have : xs = [] := List.eq_nil_of_length_eq_zero hlen
            subst this; simp
          · subst e; simp
        rw [e] at h
        exact h.here s _ rx'
      · have hne : vs ≠ [] := fun z => h1 (.inl z)
        have hk : k ≠ 1 := fun z => h1 (.inr z)
        by_cases h2 : k ≤ 0
        · refine .inr (.inl ⟨p, k, vs, rfl, int_at ry, hp, hne, hl.1, h2, ?_⟩)
          have e : (List.replicate k.toNat xs).flatten = [] := by
            have : k.toNat = 0 := by omega
            rw [this]; rfl
          rw [e] at h
          exact new_tup h s RepL.nil
        · refine .inr (.inr (.inl ⟨p, k, vs, rfl, int_at ry, hp, hne, by omega, hl.2.1, by omega, ?_⟩))
          exact new_tup h s (RepL.replicate rp _)
    · exact h.elim
  · exact .inr (.inr (.inr (k_mul W σ ι H S x y a b Q s rx ry h)))
end DL
namespace DL
open PySem PySem.Spec L2
open PyProof.Rows hiding St
/-- a built-in class that errors of the program are built on -/
structure XBase (newId : String) (bmB : List Value) : Prop where
  fb : ∃ B initId, ExcBaseFacts B newId initId bmB
  pass : ∀ self, PySem.refuseLoop self "__setattr__" bmB = pure ()
  ob : bmB.contains (.type "object") = true
theorem xb_LE : XBase "LookupError.__new__" [.type "LookupError", .type "Exception", .type "BaseException", .type "object"] := ⟨⟨_, _, PySem.F.excBase_LookupError⟩, fun s => PySem.F.store_LookupError.passes s, by decide +kernel⟩
section
open PySem.Builtin PySem.Builtin.ObjectAttr PySem.HandSPX
variable {prog : Program} {w : World} {A : Around} {E : Value → Shared → Prop} {R : Result → Shared → Prop} {hp : Heap} {g : Array GenState} {d : Drawn} {t : Nat} {os : OsState}
theorem osaB {K : PySem.W.Frag} {newId : String} {bmB : List Value} {name : Str} {tk : Tok} {v : Value} {x C : Addr} {fv : Array Value} {cd : ClassData}
    (XB : XBase newId bmB) (X : K.In hp) (hx : hp.get? x = some { cls := .ref C, data := .fields fv }) (hcd : PySem.W.clsIn K C = some cd) (hm : PySem.W.excTail bmB cd.mro = true) (hne : cd.mro.isEmpty = false) (hh : cd.hasDict = true) (ha : PySem.W.findIn K (.ref C) name = some none)
    (hq : ∀ h' tk' dx, (∀ b o, b ≠ x → hp.get? b = some o → h'.get? b = some o) → hp.objs.size ≤ dx → dx ≠ x → h'.get? x = some { cls := .ref C, dict := some dx, data := .fields fv } →
      h'.Ns1 dx (fun y => if y = name then some v else none) → R (.ok (.ret .none)) ⟨h', g, d, tk', os⟩) :
    codeAny (model prog w) A (.call (.builtin "object.__setattr__") ⟨[.ref x, .str name tk, v], []⟩) R ⟨hp, g, d, t, os⟩ := by
  have I : PySem.W.InstAt hp x { cls := .ref C, data := .fields fv } C none := ⟨hx, rfl, rfl, trivial⟩
  have SF := PySem.F.store_object
  have hob : cd.mro.contains (.type "object") = true := (PySem.W.excTail_contains "object" _ hm).trans XB.ob
  have hxs : x ≠ hp.objs.size := Nat.ne_of_lt (Heap.lt_size hx)
  have msub : PySem.W.mroIn K C (.type "object") = some true := by
    unfold PySem.W.mroIn; rw [hcd, Option.bind_some, if_neg (by rw [hne]; decide), hob]
  have isub : PySem.W.Looks (model prog w) hp (isInstance (.ref x) (.type "object")) true := I.type.andThen (PySem.W.looks_mroIn X msub)
  refine codeAny_call_builtin SF.slot.plain SF.entry (@PySem.W.check_slot (model prog w) _ _ ⟨hp, g, d, t, os⟩ "object.__setattr__" "object" "__setattr__" (.ref x) [.str name tk, v] [] _ SF.kind SF.split isub (SF.args (.ref x) (.str name tk) v) ?_)
  have lm : PySem.W.Looks (model prog w) hp (mroOf (.ref C)) cd.mro := (PySem.W.looks_clsIn X hcd).andThen .now
  have lt : PySem.W.Looks (model prog w) hp (storeTaker? none) none := .now
  have lc : PySem.W.Looks (model prog w) hp (classData C) cd := PySem.W.looks_clsIn X hcd
  rw [PySem.W.osa_eq, refuse_eq]
  refine wpAny_bind (wpAny_bind (I.type.at (wpAny_bind (lm.at ?_))))
  rw [PySem.W.excTail_pass _ (XB.pass _) _ hm]
  refine wpAny_pure (wpAny_bind (I.type.at (wpAny_bind ((PySem.W.looks_findIn X ha).at (wpAny_bind (lt.at ?_))))))
  show wpAny _ _ (storeInOwnDict (.ref x) (.ref C) (.str name tk) name v false) _ _ _
  obtain ⟨nm, bs, mro, ns, qn, hd, sn, sb, ab, col, del⟩ := cd
  dsimp only at hh
  subst hh
  unfold storeInOwnDict ownDictForStores
  repeat (first | with_reducible refine store_in_new ?_ ?_ | with_reducible refine wpAny_loadPart_at hx ?_ | with_reducible refine lc.at ?_ | wp_step)
  · exact ⟨_, #[], _, (Heap.get?_update_ne _ _ _ _ hxs.symm).trans (Heap.get?_push_at rfl rfl), rfl, fun e he => absurd he (by simp), fun _ => rfl⟩
  · intro h' tk' hn' hs
    have hx₁ : (hp.push { cls := .type "dict", data := .dict #[] }).get? x = some { cls := .ref C, data := .fields fv } := Heap.get?_push_of_some _ hx
    refine hq h' tk' hp.objs.size (fun b o hb ho => ?_) (Nat.le_refl _) hxs.symm ?_ hn'
    · exact (hs.2 b (Nat.ne_of_lt (Heap.lt_size ho))).trans ((Heap.get?_update_ne _ _ _ _ hb).trans (Heap.get?_push_of_some _ ho))
    · exact (hs.2 x hxs).trans (Heap.get?_update_self _ hx₁ rfl)
end
def iA (f : Str) (p1 p2 : Pos) : Arguments := { posonlyargs := [], args := [{ arg := "self", annotation := none, pos := p1 }, { arg := f, annotation := none, pos := p2 }], vararg := none, kwonlyargs := [], kw_defaults := [], kwarg := none, defaults := [] }
def iB (f : Str) (q1 q2 q3 q4 : Pos) : List Stmt := [.Assign [.Attribute (.Name "self" q1) f q2] (.Name f q3) q4]
def iS (f : Str) : Scope := { kind := .function, names := [(PySem.Str.ofString "self", .local), (f, .local)], isGenerator := false, isCoroutine := false, more := [] }
/-- what the written part says of an own error's class n, at C -/
structure XCls (K : PySem.W.Frag) (n : Str) (C : Addr) : Prop where
  ns : PySem.W.nsIn K mainGlobals n = some (some (.ref C))
  kC : PySem.W.keepIn K (.ref C) = true
  exC : PySem.W.subIn K (.ref C) (.type "BaseException") = some true
  tyC : PySem.W.typeIn K (.ref C) = some (.type "type")
/-- .. with an __init__ of that text, at fI -/
structure XInit (K : PySem.W.Frag) (C fI : Addr) (qual f : Str) : Prop where
  cls : ∃ newId bmB nm q N bs bm sn sub ab col dd k0 k1 k2 k3 k5, XBase newId bmB ∧ K.lookup C = some (excClassObj nm q C N bs bm true sn sub ab col dd k0 k1 k2 k3 k5 newId) ∧ PySem.W.excTail bmB bm = true
  sa : PySem.W.findIn K (.ref C) "__setattr__" = some (some (.builtin "object.__setattr__"))
  noN : PySem.W.findIn K (.ref C) f = some none
  iC : PySem.W.findIn K (.ref C) "__init__" = some (some (.ref fI))
  tC : PySem.W.typeIn K (.ref fI) = some (.type "function")
  fn : ∃ (oc : Value) (od : Option Addr) (doc pm : Value) (an : Option Addr) (cdv ct : Value) (osl : Array (Option Value)) (p1 p2 q1 q2 q3 q4 : Pos),
    K.lookup fI = some ⟨oc, od, .func (PySem.W.fnOf "__init__" qual (iA f p1 p2) (iB f q1 q2 q3 q4) (iS f) .none .none doc pm an cdv ct), osl⟩ ∧ PySem.W.codeIn K cdv qual = true
  bd : ∀ (doc pm : Value) (an : Option Addr) (cdv ct : Value) (p1 p2 q1 q2 q3 q4 : Pos) (x v : Value), bindArgs (PySem.W.fnOf "__init__" qual (iA f p1 p2) (iB f q1 q2 q3 q4) (iS f) .none .none doc pm an cdv ct) ⟨[x, v], []⟩ = pure [(("self" : Str), x), (f, v)]
  fs : f ≠ "self"
  fd : (f == ("__debug__" : Str)) = false
theorem ldCf {M : Model} {s : Shared} {name : Str} {scope : Scope} {L a : Addr} {cd : Value} {m : Str → Option Value} {x : Str} {pos : Pos} {v : Value} {Q : Value → Shared → Prop} {A : Around} {E : Value → Shared → Prop} (hn : s.heap.Ns L m) (hv : m x = some v) (h : Q v s)
    (hk : scope.kind = .function) (hl : (envOfC name scope L a cd).kindOf x = some .local) (hd : (x == ("__debug__" : Str)) = false) :
    wpAny M A (eval (.Name x pos) (envOfC name scope L a cd)) Q E s := wpAny_Name (wpAny_loadName_local hk hl hn hv h) hd
theorem iS_self (f : Str) : (iS f).names.lookup ("self" : Str) = some .local := by
  show List.lookup (PySem.Str.ofString "self") [(PySem.Str.ofString "self", NameKind.local), (f, NameKind.local)] = _
  simp [List.lookup]
theorem iS_f (f : Str) : (iS f).names.lookup f = some .local := by
  show List.lookup f [(PySem.Str.ofString "self", NameKind.local), (f, NameKind.local)] = _
  by_cases h : f = PySem.Str.ofString "self"
  · simp [List.lookup, h]
  · have : (f == PySem.Str.ofString "self") = false := by simpa using h
    simp [List.lookup, this]
structure InitEnd (h h' : Heap) (x C dx t1 : Addr) (f : Str) (v : Value) : Prop where
  keep : ∀ b o, b ≠ x → h.get? b = some o → h'.get? b = some o
  obj : h'.get? x = some { cls := .ref C, dict := some dx, data := .fields #[.ref t1, .none, .none, .none, .bool false, .none] }
  dbig : h.objs.size ≤ dx
  dne : dx ≠ x
  ns : h'.Ns1 dx (fun y => if y = f then some v else none)
structure OwnMade (h h' : Heap) (e C d : Addr) (f : Str) (v : Value) : Prop where
  keep : ∀ b o, h.get? b = some o → h'.get? b = some o
  new : h.objs.size ≤ e
  obj : ∃ oe vs, h'.get? e = some oe ∧ oe.cls = .ref C ∧ oe.dict = some d ∧ oe.data = .fields vs ∧ vs[1]? = some .none ∧ vs[2]? = some .none ∧ 4 < vs.size
  dbig : h.objs.size ≤ d
  dne : d ≠ e
  ns : h'.Ns1 d (fun y => if y = f then some v else none)
section
open PySem.W PySem.Calls PySem.HandSPX
variable {prog : Program} {w : World} {A : Around} {E : Value → Shared → Prop} {R : Result → Shared → Prop} {s : Shared} {K : Frag} {C fI : Addr} {qual f : Str}
theorem x_init (T : XInit K C fI qual f) {x t0 : Addr} {v : Value} (X : K.In s.heap) (hlim : s.heap.NoLimit) (hx : s.heap.get? x = some (excO C t0)) (hroom : A.depth < recursionLimit)
    (hq : ∀ h' tk dx, InitEnd s.heap h' x C dx t0 f v → R (.ok (.ret .none)) { s with heap := h', toks := tk }) :
    codeAny (model prog w) A (.call (.ref fI) ⟨[.ref x, v], []⟩) R s := by
  obtain ⟨oc, od, doc, pm, an, cdv, ct, osl, p1, p2, q1, q2, q3, q4, ho, hcd⟩ := T.fn
  obtain ⟨newId, bmB, nm, q, N, bs, bm, sn, sub, ab, col, dd, k0, k1, k2, k3, k5, XB, hC, hbm⟩ := T.cls
  have hcl : clsIn K C = some { name := nm, bases := bs, mro := .ref C :: bm, ns := N, qualname := q, hasDict := true, slotNames := sn, subclasses := sub, abstract := ab, collection := col, hasDel := false } := by unfold clsIn; rw [hC] <;> rfl
  refine Att.call_fn (binds := [("self", .ref x), (f, v)]) X hlim ho hcd hroom (BindsTo.of_eq (T.bd _ _ _ _ _ _ _ _ _ _ _ _ _)) ?_ (fun s₁ IC => ?_) rfl rfl rfl
  · simp only [List.all_cons, List.all_nil, iS_self, iS_f]; rfl
  obtain ⟨h₁, tk₁, rfl⟩ := IC.toInCall.same
  have k : ∀ b o, s.heap.get? b = some o → h₁.get? b = some o := IC.toInCall.keep
  have hn := IC.toInCall.ns
  have X₁ : K.In h₁ := X.keeps k
  have hx₁ := k _ _ hx
  have kf : (envOfC qual (iS f) s.heap.objs.size fI cdv).kindOf f = some .local := iS_f f
  have ks : (envOfC qual (iS f) s.heap.objs.size fI cdv).kindOf "self" = some .local := iS_self f
  have mf : bindL (envOfC qual (iS f) s.heap.objs.size fI cdv).kindOf [("self", .ref x), (f, v)] (fun _ => none) f = some v := by
    simp only [bindL, kf, ks, if_true]
  have ms : bindL (envOfC qual (iS f) s.heap.objs.size fI cdv).kindOf [("self", .ref x), (f, v)] (fun _ => none) "self" = some (.ref x) := by
    simp only [bindL, kf, ks, if_true]
    rw [if_neg (fun z => T.fs z.symm)]
  show wpAny _ _ (execs (iB f q1 q2 q3 q4) _) _ _ _
  unfold iB
  refine wpAny_execs_cons (plainObj_wpAny_Assign_Attribute ?_)
  refine ldCf (v := v) hn mf (ldCf (v := .ref x) hn ms ?_ rfl ks (by decide)) rfl kf T.fd
  refine set_plain X₁ (ox := excO C t0) (od := none) ⟨hx₁, rfl, rfl, trivial⟩ T.sa ?_
  refine osaB XB X₁ hx₁ hcl (show excTail bmB (.ref C :: bm) = true from hbm) rfl rfl T.noN (fun h₃ tk₃ dx k₃ dn dne hx₃ hn₃ => ?_)
  show wpAny _ _ (execs _ _) _ _ _
  have z : s.heap.objs.size < h₁.objs.size := hn.lt
  exact wpAny_execs_nil (hq h₃ tk₃ dx ⟨fun b o hb e => k₃ b o hb (k b o e), hx₃, Nat.le_of_lt (Nat.lt_of_lt_of_le z dn), dne, hn₃⟩)
theorem x_made (T : XInit K C fI qual f) {v : Value} (X : K.In s.heap) (hlim : s.heap.NoLimit) (hroom : A.depth + 1 < recursionLimit)
    (hq : ∀ h' tk e d, OwnMade s.heap h' e C d f v → R (.ok (.ret (.ref e))) { s with heap := h', toks := tk }) :
    codeAny (model prog w) A (.call (.ref C) ⟨[v], []⟩) R s := by
  obtain ⟨newId, bmB, nm, q, N, bs, bm, sn, sub, ab, col, dd, k0, k1, k2, k3, k5, XB, hC, hbm⟩ := T.cls
  obtain ⟨B, initId, FB⟩ := XB.fb
  obtain ⟨hp, g, dr, tk, os⟩ := s
  have k : ∀ b o, hp.get? b = some o → ((hp.push (kdv_tup [v])).push (excO C hp.objs.size)).get? b = some o := fun b o e => Heap.get?_push_of_some _ (Heap.get?_push_of_some _ e)
  have hget : ((hp.push (kdv_tup [v])).push (excO C hp.objs.size)).get? (hp.objs.size + 1) = some (excO C hp.objs.size) := by heap_get
  refine call_own FB (fun X => excTail_contains X bm hbm) (X _ _ hC) (looks_findIn X T.iC) (fun self => bind_fn X self T.tC) (show [v].length ≤ sizeLine by show 1 ≤ sizeLine; decide) ?_
  refine x_init (s := ⟨(hp.push (kdv_tup [v])).push (excO C hp.objs.size), g, dr, tk, os⟩) T (X.keeps k) (hlim.keeps k) hget hroom fun h' tk' dx ⟨k', hx, dn, dne, hns⟩ => ?_
  have old : ∀ b o, hp.get? b = some o → h'.get? b = some o := fun b o e => k' b o (Nat.ne_of_lt (Nat.lt_succ_of_lt (Heap.lt_size e))) (k b o e)
  have z : hp.objs.size + 1 + 1 ≤ dx := by
    have q := dn
    rw [Heap.size_push, Heap.size_push] at q
    exact q
  exact ⟨rfl, hq h' tk' (hp.objs.size + 1) dx ⟨old, Nat.le_succ _, ⟨_, _, hx, rfl, rfl, rfl, rfl, rfl, (show 4 < 6 by decide)⟩, Nat.le_trans (Nat.le_trans (Nat.le_succ _) (Nat.le_succ _)) z, dne, hns⟩⟩
end
theorem relO_one {v : V} {v' : Value} {g : Str} (r : RelV v v') (f : Str) : RelO (List.lookup f [(g, v)]) (if f = g then some v' else none) := by
  by_cases hw : f = g
  · subst hw
    rw [if_pos rfl]
    have q : List.lookup f [(f, v)] = some v := by simp [List.lookup]
    rw [q]
    exact r
  · rw [if_neg hw]
    have qw : (f == g) = false := by simpa using hw
    have q2 : List.lookup f [(g, v)] = none := by simp [List.lookup, qw]
    rw [q2]
    trivial
section
variable {X : Cx} {C fI : Addr} {n qual f : Str}
def tMkX (C : Addr) (f : Str) (ta : TA) : L2.St → Hp → XK → Prop := fun σ H Q => ta σ H fun vs H1 => ∃ v, vs = [v] ∧ ∀ d, H1 d = none → Q (.ref C) (some d) (upd H1 d (.xd [(f, v)]))
theorem pmk_weak {e : Expr} {t : L2.St → Hp → XK → Prop} (h : L2N.PMk X e t) : L2.PMk X e t := fun pins s σ H Q I q =>
  thn (h pins s σ H Q I q) fun u s' ⟨a, oe, vs, sI, H', cls, d, e1, J, k, hne, ha, hz, r⟩ => ⟨a, oe, vs, sI, H', cls, d, e1, J, k, hne, ha, hz.zc, r⟩
theorem pmk_x5 {a : Expr} {ta : TA} {p pos : Pos} (T0 : XCls X.K n C) (T : XInit X.K C fI qual f) (hdp : X.A.depth + 1 < recursionLimit) (hm : X.mg n = some (.ref C)) (ha : PA X [a] ta) (hg : Gl X n) (hdb : (n == ("__debug__" : Str)) = false)
    (he : starEach (a :: []) X.env = (false, eval a X.env) :: starEach [] X.env := by rfl) (hpl : (backTo pos (starEach [] X.env)).any (·.1) = false := by rfl) :
    L2H.PMk5 X (.Call (.Name n p) [a] [] pos) (tMkX C f ta) := by
  intro pins s σ H Q I h
  refine wpAny_Call_Name_kw (ld_glob I hg hm ?_ hdb)
  refine PySem.W.callWith_K (h₀ := X.base) I.ok.mod.kin T0.kC (thn (ha.run pos pins s σ H _ I h) fun us s1 hh => ?_) he hpl
  obtain ⟨vs, H1, I1, r1, v, ev, q1⟩ := hh
  subst ev
  refine ⟨I1.kIn, ?_⟩
  cases r1 with
  | cons rv rn =>
    rename_i v' us'
    cases rn
    show wpAny _ _ (call (.ref C) [v']) _ _ _
    have hlim := I1.nolimit
    obtain ⟨hp, g, dr, tk, os⟩ := s1
    refine wpAny_call (x_made T I1.kIn hlim hdp fun h' tk' e d M => ?_)
    show L2N.MkP X pins σ Q (.ref e) ⟨h', g, dr, tk', os⟩ ∧ L2H.Six (.ref e) ⟨h', g, dr, tk', os⟩
    obtain ⟨oe, fv, hoe, hc, hd, hdat, h1, h2, h5⟩ := M.obj
    have hns := M.ns
    obtain ⟨G', g1, g2⟩ := restrict h' fun b => decide (b ≠ e)
    have gk : ∀ b, b ≠ e → G'.get? b = h'.get? b := fun b hb => g1 b (decide_eq_true hb)
    have ge : G'.get? e = none := g2 e (by simp)
    have old : ∀ b o, hp.get? b = some o → G'.get? b = some o := fun b o q => (gk b (Nat.ne_of_lt (Nat.lt_of_lt_of_le (Heap.lt_size q) M.new))).trans (M.keep b o q)
    have ob : ObjOk X.prog X.w (upd H1 d (.xd [(f, v)])) G' d (.xd [(f, v)]) :=
      ⟨_, hns.at (fun o q => (gk d M.dne).trans q), fun f => relO_one rv f⟩
    have J : Inv X pins σ (upd H1 d (.xd [(f, v)])) ⟨G', g, dr, tk', os⟩ := I1.laid (t' := tk') old M.dbig ob
    refine ⟨?_, fun a' oe' vs' ea hg hd' => by
      cases ea
      have hg' : h'.get? e = some oe' := hg
      rw [hoe] at hg'
      cases hg'
      rw [hdat] at hd'
      cases hd'
      exact h5⟩
    refine ⟨e, oe, fv, ⟨G', g, dr, tk', os⟩, _, .ref C, some d, rfl, J, fun b o q => ?_, ge, hoe, ⟨hc, hd, fun ws ew => by rw [hdat] at ew; cases ew; exact h2⟩, hdat, h1, ?_, rfl, I1.bare, raises_own T0.exC T0.tyC, q1 d (I1.hok.fresh M.dbig)⟩
    · by_cases hb : b = e
      · have q' : G'.get? b = some o := q
        rw [hb, ge] at q'; cases q'
      · exact (gk b hb).symm.trans q
    · rw [upd_ne (Ne.symm M.dne)]
      exact I1.hok.fresh M.new
theorem pmk_xN {a : Expr} {ta : TA} {p pos : Pos} {k : Nat} (T0 : XCls X.K n C) (T : XInit X.K C fI qual f) (hr : Room k X.A) (hm : X.mg n = some (.ref C)) (ha : PA X [a] ta) (hg : Gl X n) (hdb : (n == ("__debug__" : Str)) = false)
    (he : starEach (a :: []) X.env = (false, eval a X.env) :: starEach [] X.env := by rfl) (hpl : (backTo pos (starEach [] X.env)).any (·.1) = false := by rfl) :
    L2N.PMk X (.Call (.Name n p) [a] [] pos) (tMkX C f ta) := (pmk_x5 T0 T (by have := hr.dp; omega) hm ha hg hdb he hpl).pmk
theorem pmk_x {a : Expr} {ta : TA} {p pos : Pos} {k : Nat} (T0 : XCls X.K n C) (T : XInit X.K C fI qual f) (hr : Room k X.A) (hm : X.mg n = some (.ref C)) (ha : PA X [a] ta) (hg : Gl X n) (hdb : (n == ("__debug__" : Str)) = false)
    (he : starEach (a :: []) X.env = (false, eval a X.env) :: starEach [] X.env := by rfl) (hpl : (backTo pos (starEach [] X.env)).any (·.1) = false := by rfl) :
    L2.PMk X (.Call (.Name n p) [a] [] pos) (tMkX C f ta) := pmk_weak (pmk_xN T0 T hr hm ha hg hdb he hpl)
end
def sRaise1 (n f : Str) (g : Ev → Sto → R (List D)) : Ev → Sto → SR := fun ρ S => (g ρ S).toS ρ fun ds S1 => match ds with
  | [d] => .er ⟨.own n, [(f, d)]⟩ ρ S1
  | _ => .stuck
theorem RepF.one {K : PySem.W.Frag} {ι : List Addr} {H : Hp} {f : Str} {d : D} {v : V} (h : RepV K ι H d v) : RepF K ι H [(f, d)] [(f, v)] := by
  rw [RepF]; exact ⟨v, [], rfl, h, by rw [RepF]⟩
theorem ds_raise1 {X : Cx} {W : WX} {C fI : Addr} {n qual f : Str} {a : Expr} {g : Ev → Sto → R (List D)} {p pos pos2 : Pos} {k : Nat} (hc : X.calm = true) (tk : L2.Takes X W) (T0 : XCls X.K n C) (T : XInit X.K C fI qual f) (hr : Room k X.A) (hm : X.mg n = some (.ref C)) (ha : DA X W [a] g) (hg : Gl X n := by rfl) (hdb : (n == ("__debug__" : Str)) = false := by decide)
    (he : starEach (a :: []) X.env = (false, eval a X.env) :: starEach [] X.env := by rfl) (hpl : (backTo pos (starEach [] X.env)).any (·.1) = false := by rfl) :
    DS X W (.Raise (some (.Call (.Name n p) [a] [] pos)) none pos2) (sRaise1 n f g) := by
  refine PS.imp (L2.ps_raise hc tk (pmk_x T0 T hr hm ha hg hdb he hpl)) fun E σ H ⟨ι, ρ, S, hE, hS, h⟩ => ⟨ι, ρ, S, hE, hS, (PostS.bind h hE).mono fun ds S1 ι1 H1 G1 s1 h1 vs rs => ?_⟩
  split at h1
  · rename_i d
    obtain ⟨v, rfl, rv⟩ := RepL.one_inv rs
    refine ⟨v, rfl, fun dd hd => ?_⟩
    have G2 : Grow ι1 H1 ι1 (upd H1 dd (.xd [(f, v)])) := Grow.upd hd
    exact h1 ι1 _ σ (.ref C) (some dd) G2 (s1.upd hd) ((hE.grow G1).grow G2) ⟨⟨C, rfl, T0.ns⟩, .inr ⟨dd, [(f, v)], rfl, s1.free hd, upd_same, RepF.one (RepV.grow G2 _ _ rv)⟩⟩
  · exact h1.elim
def sRaise0 (n : Str) : Ev → Sto → SR := fun ρ S => .er ⟨.own n, []⟩ ρ S
end DL
namespace DL
open PySem PySem.Spec L2
open PyProof.Rows hiding St
abbrev XTab := List (Cn × List Cn)
def tabOf (T : List (Cn × Value × List Cn)) : XTab := T.map fun q => (q.1, q.2.2)
end DL
namespace DL
open PySem PySem.Spec L2
open PyProof.Rows hiding St
end DL
namespace DL
open PySem PySem.Spec L2
open PyProof.Rows hiding St
end DL
namespace DL
open PySem PySem.Spec L2
open PyProof.Rows hiding St
section
variable {X : Cx} {W : WX} {gd : Bool} {k : Nat} {f : Addr} {F : Fn} {x : Str} {p pos : Pos} {e : Expr} {es : List Expr} {g : Ev → Sto → R (List D)}
def eCallV (tbl : List (Str × Fn)) (f : Ev → Sto → R D) (g : Ev → Sto → R (List D)) : Ev → Sto → R D := fun ρ S => (f ρ S).bind fun d S1 => match d with
  | .fn n => (match tbl.lookup n with
    | some F => (g ρ S1).bind fun ds S2 => F ds S2
    | none => .stuck)
  | _ => .stuck
end
end DL
namespace DL
open PySem PySem.Spec L2
open PyProof.Rows hiding St
def eDict0 : Ev → Sto → R D := fun _ S => .ok (.fd []) S
theorem RepK.keys {K : PySem.W.Frag} {ι : List Addr} {H : Hp} : ∀ {kvs : List (Key × D)} {vs : List (Key × V)}, RepK K ι H kvs vs → vs.map (·.1) = kvs.map (·.1)
  | [], _, h => by rw [RepK] at h; subst h; rfl
  | (k, d) :: kvs, _, h => by
    rw [RepK] at h
    obtain ⟨v, r, rfl, a, b⟩ := h
    rw [List.map_cons, List.map_cons, RepK.keys b]
noncomputable def eListRg (mk : List D → Sto → R D) (f : Ev → Sto → R D) : Ev → Sto → R D := fun ρ S => (f ρ S).bind fun d S1 => (iOf d S1).bind fun n S2 => ifp (RgOk 0 n) (mk (rangeD 0 n.toNat) S2) .stuck
end DL
theorem L2H.RoomH.units {k : Nat} {A : PySem.Around} (r : L2H.RoomH k A) : A.units + 64 < PySem.cLine := by have := r.un; omega
namespace DL
open PySem PySem.Spec L2
open PyProof.Rows hiding St
end DL
namespace DL
open PySem PySem.Spec L2
open PyProof.Rows hiding St
end DL
namespace DL
open PySem PySem.Spec L2
open PyProof.Rows hiding St
open Builtin in
set_option maxHeartbeats 1000000 in
theorem meets_enumerate_new1 {v : Value} {o : Obj} {H : Heap → Prop} (B : Begins v o H) :
    Meets (Builtin.«enumerate.__new__» ⟨[.type "enumerate", v], []⟩) (fun _ R s => H s.heap ∧
      R (.ok (.ret (.ref (s.heap.push o).objs.size))) { s with heap := (s.heap.push o).push { cls := .type "enumerate", data := .fields #[.none, .bool false, .ref s.heap.objs.size, rawInt 0, .none, .none] } }) :=
  .of_wp fun prog w A R s h => by
    obtain ⟨hp, g, d, tk, os⟩ := s; obtain ⟨h1, h⟩ := h
    have hsub := sub_enumerate
    have q1 : ∀ {A' : Around} {E : Value → Shared → Prop} {Q : Value → Shared → Prop}, Q (.ref hp.objs.size) ⟨hp.push o, g, d, tk, os⟩ → wpAny (model prog w) A' (pyIter v) Q E ⟨hp, g, d, tk, os⟩ :=
      fun q => B.iter prog w _ _ ⟨hp, g, d, tk, os⟩ _ h1 q
    wp_walk using q1
    refine wpAny_stack_any fun st => wpAny_pure ?_
    split
    · rename_i c _ _ _ _ _
      cases (c == Value.type "enumerate")
      · wp_walk using q1
        exact ⟨_, rfl, h⟩
      · wp_walk using q1
        exact ⟨_, rfl, h⟩
    · wp_walk using q1
      exact ⟨_, rfl, h⟩
section
variable {prog : Program} {w : World} {A : Around} {E : Value → Shared → Prop} {s : Shared}
theorem enum_begins1 {v : Value} {o : Obj} {H : Heap → Prop} {Q : Value → Shared → Prop} (B : Begins v o H) (h1 : H s.heap)
    (h : ∀ h', IsEnum h' (s.heap.objs.size + 1) s.heap.objs.size 0 .none → h'.get? s.heap.objs.size = some o → h'.objs.size = s.heap.objs.size + 2 →
      (∀ b o, s.heap.get? b = some o → h'.get? b = some o) → Q (.ref (s.heap.objs.size + 1)) { s with heap := h' }) :
    wpAny (model prog w) A (call (.type "enumerate") [v]) Q E s := by
  refine callType_new F.called_enumerate (by decide) (F.typeCall_enumerate_1 _) (F.newCall_enumerate_1 _) (fun obj => F.args_object_init_2 obj _) F.entry_enumerate_new
    (meets_enumerate_new1 B) ⟨h1, ?_⟩
  have hz : (s.heap.push o).objs.size = s.heap.objs.size + 1 := Heap.size_push ..
  show _ ∧ _
  rw [hz]
  have he : IsEnum ((s.heap.push o).push { cls := .type "enumerate", data := .fields #[.none, .bool false, .ref s.heap.objs.size, rawInt 0, .none, .none] }) (s.heap.objs.size + 1) s.heap.objs.size 0 .none := by
    have := Heap.get?_push_size (s.heap.push o) (o := { cls := .type "enumerate", data := .fields #[.none, .bool false, .ref s.heap.objs.size, rawInt 0, .none, .none] }) rfl
    rw [hz] at this; exact this
  refine ⟨⟨_, he, rfl⟩, h _ he (Heap.get?_push_of_some _ (Heap.get?_push_size _ B.free)) (by rw [Heap.size_push, hz]) fun b o x => Heap.get?_push_of_some _ (Heap.get?_push_of_some _ x)⟩
theorem wpAny_pyNext_enum_endT {e it t : Addr} {i : Nat} {items : Array Value} {old : Value} {Q : Option Value → Shared → Prop} (hh : A.handled = none)
    (he : IsEnum s.heap e it i old) (hit : s.heap.IsTupleIter it t i) (hl : s.heap.IsTuple t items) (hx : items[i]? = none)
    (hQ : ∀ h', Heap.ExtBut it s.heap h' → Q none { s with heap := h' }) : wpAny (model prog w) A (pyNext (.ref e)) Q E s := by
  have hT : s.TypeIs (.ref e) "enumerate" := ⟨_, he, rfl⟩
  unfold pyNext
  refine wpAny_bind (wpAny_attempt (wpAny_callSpecial?_slot (name := Str.ofString "__next__") hT F.slot_enumerate_next
    (wpAny_call_entry F.slot_enumerate_next hT F.entry_enumerate_next ?_ (F.args_enumerate_next_1 _))))
  show wpAny _ _ (field (.ref e) 2 >>= _) _ _ _
  refine wpAny_bind (wpAny_field he rfl (x := .ref it) rfl ?_)
  refine wpAny_bind (wpAny_nextOf_tuple_end hh hit hl hx fun h' x he' hx' => ?_)
  obtain ⟨o, ho, hc⟩ := hx'
  refine wpAny_bind (wpAny_isInstance (T := "StopIteration") (b := true) ⟨o, ho, hc⟩ isSubtype_stop ?_)
  exact wpAny_pure (hQ _ he')
end
/-- the tuple at a, each item in a new pair -/
def IteT (K : PySem.W.Frag) (a : Addr) : It :=
  ⟨fun i H => ∃ (xs : List V) (x : V), SqT K H a xs ∧ xs[i]? = some x, fun i H v H' => ∃ T x, v = .ref T ∧ H T = none ∧ H' = upd H T (.tup [.int (i : Nat), x]) ∧ ∀ xs, SqT K H a xs → xs[i]? = some x, fun i H => ∃ xs : List V, SqT K H a xs ∧ xs.length ≤ i⟩
theorem turn_enumT {P : Program} {w : World} {K : PySem.W.Frag} {elts : List Expr} {kk : Nat} {tpos : Pos} (a e it : Addr) :
    Turn P w K (.Tuple elts kk tpos) (IteT K a) [e, it] e (fun i h => (∃ old, IsEnum h e it ((i : Nat) : Int) old) ∧ h.IsTupleIter it a i ∧ e ≠ it) where
  mem := by simp
  obj := fun i h st b hb => by
    obtain ⟨⟨old, he⟩, ⟨o, ho, hc, hd⟩, _⟩ := st
    have e' : b = e ∨ b = it := by simpa using hb
    rcases e' with z | z
    · rw [z]; exact ⟨_, he, fun v q => nomatch q⟩
    · rw [z]; exact ⟨o, ho, fun v q => by rw [hd] at q; cases q⟩
  keep := fun i h h' st k => let ⟨⟨old, he⟩, hi, hne⟩ := st; ⟨⟨old, k e (by simp) _ he⟩, hi.at fun o q => k it (by simp) o q, hne⟩
  item := by
    intro X hP hw hK hc i pins s σ H E I hf st hg
    subst hP hw hK
    obtain ⟨⟨old, he⟩, hit, hne⟩ := st
    obtain ⟨xs, x, hq, hx⟩ := hg
    obtain ⟨its, rv, p, hz⟩ := I.tuple hq
    obtain ⟨u, hu, ru⟩ := rv.get hx
    have hel : e < s.heap.objs.size := Heap.lt_size he
    have hil : it < s.heap.objs.size := by obtain ⟨_, q, _⟩ := hit; exact Heap.lt_size q
    have hta : a ≠ it := by
      intro hh
      obtain ⟨o, ho, hc1, _⟩ := hit
      obtain ⟨o', ho', hc2, _⟩ := p
      rw [hh, ho] at ho'
      cases ho'
      rw [hc1] at hc2
      exact absurd (congrArg (fun v => match v with | Value.type n => n | _ => "") hc2) (by decide)
    have hte : e ≠ a := by
      intro hh
      obtain ⟨o', ho', hc2, _⟩ := p
      rw [← hh] at ho'
      have he2 : s.heap.get? e = _ := he
      rw [he2] at ho'
      cases ho'
      have hc3 : Value.type "enumerate" = Value.type "tuple" := hc2
      exact absurd (congrArg (fun v => match v with | Value.type n => n | _ => "") hc3) (by decide)
    have D := Draws.tuple (prog := X.prog) (w := X.w) (A := X.A.in1) (I.ok.hd hc) it a hta its.toArray
    have hi : its.toArray[i]? = some u := by simpa using hu
    have hlt : i < its.toArray.size := by
      rcases Nat.lt_or_ge i its.toArray.size with h | h
      · exact h
      · rw [Array.getElem?_eq_none h] at hi; cases hi
    refine wpAny_pyNext_enum_itemD D he ⟨hit, p⟩ hlt hne (by simp [hne, hte]) fun y h' tk hP ho hit' hT hsz hk => ?_
    have hy : y = u := by
      have : its.toArray[i]? = some y := hP
      rw [hi] at this; cases this; rfl
    subst hy
    refine ⟨_, rfl, wpAny_letOwnedTupleGo_enum (s := { s with heap := h', toks := tk + 1 }) ho fun h'' he' sb => ?_⟩
    have hT2 : h''.get? s.heap.objs.size = some { cls := .type "tuple", data := .seq #[.int i tk, y] } := (sb.2 _ (Nat.ne_of_gt hel)).trans hT
    have new : ObjOk X.prog X.w (upd H s.heap.objs.size (.tup [.int (i : Nat), x])) h'' s.heap.objs.size (.tup [.int (i : Nat), x]) :=
      ⟨by show 2 ≤ sizeLine; decide, [.int i tk, y], .cons ⟨_, rfl⟩ (.cons ru .nil), ⟨_, hT2, rfl, _, rfl⟩⟩
    have I1 : Inv X pins σ (upd H s.heap.objs.size (.tup [.int (i : Nat), x])) { s with heap := h'', toks := tk + 1 } :=
      I.turnedNew (ch := [e, it]) (fun b ob hb q => (sb.2 b (fun z => hb (by simp [z]))).trans (hk b ob (fun z => hb (by simp [z])) (fun z => hb (by simp [z])) q)) hf (Nat.le_refl _) new
    refine ⟨.ref s.heap.objs.size, _, I1, rfl, ⟨_, x, rfl, I.hok.fresh (Nat.le_refl _), rfl, fun ys hy => by rw [I.tuple_inj hy hq]; exact hx⟩, ⟨⟨y, ?_⟩, hit'.1.at fun o q => (sb.2 it (Ne.symm hne)).trans q, hne⟩, fun b hb => ?_⟩
    · have e1 : ((i + 1 : Nat) : Int) = (i : Int) + 1 := by omega
      rw [e1]; exact he'
    · have hb' : b < s.heap.objs.size := by
        have e' : b = e ∨ b = it := by simpa using hb
        rcases e' with z | z
        · rw [z]; exact hel
        · rw [z]; exact hil
      rw [upd_ne (Nat.ne_of_lt hb')]
      exact (hf b hb).1
  done := by
    intro X hP hw hK hc i pins s σ H E I hf st hg
    subst hP hw hK
    obtain ⟨⟨old, he⟩, hit, hne⟩ := st
    obtain ⟨xs, hq, hx⟩ := hg
    obtain ⟨its, rv, p, hz⟩ := I.tuple hq
    obtain ⟨f0, f1, f2, f3, f4, f5⟩ := hf it (by simp)
    have hl := rv.length
    exact wpAny_pyNext_enum_endT (I.ok.hd hc) he hit p (by simp; omega) fun h' eb => ⟨rfl, I.turned (t' := s.toks) (fun b o hb q => eb b o hb q) f0 f1 f3 f4 f5⟩
  self := fun A i s Q E st h => let ⟨⟨_, he⟩, _⟩ := st; wpAny_pyIter_enum he h
def iEnumA (K : PySem.W.Frag) (ta : TA) : TI := fun σ H R => ta σ H fun vs H1 => ∃ a xs, vs = [.ref a] ∧ ((SqT K H1 a xs ∧ R (IteT K a) H1) ∨ (SqL K H1 a xs ∧ R (Ite K a) H1))
theorem pi_enumA {X : Cx} {e : Expr} {ta : TA} {p pos tpos : Pos} {elts : List Expr} {kk : Nat} (hg : Gl X "enumerate") (hm : X.mg "enumerate" = none) (ha : PA X [e] ta) (hs : starEach [e] X.env = [(false, eval e X.env)] := by rfl) :
    PI X (.Tuple elts kk tpos) (.Call (.Name "enumerate" p) [e] [] pos) (iEnumA X.K ta) := by
  refine ⟨fun pins s σ H R I h => ?_⟩
  refine Call_ (ld_blt I hg hm boot_enumerate (PyProof.Rows.callWith_type1 (thn (ha.run pos pins s σ H _ I h) fun us s1 ⟨vs, H1, I1, r1, q1⟩ => ?_) hs rfl))
  obtain ⟨a, xs, ex, q⟩ := q1
  subst ex
  cases r1 with
  | cons r rr =>
    cases rr
    cases r
    rcases q with ⟨hq, q⟩ | ⟨hq, q⟩
    · obtain ⟨its, rv, p', hz⟩ := I1.tuple hq
      refine enum_begins1 (begins_tuple a its.toArray) p' fun h' he hit hsz hk => wpAny_pyIter_enum he ?_
      have I2 : Inv X pins σ H1 { s1 with heap := h' } := I1.kept (t' := s1.toks) hk
      refine ⟨s1.heap.objs.size + 1, [s1.heap.objs.size + 1, s1.heap.objs.size], _, _, H1, rfl, I2, turn_enumT a (s1.heap.objs.size + 1) s1.heap.objs.size, ⟨⟨.none, he⟩, ⟨_, hit, rfl, rfl⟩, Nat.succ_ne_self _⟩, fun b hb => ?_, q⟩
      have e' : b = s1.heap.objs.size + 1 ∨ b = s1.heap.objs.size := by simpa using hb
      have hle : s1.heap.objs.size ≤ b := by
        rcases e' with z | z
        · rw [z]; exact Nat.le_add_right _ _
        · rw [z]; exact Nat.le_refl _
      exact I1.fpOk hle (I1.hok.fresh hle)
    · obtain ⟨its, rv, p', hz⟩ := I1.list hq
      refine call_enumerate_list p'.isList fun h' he hit hsz hk => wpAny_pyIter_enum he ?_
      have I2 : Inv X pins σ H1 { s1 with heap := h' } := I1.kept (t' := s1.toks) hk
      refine ⟨s1.heap.objs.size + 1, [s1.heap.objs.size + 1, s1.heap.objs.size], _, _, H1, rfl, I2, turn_enum a (s1.heap.objs.size + 1) s1.heap.objs.size, ⟨⟨.none, he⟩, hit, Nat.succ_ne_self _⟩, fun b hb => ?_, q⟩
      have e' : b = s1.heap.objs.size + 1 ∨ b = s1.heap.objs.size := by simpa using hb
      have hle : s1.heap.objs.size ≤ b := by
        rcases e' with z | z
        · rw [z]; exact Nat.le_add_right _ _
        · rw [z]; exact Nat.le_refl _
      exact I1.fpOk hle (I1.hok.fresh hle)
def enumD (k : Nat) : List D → List D
  | [] => []
  | d :: ds => .tup [.int k, d] :: enumD (k + 1) ds
theorem enumD_len : ∀ (k : Nat) (ds : List D), (enumD k ds).length = ds.length
  | _, [] => rfl
  | k, d :: ds => by rw [enumD, List.length_cons, enumD_len, List.length_cons]
theorem enumD_get : ∀ {k i : Nat} {ds : List D} {d : D}, (enumD k ds)[i]? = some d → ∃ x, ds[i]? = some x ∧ d = .tup [.int ((k + i : Nat) : Int), x]
  | k, i, [], d, h => by simp [enumD] at h
  | k, 0, x :: ds, d, h => by
    simp only [enumD, List.getElem?_cons_zero, Option.some.injEq] at h
    exact ⟨x, rfl, h.symm⟩
  | k, i + 1, x :: ds, d, h => by
    simp only [enumD, List.getElem?_cons_succ] at h
    obtain ⟨y, hy, e⟩ := enumD_get h
    refine ⟨y, by simpa using hy, ?_⟩
    rw [e]
    have : k + 1 + i = k + (i + 1) := by omega
    rw [this]
def iEnumD (g : Ev → Sto → R (List D)) : Ev → Sto → R Src := fun ρ S => (g ρ S).bind fun ds S1 => match ds with
  | [d] => (srcOf d S1).bind fun q S2 => .ok (enumD 0 q.1, q.2) S2
  | _ => .stuck
theorem di_enum {X : Cx} {W : WX} {e : Expr} {g : Ev → Sto → R (List D)} {p pos tpos : Pos} {elts : List Expr} {kk : Nat} (hg : Gl X "enumerate") (hm : X.mg "enumerate" = none) (ha : DA X W [e] g) (hs : starEach [e] X.env = [(false, eval e X.env)] := by rfl) :
    DI X W (.Tuple elts kk tpos) (.Call (.Name "enumerate" p) [e] [] pos) (iEnumD g) := by
  refine PI.imp (pi_enumA hg hm ha hs) fun σ H Rr ⟨ι, ρ, S, hE, hS, q⟩ => ⟨ι, ρ, S, hE, hS, (Post.bind q).mono fun ds S1 ι1 H1 G1 s1 h1 vs rs => ?_⟩
  split at h1
  · rename_i d
    obtain ⟨v, rfl, rv⟩ := RepL.one_inv rs
    cases e : srcOf d S1 with
    | ok q S2 =>
      rw [e] at h1
      obtain ⟨rfl, a, rfl, st, hq⟩ := src_stands e s1 rv
      have h2 := h1.here s1
      rcases st with st | st
      · obtain ⟨us, q1, r1⟩ := st ι1 H1 _ (Grow.refl _ _) s1 hq
        refine ⟨a, us, rfl, .inl ⟨q1, h2 _ fun ι2 H2 S3 G2 s2 g2 => ?_⟩⟩
        obtain ⟨ws, q3, r3⟩ := st ι2 H2 S3 G2 s2 g2
        refine ⟨fun i hi => ⟨ws, q3, by rw [← RepL.length _ _ r3]; rw [enumD_len] at hi; exact hi⟩, fun i d hd => ?_⟩
        obtain ⟨x, hx, rfl⟩ := enumD_get hd
        obtain ⟨vx, hvx, rx⟩ := RepL.get _ _ r3 i x hx
        refine ⟨⟨ws, vx, q3, hvx⟩, fun z H3 hz => ?_⟩
        obtain ⟨T, x', rfl, hT, rfl, hx'⟩ := hz
        have e1 := hx' ws q3
        rw [hvx] at e1
        cases e1
        rw [Nat.zero_add]
        exact ⟨Grow.upd hT, s2.upd hT, rep_tup s2 hT (RepL.cons int_rep (RepL.one rx))⟩
      · obtain ⟨us, q1, r1⟩ := st ι1 H1 _ (Grow.refl _ _) s1 hq
        refine ⟨a, us, rfl, .inr ⟨q1, h2 _ fun ι2 H2 S3 G2 s2 g2 => ?_⟩⟩
        obtain ⟨ws, q3, r3⟩ := st ι2 H2 S3 G2 s2 g2
        refine ⟨fun i hi => ⟨ws, q3, by rw [← RepL.length _ _ r3]; rw [enumD_len] at hi; exact hi⟩, fun i d hd => ?_⟩
        obtain ⟨x, hx, rfl⟩ := enumD_get hd
        obtain ⟨vx, hvx, rx⟩ := RepL.get _ _ r3 i x hx
        refine ⟨⟨ws, vx, q3, hvx⟩, fun z H3 hz => ?_⟩
        obtain ⟨T, x', rfl, hT, rfl, hx'⟩ := hz
        have e1 := hx' ws q3
        rw [hvx] at e1
        cases e1
        rw [Nat.zero_add]
        exact ⟨Grow.upd hT, s2.upd hT, rep_tup s2 hT (RepL.cons int_rep (RepL.one rx))⟩
    | er x S2 => rw [e] at h1; exact absurd e (by unfold srcOf; split <;> first | (intro z; cases z) | (split <;> (intro z; cases z)))
    | stuck => rw [e] at h1; exact h1.elim
  · exact h1.elim
end DL
namespace DL
open PySem PySem.Spec L2
open PyProof.Rows hiding St
end DL
namespace DL
open PySem PySem.Spec L2
open PyProof.Rows hiding St
end DL
namespace DL
open PySem PySem.Spec L2
open PyProof.Rows hiding St
end DL
namespace DL
open PySem PySem.Spec L2
open PyProof.Rows hiding St
end DL
namespace DL
open PySem PySem.Spec L2
open PyProof.Rows hiding St
end DL
namespace DL
open PySem PySem.Spec L2
open PyProof.Rows hiding St
section
variable {X : Cx} {W : WX} {pos : Pos} {e : Expr}
theorem PG.or {tg : Expr} {t u : TG} (h : PG X tg t) (h' : PG X tg u) : PG X tg (fun v σ H Q => t v σ H Q ∨ u v σ H Q) := ⟨fun pins s σ H v w Q I r q => by
  rcases q with q | q
  · exact h.run pins s σ H v w Q I r q
  · exact h'.run pins s σ H v w Q I r q⟩
theorem seqOf_fl (ds : List D) (S : Sto) : seqOf S (.fl ds) = some ds := rfl
theorem seqOf_tup (ds : List D) (S : Sto) : seqOf S (.tup ds) = some ds := rfl
theorem seqOf_ti (l : List Int) (S : Sto) : seqOf S (ti l) = some (l.map D.int) := rfl
def tSq (n : Nat) (U : Tgs) : Tg := fun d ρ S => match seqOf S d with
  | some ds => if ds.length = n then U ds ρ S else none
  | _ => none
/-- two names -/
def sSet2 (i j : Nat) (f : Ev → Sto → R D) : Ev → Sto → SR := fun ρ S => (f ρ S).toS ρ fun d S1 => .nx ((ρ.set i (some d)).set j (some d)) S1
end
end DL
namespace DL
open PySem PySem.Spec L2
open PyProof.Rows hiding St
mutual
def frzW (look : Nat → Option D) (k : Nat) : D → Option D
  | .loc n => if n < k then some (.loc n) else look n
  | .tup ds => (frzWL look k ds).map .tup
  | .fl ds => (frzWL look k ds).map .fl
  | .kl ds => if lowL k ds = true then some (.kl ds) else none
  | .ktp ds => if lowL k ds = true then some (.ktp ds) else none
  | .ztp ds => if lowL k ds = true then some (.ztp ds) else none
  | .fd kvs => if lowK k kvs = true then some (.fd kvs) else none
  | .exc c fs => if lowF k fs = true then some (.exc c fs) else none
  | .non => some .non
  | .bl b => some (.bl b)
  | .int i => some (.int i)
  | .str x => some (.str x)
  | .ty n => some (.ty n)
  | .fn n => some (.fn n)
def frzWL (look : Nat → Option D) (k : Nat) : List D → Option (List D)
  | [] => some []
  | d :: ds => (frzW look k d).bind fun e => (frzWL look k ds).map fun es => e :: es
end
def frzK (S : Sto) (k : Nat) : Nat → Nat → Option D
  | 0 => fun _ => none
  | f + 1 => fun n => match S[n]? with
    | some (.lst ds) => (frzWL (frzK S k f) k ds).map .fl
    | _ => none
def frz (S : Sto) (k f : Nat) (d : D) : Option D := frzW (frzK S k f) k d
/-- a list times a number, as a place -/
noncomputable def dMulL (a b : D) (S : Sto) : R D := match b with
  | .int k => (match lstOf S a with
    | some xs => ifp (-(2 ^ 63) ≤ k ∧ k < 2 ^ 63 ∧ xs.length * k.toNat ≤ sizeLine) (mkLoc (List.replicate k.toNat xs).flatten S) .stuck
    | _ => .stuck)
  | _ => .stuck
theorem k_mulL {K : PySem.W.Frag} : OpK K rRep dMulL := by
  intro W σ ι H S x y a b Q s rx ry h
  unfold dMulL at h
  split at h
  · rename_i k
    split at h
    · rename_i xs e
      unfold ifp at h
      split at h
      · rename_i hl
        obtain ⟨p, vs, rfl, hp, rp⟩ := lst_at s rx e
        refine ⟨p, k, vs, rfl, int_at ry, hp, hl.1, hl.2.1, ?_, new_loc h s (RepL.replicate rp _)⟩
        rw [← RepL.length _ _ rp]; exact hl.2.2
      · exact h.elim
    · exact h.elim
  · exact h.elim
theorem fnD_stuck {gd : Bool} {P : Program} {w : World} {K : PySem.W.Frag} {mg : Str → Option Value} {base : Heap} {k : Nat} {f : Addr} : FnD gd P w K mg base k f (fun _ _ => .stuck) := fun _ _ _ _ _ _ _ _ _ _ _ _ h => by
  obtain ⟨_, _, _, _, _, h⟩ := h
  exact h.elim
end DL
namespace DL
open PySem PySem.Spec L2
open PyProof.Rows hiding St
end DL
namespace DL
open PySem PySem.Spec L2
open PyProof.Rows hiding St
end DL
namespace DL
open PySem PySem.Spec L2
open PyProof.Rows hiding St
end DL
namespace DL
open PySem PySem.Spec L2
open PyProof.Rows hiding St
end DL
namespace DL
open PySem PySem.Spec L2
open PyProof.Rows hiding St
end DL
namespace DL
open PySem PySem.Spec L2
open PyProof.Rows hiding St
end DL
namespace DL
open PySem PySem.Spec L2
open PyProof.Rows hiding St
end DL
namespace DL
open PySem PySem.Spec L2
open PyProof.Rows hiding St
end DL
namespace DL
open PySem PySem.Spec L2
open PyProof.Rows hiding St
end DL
namespace DL
open PySem L2
open Sem (wp)
open PyProof.Rows (AllBare)
def deadK : Resume → Sem PySem.Fin := fun _ => .unsupported ""
def deadR : Result → Sem PySem.Fin := fun _ => .unsupported ""
/-- a frame that can't be gone on with; it looks the same from outside -/
def hush (F : Frame) : Frame := .ret deadR none false [] F.where_.1 F.where_.2 []
def deaf : GenState → GenState
  | .suspended _ l c p fs cl => .suspended deadK l c p (fs.map hush) cl
  | x => x
def asleep : GenState → Bool
  | .suspended .. => true
  | _ => false
theorem deaf_seen (x : GenState) : (deaf x).seen = x.seen := by
  cases x with
  | suspended k l c p fs cl =>
    show (GenStatus.suspended, some ((c, p) :: (fs.map hush).map Frame.where_)) = (GenStatus.suspended, some ((c, p) :: fs.map Frame.where_))
    rw [List.map_map]; rfl
  | _ => rfl
theorem deaf_bare (x : GenState) : (deaf x).bare = x.bare := by cases x <;> rfl
theorem deaf_awake {x : GenState} (h : asleep x = false) : deaf x = x := by cases x <;> first | rfl | cases h
theorem deaf_asleep (x : GenState) : asleep (deaf x) = asleep x := by cases x <;> rfl
/-- no generator's frame is among the frames that are kept -/
def clean : GenState → Prop
  | .suspended _ _ _ _ fs _ => splitAtGen fs = none
  | _ => True
def EndClean : End → Prop
  | .ret _ => True
  | .susp _ _ _ _ _ _ fs => splitAtGen fs = none
theorem EndClean.st {e : End} (h : EndClean e) : clean e.genState := by cases e <;> exact h
theorem split_app : ∀ (a b : List Frame), splitAtGen a = none → splitAtGen b = none → splitAtGen (a ++ b) = none
  | [], b, _, h => h
  | .gen .. :: a, b, h, _ => by simp [splitAtGen] at h
  | .ret .. :: a, b, h, h' => by
    simp only [splitAtGen, Option.map_eq_none_iff] at h
    simp only [List.cons_append, splitAtGen, Option.map_eq_none_iff]
    exact split_app a b h h'
theorem no_dead {M : Model} {Γ : Ctx} {p : Pos} {w : String} {fs : List Frame} {s s' : Shared} {e : End} (h : Runs M Γ p (.unsupported w) fs s e s') : False := by
  generalize ht : (Sem.unsupported w : Sem PySem.Fin) = t at h
  induction h with
  | segRet _ _ ih _ => exact ih ht
  | segGen _ _ ih _ => exact ih ht
  | segSuspOut _ _ ih => exact ih ht
  | segSuspGen _ _ _ _ ih _ => exact ih ht
  | _ => cases ht
/-- b: the state in which the run was shown; s: the state as it is; what slept in G is deaf in b -/
structure SLk (G : Array GenState) (b s : Shared) : Prop where
  heap : s.heap = b.heap
  drawn : s.drawn = b.drawn
  toks : s.toks = b.toks
  os : s.os = b.os
  size : s.gens.size = b.gens.size
  le : G.size ≤ b.gens.size
  old : ∀ (i : Nat) x, G[i]? = some x → asleep x = true → b.gens[i]? = some (deaf x) ∧ s.gens[i]? = some x
  new : ∀ (i : Nat), (∀ x, G[i]? = some x → asleep x = false) → s.gens[i]? = b.gens[i]? ∧ ∀ x, b.gens[i]? = some x → clean x
theorem SLk.eq {G : Array GenState} {b s : Shared} (h : SLk G b s) : s = { b with gens := s.gens } := by
  obtain ⟨h1, g1, d1, t1, o1⟩ := s
  obtain ⟨h2, g2, d2, t2, o2⟩ := b
  obtain ⟨e1, e2, e3, e4, _⟩ := h
  cases e1; cases e2; cases e3; cases e4; rfl
theorem SLk.or {G : Array GenState} {b s : Shared} (h : SLk G b s) (i : Nat) : (∃ x, G[i]? = some x ∧ asleep x = true) ∨ ∀ x, G[i]? = some x → asleep x = false := by
  cases e : G[i]? with
  | none => exact .inr fun x hx => by cases hx
  | some x =>
    cases ha : asleep x with
    | true => exact .inl ⟨x, rfl, ha⟩
    | false => exact .inr fun y hy => by cases hy; exact ha
theorem SLk.seen {G : Array GenState} {b s : Shared} (h : SLk G b s) {g : Nat} {x : GenState} (e : b.gens[g]? = some x) : ∃ y, s.gens[g]? = some y ∧ y.seen = x.seen := by
  rcases h.or g with ⟨y, hy, ha⟩ | hn
  · obtain ⟨q1, q2⟩ := h.old g y hy ha
    rw [q1] at e; cases e
    exact ⟨y, q2, (deaf_seen y).symm⟩
  · exact ⟨x, by rw [(h.new g hn).1]; exact e, rfl⟩
/-- one that is not deaf is the same in both -/
theorem SLk.awake {G : Array GenState} {b s : Shared} (h : SLk G b s) {g : Nat} {x : GenState} (e : b.gens[g]? = some x) (ha : asleep x = false) : s.gens[g]? = some x ∧ ∀ x, G[g]? = some x → asleep x = false := by
  rcases h.or g with ⟨y, hy, hb⟩ | hn
  · obtain ⟨q1, q2⟩ := h.old g y hy hb
    rw [q1] at e; cases e
    rw [deaf_asleep, hb] at ha; cases ha
  · exact ⟨by rw [(h.new g hn).1]; exact e, hn⟩
theorem SLk.withHeap {G : Array GenState} {b s : Shared} (h : SLk G b s) (f : Heap) : SLk G { b with heap := f } { s with heap := f } := ⟨rfl, h.drawn, h.toks, h.os, h.size, h.le, h.old, h.new⟩
theorem SLk.setG {G : Array GenState} {b s : Shared} (h : SLk G b s) {g : Nat} {x : GenState} (hn : ∀ x, G[g]? = some x → asleep x = false) (hx : clean x) : SLk G (b.setGen g x) (s.setGen g x) := by
  refine ⟨h.heap, h.drawn, h.toks, h.os, ?_, ?_, fun i y hy ha => ?_, fun i hi => ?_⟩
  · rw [GenW.setGen_size, GenW.setGen_size]; exact h.size
  · rw [GenW.setGen_size]; exact h.le
  · have hne : g ≠ i := fun z => by
      subst z
      rw [hn y hy] at ha; cases ha
    obtain ⟨q1, q2⟩ := h.old i y hy ha
    show (b.gens.setIfInBounds g x)[i]? = _ ∧ (s.gens.setIfInBounds g x)[i]? = _
    rw [Array.getElem?_setIfInBounds_ne hne, Array.getElem?_setIfInBounds_ne hne]
    exact ⟨q1, q2⟩
  · obtain ⟨q1, q2⟩ := h.new i hi
    show (s.gens.setIfInBounds g x)[i]? = (b.gens.setIfInBounds g x)[i]? ∧ ∀ y, (b.gens.setIfInBounds g x)[i]? = some y → clean y
    by_cases hg : g = i
    · subst hg
      rw [Array.getElem?_setIfInBounds_self, Array.getElem?_setIfInBounds_self, h.size]
      refine ⟨rfl, fun y hy => ?_⟩
      split at hy
      · cases hy; exact hx
      · cases hy
    · rw [Array.getElem?_setIfInBounds_ne hg, Array.getElem?_setIfInBounds_ne hg]
      exact ⟨q1, q2⟩
theorem SLk.push {G : Array GenState} {b s : Shared} (h : SLk G b s) (c : Code) : SLk G { b with gens := b.gens.push (.fresh c) } { s with gens := s.gens.push (.fresh c) } := by
  refine ⟨h.heap, h.drawn, h.toks, h.os, ?_, ?_, fun i y hy ha => ?_, fun i hi => ?_⟩
  · simp [h.size]
  · have := h.le
    simp only [Array.size_push]; omega
  · obtain ⟨q1, q2⟩ := h.old i y hy ha
    have l1 := (Array.getElem?_eq_some_iff.mp q1).1
    have l2 := (Array.getElem?_eq_some_iff.mp q2).1
    simp only [Array.getElem?_push, Nat.ne_of_lt l1, Nat.ne_of_lt l2, if_false]
    exact ⟨q1, q2⟩
  · obtain ⟨q1, q2⟩ := h.new i hi
    simp only [Array.getElem?_push, h.size]
    refine ⟨?_, fun y hy => ?_⟩
    · split
      · rfl
      · exact q1
    · split at hy
      · cases hy; trivial
      · exact q2 y hy
/-- what was let go stays so -/
structure Gone (s s' : Shared) : Prop where
  size : s.heap.objs.size ≤ s'.heap.objs.size
  none : ∀ b, b < s.heap.objs.size → s.heap.get? b = none → s'.heap.get? b = none
theorem Gone.refl (s : Shared) : Gone s s := ⟨Nat.le_refl _, fun _ _ h => h⟩
theorem Gone.trans {a b c : Shared} (h : Gone a b) (k : Gone b c) : Gone a c := ⟨Nat.le_trans h.size k.size, fun d hd e => k.none d (Nat.lt_of_lt_of_le hd h.size) (h.none d hd e)⟩
theorem Gone.heap {a b c : Shared} (h : Gone a b) (e : c.heap = b.heap) : Gone a c := ⟨by rw [e]; exact h.size, fun d hd q => by rw [e]; exact h.none d hd q⟩
theorem Gone.src {a b c : Shared} (h : Gone b c) (e : a.heap = b.heap) : Gone a c := ⟨by rw [e]; exact h.size, fun d hd q => h.none d (by rw [← e]; exact hd) (by rw [← e]; exact q)⟩
theorem gone_upd {s : Shared} {a : Addr} {f : Obj → Obj} (h : (s.heap.get? a).isSome = true) : Gone s { s with heap := s.heap.update a f } where
  size := by show _ ≤ (s.heap.update a f).objs.size; rw [Heap.size_after_update]; exact Nat.le_refl _
  none := fun b hb e => by
    have hne : a ≠ b := fun z => by rw [z, e] at h; cases h
    show (s.heap.update a f).get? b = _
    rw [Heap.get?_update_other _ _ hne]; exact e
theorem gone_push {s : Shared} {o : Obj} : Gone s { s with heap := s.heap.push o } where
  size := by show _ ≤ (s.heap.push o).objs.size; rw [Heap.size_push]; omega
  none := fun b hb e => by
    show (s.heap.push o).get? b = _
    unfold Heap.get? at e ⊢
    have : (s.heap.push o).objs[b]? = s.heap.objs[b]? := by
      show (s.heap.objs.push o)[b]? = _
      rw [Array.getElem?_push, if_neg (Nat.ne_of_lt hb)]
    rw [this]; exact e
theorem runs_gone {M : Model} {Γ : Ctx} {p : Pos} {t : Sem PySem.Fin} {fs : List Frame} {s s' : Shared} {e : End} (h : Runs M Γ p t fs s e s') : Gone s s' := by
  induction h with
  | done => exact Gone.refl _
  | raise => exact Gone.refl _
  | yield => exact Gone.refl _
  | update ho _ ih => exact (gone_upd ho).trans ih
  | alloc _ ih => exact gone_push.trans ih
  | call _ _ ih1 ih2 => exact ih1.trans ih2
  | resumeFresh _ _ _ _ ih1 ih2 => exact Gone.src (ih1.trans (ih2.src rfl)) rfl
  | resumeSuspended _ _ _ _ ih1 ih2 => exact Gone.src (ih1.trans (ih2.src rfl)) rfl
  | segRet _ _ ih1 ih2 => exact ih1.trans ih2
  | segGen _ _ ih1 ih2 => exact ih1.trans (ih2.src rfl)
  | segSuspGen _ _ _ _ ih1 ih2 => exact ih1.trans (ih2.src rfl)
  | _ => rename_i ih; exact ih.src rfl
theorem wakes_gone {M : Model} {Γ : Ctx} {p : Pos} {g : Nat} {r : Resume} {s s' : Shared} {res : GenResult} (h : Wakes M Γ p g r s res s') : Gone s s' := by
  unfold Wakes at h
  split at h
  · exact h.elim
  · split at h
    · obtain ⟨e1, s1, hr, _, _, rfl⟩ := h
      exact Gone.heap (b := s1) (Gone.src (runs_gone hr) rfl) rfl
    · rw [h.2]; exact Gone.refl _
    · rw [h.2]; exact (Gone.refl _).heap rfl
  · obtain ⟨e1, s1, hr, _, _, rfl⟩ := h
    exact Gone.heap (b := s1) (Gone.src (runs_gone hr) rfl) rfl
  · rw [h.2]; exact Gone.refl _
  · rw [h.2]; exact Gone.refl _
theorem wp_gone {α : Type} (M : Model) (Γ : Ctx) (s0 : Shared) (t : Sem α) : ∀ (Q : α → Pos → Shared → Prop) (E : Value → Pos → Shared → Prop) (p : Pos) (s : Shared), Gone s0 s → wp M Γ t Q E p s →
    wp M Γ t (fun a p' s' => Gone s0 s' ∧ Q a p' s') (fun e p' s' => Gone s0 s' ∧ E e p' s') p s := by
  induction t with
  | pure a => intro Q E p s l h; exact ⟨l, h⟩
  | raise e => intro Q E p s l h; exact ⟨l, h⟩
  | unsupported _ => intro Q E p s _ h; exact h
  | finish _ => intro Q E p s _ h; exact h
  | register _ _ => intro Q E p s _ h; exact h
  | yield _ _ _ _ => intro Q E p s _ h; exact h
  | fork _ _ => intro Q E p s _ h; exact h
  | await _ _ _ _ _ => intro Q E p s _ h; exact h
  | rule _ k ih => intro Q E p s l h; exact ih () Q E p s l h
  | «at» p' k ih => intro Q E p s l h; exact ih () Q E p' s l h
  | point _ k ih => intro Q E p s l h; exact ih () Q E p s l h
  | ask k ih => intro Q E p s l h; exact ih _ Q E p s l h
  | handled own k ih => intro Q E p s l h; exact ih _ Q E p s l h
  | stack k ih => intro Q E p s l h; exact ih _ Q E p s l h
  | thread k ih => intro Q E p s l h; exact ih _ Q E p s l h
  | load a _ k ih => intro Q E p s l h; obtain ⟨o, ho, h⟩ := h; exact ⟨o, ho, ih o Q E p s l h⟩
  | update a _ f k ih => intro Q E p s l h; exact ⟨h.1, ih () Q E p _ (l.trans (gone_upd h.1)) h.2⟩
  | loadIfAlive a k ih => intro Q E p s l h; exact ih _ Q E p s l h
  | alloc o k ih => intro Q E p s l h; exact ih _ Q E p _ (l.trans gone_push) h
  | fresh k ih => intro Q E p s l h; exact ih _ Q E p _ (l.heap rfl) h
  | choose src n k ih => intro Q E p s l h; exact ⟨h.1, ih _ Q E p _ (l.heap rfl) h.2⟩
  | os rq _ k ih => intro Q E p s l h; exact ih _ Q E p _ (l.heap rfl) h
  | call c hd _ _ k ih => intro Q E p s l h; obtain ⟨r, s1, hr, h⟩ := h; exact ⟨r, s1, hr, ih r Q E p s1 (l.trans (runs_gone hr)) h⟩
  | genState g k ih => intro Q E p s l h; obtain ⟨x, hx, h⟩ := h; exact ⟨x, hx, ih _ Q E p s l h⟩
  | newGen c k ih => intro Q E p s l h; exact ih _ Q E p _ (l.heap rfl) h
  | resume g r _ k ih => intro Q E p s l h; obtain ⟨res, s1, hw, h⟩ := h; exact ⟨res, s1, hw, ih res Q E p s1 (l.trans (wakes_gone hw)) h⟩
theorem wpAny_gone {α : Type} {M : Model} {A : Around} {t : Sem α} {Q : α → Shared → Prop} {E : Value → Shared → Prop} {s : Shared} (h : wpAny M A t Q E s) : wpAny M A t (fun a s' => Gone s s' ∧ Q a s') (fun e s' => Gone s s' ∧ E e s') s :=
  fun Γ p hΓ => wp_gone M Γ s t _ _ p s (Gone.refl s) (h Γ p hΓ)
/-- the state with all sleepers deaf -/
def still (s : Shared) : Shared := { s with gens := s.gens.map deaf }
/-- what sleeps in s sleeps in s' as it did; what was let go stays so -/
structure Kept (s s' : Shared) : Prop where
  gen : ∀ (i : Nat) x, s.gens[i]? = some x → asleep x = true → s'.gens[i]? = some x
  gone : Gone s s'
  size : s.gens.size ≤ s'.gens.size
theorem Kept.refl (s : Shared) : Kept s s := ⟨fun _ _ h _ => h, Gone.refl s, Nat.le_refl _⟩
theorem Kept.trans {a b c : Shared} (h : Kept a b) (k : Kept b c) : Kept a c := ⟨fun i x e z => k.gen i x (h.gen i x e z) z, h.gone.trans k.gone, Nat.le_trans h.size k.size⟩
theorem SLk.kept {b s' s : Shared} (l : SLk s.gens b s') (g : Gone s s') : Kept s s' := ⟨fun i x e z => (l.old i x e z).2, g, by rw [l.size]; exact l.le⟩
/-- what slept below n sleeps on -/
structure Gon (n : Nat) (s s' : Shared) : Prop where
  gone : Gone s s'
  size : s.gens.size ≤ s'.gens.size
  low : ∀ (i : Nat) x, i < n → s.gens[i]? = some x → asleep x = true → s'.gens[i]? = some x
theorem Gon.refl (n : Nat) (s : Shared) : Gon n s s := ⟨Gone.refl s, Nat.le_refl _, fun _ _ _ h _ => h⟩
theorem Gon.trans {n : Nat} {a b c : Shared} (h : Gon n a b) (k : Gon n b c) : Gon n a c := ⟨h.gone.trans k.gone, Nat.le_trans h.size k.size, fun i x l e z => k.low i x l (h.low i x l e z) z⟩
theorem Gon.le {n m : Nat} {a b : Shared} (h : Gon n a b) (l : m ≤ n) : Gon m a b := ⟨h.gone, h.size, fun i x q e z => h.low i x (Nat.lt_of_lt_of_le q l) e z⟩
theorem Kept.gon {s s' : Shared} (h : Kept s s') (n : Nat) : Gon n s s' := ⟨h.gone, h.size, fun i x _ e z => h.gen i x e z⟩
theorem SLk.bare {G : Array GenState} {b s : Shared} (l : SLk G b s) (h : AllBare b.gens) : AllBare s.gens := fun x hx => by
  obtain ⟨i, hi, rfl⟩ := Array.mem_iff_getElem.mp hx
  have hs : s.gens[i]? = some s.gens[i] := Array.getElem?_eq_getElem hi
  rcases l.or i with ⟨y, hy, ha⟩ | hn
  · obtain ⟨q1, q2⟩ := l.old i y hy ha
    rw [hs] at q2
    have e : s.gens[i] = y := Option.some.inj q2
    rw [e, ← deaf_bare]
    exact h _ (Array.mem_of_getElem? q1)
  · rw [(l.new i hn).1] at hs
    exact h _ (Array.mem_of_getElem? hs)
theorem still_bare {s : Shared} (h : AllBare s.gens) : AllBare (still s).gens := fun x hx => by
  obtain ⟨y, hy, rfl⟩ := Array.mem_map.mp hx
  rw [deaf_bare]; exact h y hy
end DL
namespace DL
open PySem PySem.Spec L2
open PyProof.Rows hiding St
mutual
def tt : D → Bool
  | .non => true
  | .bl _ => true
  | .int _ => true
  | .str _ => true
  | .tup ds => ttL ds
  | .ty _ => false
  | .fn _ => false
  | .fl _ => false
  | .kl _ => false
  | .ktp _ => false
  | .ztp _ => false
  | .fd _ => false
  | .exc _ _ => false
  | .loc _ => false
def ttL : List D → Bool
  | [] => true
  | d :: ds => tt d && ttL ds
end
/-- the tuples stand -/
def TF (u : HO) : Prop := (∃ xs, u = .tup xs) ∨ ∃ o v, u = .frz o v
def Tx (H H' : Hp) : Prop := ∀ a u, TF u → H a = some u → H' a = some u
theorem Tx.tup {H H' : Hp} (t : Tx H H') {a : Addr} {xs : List V} (e : H a = some (.tup xs)) : H' a = some (.tup xs) := t a _ (.inl ⟨_, rfl⟩) e
theorem Tx.frz {H H' : Hp} (t : Tx H H') {a : Addr} {o : Obj} {u : HO} (e : H a = some (.frz o u)) : H' a = some (.frz o u) := t a _ (.inr ⟨_, _, rfl⟩) e
theorem TF.ne {u : HO} (t : TF u) : ∀ φ, u ≠ .ext φ := fun φ z => by
  rcases t with ⟨xs, rfl⟩ | ⟨o, v, rfl⟩ <;> cases z
theorem Tx.refl (H : Hp) : Tx H H := fun _ _ _ e => e
theorem Tx.trans {H H1 H2 : Hp} (a : Tx H H1) (b : Tx H1 H2) : Tx H H2 := fun c u f e => b c u f (a c u f e)
section
variable {K : PySem.W.Frag} {ι : List Addr} {H H' : Hp}
mutual
theorem tt_move (hx : ∀ a xs, a ∉ ι → H a = some (.tup xs) → a ∉ ι' ∧ H' a = some (.tup xs)) (hf : ∀ a o u, H a = some (.frz o u) → H' a = some (.frz o u)) : ∀ (d : D) (v : V), tt d = true → RepV K ι H d v → RepV K ι' H' d v
  | .non, _, _, h => by rw [RepV] at h ⊢; exact h
  | .bl _, _, _, h => by rw [RepV] at h ⊢; exact h
  | .int _, _, _, h => by rw [RepV] at h ⊢; exact h
  | .str _, _, _, h => by rw [RepV] at h ⊢; exact h
  | .tup ds, _, t, h => by
    rw [RepV] at h ⊢
    rw [tt] at t
    obtain ⟨a, vs, e, q, r⟩ := h
    refine ⟨a, vs, e, ?_, tt_moveL hx hf ds vs t r⟩
    rcases q with ⟨n, q⟩ | ⟨o, q⟩ | q
    · exact .inl (hx a vs n q)
    · exact .inr (.inl ⟨o, hf a o _ q⟩)
    · exact .inr (.inr q)
  | .ty _, _, t, _ => by rw [tt] at t; cases t
  | .fn _, _, t, _ => by rw [tt] at t; cases t
  | .fl _, _, t, _ => by rw [tt] at t; cases t
  | .kl _, _, t, _ => by rw [tt] at t; cases t
  | .ktp _, _, t, _ => by rw [tt] at t; cases t
  | .ztp _, _, t, _ => by rw [tt] at t; cases t
  | .fd _, _, t, _ => by rw [tt] at t; cases t
  | .exc _ _, _, t, _ => by rw [tt] at t; cases t
  | .loc _, _, t, _ => by rw [tt] at t; cases t
theorem tt_moveL (hx : ∀ a xs, a ∉ ι → H a = some (.tup xs) → a ∉ ι' ∧ H' a = some (.tup xs)) (hf : ∀ a o u, H a = some (.frz o u) → H' a = some (.frz o u)) : ∀ (ds : List D) (vs : List V), ttL ds = true → RepL K ι H ds vs → RepL K ι' H' ds vs
  | [], _, _, h => by rw [RepL] at h ⊢; exact h
  | d :: ds, _, t, h => by
    rw [RepL] at h ⊢
    rw [ttL, Bool.and_eq_true] at t
    obtain ⟨v, r, e, a, b⟩ := h
    exact ⟨v, r, e, tt_move hx hf d v t.1 a, tt_moveL hx hf ds r t.2 b⟩
end
theorem tt_outL {d : List D} {v : List V} (t : ttL d = true) (r : RepL K ι H d v) : RepL K [] H d v := tt_moveL (fun a xs _ e => ⟨by simp, e⟩) (fun _ _ _ e => e) d v t r
theorem tt_grow {d : D} {v : V} (t : tt d = true) (x : Tx H H') (r : RepV K [] H d v) : RepV K [] H' d v := tt_move (fun a xs _ e => ⟨by simp, x.tup e⟩) (fun _ _ _ e => x.frz e) d v t r
theorem Sim.noTup {S : Sto} (s : Sim K ι H S) {a : Addr} {xs : List V} (e : H a = some (.tup xs)) : a ∉ ι := fun z => by
  obtain ⟨n, hn, rfl⟩ := List.mem_iff_getElem.mp z
  have hs : n < S.length := by rw [← s.len]; exact hn
  have := s.ob n ι[n] S[n] (List.getElem?_eq_some_iff.mpr ⟨hn, rfl⟩) (List.getElem?_eq_some_iff.mpr ⟨hs, rfl⟩)
  revert this
  cases S[n] with
  | lst ds => rintro ⟨vs, q, _⟩; rw [e] at q; cases q
  | ins C fs => rintro ⟨C', dx, vs, _, q, _⟩; rw [e] at q; cases q
  | dct ks => rintro ⟨vs, q, _⟩; rw [e] at q; cases q
  | dtt ks => rintro ⟨o, vs, q, _⟩; rw [e] at q; cases q
  | scr ds => rintro ⟨o, vs, q, _⟩; rw [e] at q; cases q
  | tpl ds => rintro ⟨o, vs, q, _⟩; rw [e] at q; cases q
  | dkt ks => rintro ⟨vs, q, _⟩; rw [e] at q; cases q
  | dkl ks => rintro ⟨o, vs, q, _⟩; rw [e] at q; cases q
  | tab x q => rintro ⟨_, ps, q, _⟩; rw [e] at q; cases q
  | clo i l ds => rintro ⟨_, _, _, _, _, q, _⟩; rw [e] at q; cases q
  | ded => rintro ⟨o, q⟩; rw [e] at q; cases q
/-- all that stands stays -/
theorem Grow.all {ι : List Addr} (h : ∀ a o, H a = some o → H' a = some o) : Grow ι H ι H' := ⟨List.prefix_rfl, fun a o e _ => h a o e, fun _ z n => absurd z n, fun a od u e => h a _ e⟩
theorem Sim.all {S : Sto} (s : Sim K ι H S) (h : ∀ a o, H a = some o → H' a = some o) : Sim K ι H' S :=
  ⟨s.nd, s.len, fun n a o e1 e2 => by
    have q := s.ob n a o e1 e2
    obtain ⟨u, hu⟩ := q.some
    exact q.grow (Grow.all h) ((h a u hu).trans hu.symm)⟩
end
def ttE (ρ : Ev) : Prop := ∀ (i : Nat) d, ρ[i]? = some (some d) → tt d = true
theorem RepE.tx {K : PySem.W.Frag} {H H' : Hp} {σ : St} {ρ : Ev} (t : ttE ρ) (x : Tx H H') (h : RepE K [] H σ ρ) : RepE K [] H' σ ρ :=
  ⟨h.1, fun i d e => let ⟨v, e', r⟩ := h.2 i d e; ⟨v, e', tt_grow (t i d e) x r⟩⟩
def hcut (h : Heap) (L : Nat) : Heap := { h with objs := h.objs.extract 0 L }
theorem hcut_get {h : Heap} {L b : Nat} (hb : b < L) : (hcut h L).get? b = h.get? b := by
  have : (h.objs.extract 0 L)[b]? = h.objs[b]? := by
    rw [Array.getElem?_extract]
    by_cases hs : b < h.objs.size
    · rw [if_pos (by omega)]; simp
    · rw [if_neg (by omega), Array.getElem?_eq_none (by omega)]
  unfold Heap.get? hcut
  rw [this]
theorem hcut_some {h : Heap} {L b : Nat} {o : Obj} (e : (hcut h L).get? b = some o) : b < L ∧ h.get? b = some o := by
  have hs := Heap.lt_size e
  have hl : b < L := by
    have : (hcut h L).objs.size ≤ L := by show (h.objs.extract 0 L).size ≤ L; rw [Array.size_extract]; omega
    exact Nat.lt_of_lt_of_le hs this
  exact ⟨hl, by rw [← hcut_get hl]; exact e⟩
theorem hcut_size (h : Heap) (L : Nat) : (hcut h L).objs.size = min L h.objs.size := by
  show (h.objs.extract 0 L).size = _
  rw [Array.size_extract]; omega
open Classical in
/-- what the generator must not touch: the untracked young objects, as they are -/
noncomputable def gmark (L : Addr) (pv : List Addr) (H : Hp) (h : Heap) : Hp := fun b => match H b with
  | some u => some u
  | none => if L ≤ b ∧ b ∉ pv then (match h.get? b with
    | some o => some (.ext fun h' => h'.get? b = some o)
    | none => none) else none
theorem gmark_some {L : Addr} {pv : List Addr} {H : Hp} {h : Heap} {b : Addr} {u : HO} (e : H b = some u) : gmark L pv H h b = some u := by unfold gmark; rw [e]
theorem gmark_low {L : Addr} {pv : List Addr} {H : Hp} {h : Heap} {b : Addr} (e : H b = none) (hb : b < L) : gmark L pv H h b = none := by
  unfold gmark; rw [e]; dsimp only; rw [if_neg (fun z => absurd z.1 (Nat.not_le_of_lt hb))]
theorem gmark_pv {L : Addr} {pv : List Addr} {H : Hp} {h : Heap} {b : Addr} (e : H b = none) (hb : b ∈ pv) : gmark L pv H h b = none := by
  unfold gmark; rw [e]; dsimp only; rw [if_neg (fun z => z.2 hb)]
theorem gmark_ext {L : Addr} {pv : List Addr} {H : Hp} {h : Heap} {b : Addr} {o : Obj} (e : H b = none) (hb : L ≤ b) (hp : b ∉ pv) (ho : h.get? b = some o) : gmark L pv H h b = some (.ext fun h' => h'.get? b = some o) := by
  unfold gmark; rw [e]; dsimp only; rw [if_pos ⟨hb, hp⟩, ho]
theorem gmark_inv {L : Addr} {pv : List Addr} {H : Hp} {h : Heap} {b : Addr} {u : HO} (e : gmark L pv H h b = some u) : H b = some u ∨ (H b = none ∧ L ≤ b ∧ b ∉ pv ∧ ∃ o, h.get? b = some o ∧ u = .ext fun h' => h'.get? b = some o) := by
  unfold gmark at e
  cases q : H b with
  | some v => rw [q] at e; exact .inl e
  | none =>
    rw [q] at e
    dsimp only at e
    split at e
    · rename_i hh
      cases ho : h.get? b with
      | none => rw [ho] at e; cases e
      | some o => rw [ho] at e; cases e; exact .inr ⟨rfl, hh.1, hh.2, o, rfl, rfl⟩
    · cases e
open Classical in
noncomputable def gunmark (L : Addr) (pv : List Addr) (H : Hp) (h : Heap) (H' : Hp) : Hp := fun b => if H b = none ∧ L ≤ b ∧ b ∉ pv ∧ ∃ o, h.get? b = some o then none else H' b
/-- the generator's context while it runs for a consumer -/
noncomputable def gx (N : List Str) (env : Env) (X : Cx) (pv : List Addr) (H : Hp) (s : Shared) : Cx where
  prog := X.prog
  w := X.w
  K := X.K
  mg := X.mg
  base := X.base
  A := X.A.in1.deeper env
  N := N
  s_0 := { s with heap := hcut s.heap env.locals }
  H_0 := gmark env.locals pv H s.heap
  env := env
  outer := X.stack
  stack := env :: X.stack
  ex := []
  fn := fun _ => true
  calm := true
  pn := []
  xe := fun _ _ => False
/-- a frame of a generator def without cells -/
structure GEnv (N : List Str) (env : Env) : Prop where
  kind : env.scope.kind = .function
  glob : env.globals = mainGlobals
  blt : env.builtins = builtinsNs
  cells : ∀ x, env.cells.lookup x = none
  nocell : ∀ x, env.kindOf x ≠ some .cell ∧ env.kindOf x ≠ some .free
  frame : env.frame = some env.locals
/-- the consumer, seen from the generator -/
structure Cons (L : Addr) (X : Cx) : Prop where
  calm : X.calm = true
  fr : ∀ b ∈ frs X.stack, b < L
  bsz : X.base.objs.size ≤ L
/-- what the frame holds: the slots' values by the object -/
def Slots (N : List Str) (env : Env) (lo : Obj) (σ : St) : Prop := (∀ v, lo.data ≠ .cell v) ∧ σ.length = N.length ∧ ∃ m, (∀ h : Heap, h.get? env.locals = some lo → h.Ns env.locals m) ∧
  ∀ (i : Nat) (x : Str) (v : V), N[i]? = some x → σ[i]? = some (some v) → Vis env.scope x → ∃ u, RelV v u ∧ env.kindOf x = some .local ∧ m x = some u
section
variable {N : List Str} {env : Env} {X : Cx} {pins : List (Addr × Obj)} {σ σg : St} {H H' : Hp} {s s' : Shared} {pv : List Addr} {ip : List (Addr × Obj)}
theorem Slots.of (g : GEnv N env) (I : Inv (gx N env X pv H s) ip σg H' s') : ∃ lo, s'.heap.get? env.locals = some lo ∧ Slots N env lo σg := by
  obtain ⟨m, ⟨o, es, ep, ho, hd, hk, hm⟩, hl⟩ := I.loc
  refine ⟨o, ho, (fun v (z : o.data = .cell v) => by rw [hd] at z; cases z), I.len, m, fun h e => ⟨o, es, ep, e, hd, hk, hm⟩, fun i x v e1 e2 e3 => ?_⟩
  obtain ⟨u, r, l⟩ := hl i x v e1 e2 e3
  refine ⟨u, r, ?_⟩
  rcases l with l | ⟨k, _⟩
  · exact l
  · exact absurd k (fun k => k.elim (g.nocell x).1 (g.nocell x).2)
theorem stk_no (I : Inv X pins σ H s) {b : Addr} (h : FpOk X pins H b) : b ∉ frs X.stack := fun z => by
  rcases List.mem_cons.mp (I.stkSub b z) with e | e
  · exact h.2.1 e
  · exact h.2.2.1 e
/-- woken -/
theorem gwake {lo : Obj} (g : GEnv N env) (c : Cons env.locals X) (I : Inv X pins σ H s) (hl : s.heap.get? env.locals = some lo) (sl : Slots N env lo σg) (hL : FpOk X pins H env.locals) (hLp : env.locals ∈ pv)
    (hip : ∀ p ∈ ip, s.heap.get? p.1 = some p.2 ∧ (∀ v, p.2.data ≠ .cell v) ∧ FpOk X pins H p.1 ∧ p.1 ∈ pv ∧ p.1 ≠ env.locals) : Inv (gx N env X pv H s) ip σg (gmark env.locals pv H s.heap) s := by
  obtain ⟨_, len, m, ns, look⟩ := sl
  have nx : ∀ {b : Addr}, b ∉ ([] : List Addr) := fun z => by cases z
  have hsz : env.locals < s.heap.objs.size := Heap.lt_size hl
  refine ⟨⟨I.ok.mod, g.kind, g.glob, g.blt, ?_, fun x y d e => ?_, fun x e => ?_, fun x d _ e => ?_, fun _ => I.ok.hd c.calm, Around.frames_deeper I.ok.frames, .inr ⟨rfl, g.frame⟩, fun b z => absurd z nx, fun b o e => ?_, ?_, fun b _ _ => nx, fun b z => absurd z nx, ?_, fun b hb => ?_⟩,
    rfl, I.bare, ⟨fun b o e _ _ _ => (hcut_some e).2, fun b o e _ _ _ => ⟨o.slots, (hcut_some e).2⟩, fun b o _ e _ => e, fun b o e _ => ⟨o, (hcut_some e).2⟩, fun _ _ e => e, fun _ _ _ e => e, fun b ps e => ⟨#[], e.trans (by simp)⟩⟩,
    ⟨m, ns _ hl, fun i x v e1 e2 e3 => ?_⟩, fun x d e => ?_, gmark_pv hL.1 hLp, fun x d e => ?_, fun p hp => ?_, fun b u e => ?_, len⟩
  · show (hcut s.heap env.locals).objs.size ≤ env.locals
    rw [hcut_size]; omega
  · rw [show (gx N env X pv H s).env.cells.lookup x = none from g.cells x] at e; cases e
  · exact absurd e (fun z => z.elim (g.nocell x).1 (g.nocell x).2)
  · rw [show (gx N env X pv H s).env.cells.lookup x = none from g.cells x] at e; cases e
  · obtain ⟨q1, q2⟩ := I.bs b o e
    have hb : b < env.locals := Nat.lt_of_lt_of_le (Heap.lt_size e) c.bsz
    exact ⟨by show (hcut s.heap env.locals).get? b = _; rw [hcut_get hb]; exact q1, gmark_low q2 hb⟩
  · show X.base.objs.size ≤ (hcut s.heap env.locals).objs.size
    rw [hcut_size]
    have h1 : X.base.objs.size ≤ env.locals := c.bsz
    have h2 : env.locals < s.heap.objs.size := hsz
    exact Nat.le_min.mpr ⟨h1, Nat.le_of_lt (Nat.lt_of_le_of_lt h1 h2)⟩
  · have st := I.stack
    have all : ∀ (l : List Env), (∀ b ∈ frs l, b < env.locals) → s.heap.FunFrames X.base l → (hcut s.heap env.locals).FunFrames X.base l := by
      intro l
      induction l with
      | nil => intro _ _; trivial
      | cons e r ih =>
        intro hs hl
        obtain ⟨hk, ⟨L, o, hf, hn, ho, hd⟩, hr⟩ := hl
        have hb : L < env.locals := hs L (by unfold frs; rw [List.filterMap_cons, hf]; exact List.mem_cons_self)
        exact ⟨hk, ⟨L, o, hf, hn, by rw [hcut_get hb]; exact ho, hd⟩, ih (fun b hb => hs b (by unfold frs; rw [List.filterMap_cons, hf]; exact List.mem_cons_of_mem _ hb)) hr⟩
    exact all X.stack c.fr st
  · exact gmark_low (I.stkFree b hb) (c.fr b hb)
  · obtain ⟨u, r, k⟩ := look i x v e1 e2 e3
    exact ⟨u, r, .inl k⟩
  · rw [show (gx N env X pv H s).env.cells.lookup x = none from g.cells x] at e; cases e
  · rw [show (gx N env X pv H s).env.cells.lookup x = none from g.cells x] at e; cases e
  · have hp : p ∈ ip := by
      rcases List.mem_append.mp hp with z | z
      · cases z
      · exact z
    obtain ⟨q1, q2, q3, q4, q5⟩ := hip p hp
    exact ⟨q1, gmark_pv q3.1 q4, q5, stk_no I q3, q2⟩
  · rcases gmark_inv e with q | ⟨_, _, _, o, ho, rfl⟩
    · exact (I.hok b u q).stay (fun _ _ _ z => z) (fun _ z => gmark_some z) fun _ _ z => gmark_some z
    · exact ⟨ho, ⟨o, ho⟩, fun h1 h2 q z => z o q⟩
/-- the consumer, behind a turn of the generator -/
theorem gkeeps (I : Inv X pins σ H s) (hpv : ∀ b ∈ pv, FpOk X pins H b) (J : Inv (gx N env X pv H s) ip σg H' s') (G : ∀ a o, gmark env.locals pv H s.heap a = some o → H' a = some o) (fr : ∀ b ∈ frs X.stack, b < env.locals) :
    Inv X pins σ (gunmark env.locals pv H s.heap H') s' ∧ (∀ a o, H a = some o → gunmark env.locals pv H s.heap H' a = some o) ∧ Tx H' (gunmark env.locals pv H s.heap H') := by
  have keepH : ∀ a o, H a = some o → gunmark env.locals pv H s.heap H' a = some o := fun a o e => by
    unfold gunmark
    rw [if_neg (fun z => by rw [e] at z; cases z.1)]
    exact G a o (gmark_some e)
  have hmk : ∀ b o, H b = none → env.locals ≤ b → b ∉ pv → s.heap.get? b = some o → H' b = some (.ext fun h' => h'.get? b = some o) ∧ s'.heap.get? b = some o := fun b o h1 h2 h3 h4 => by
    have q := G b _ (gmark_ext h1 h2 h3 h4)
    exact ⟨q, (J.hok b _ q).1⟩
  have sub : ∀ b u, gunmark env.locals pv H s.heap H' b = some u → H' b = some u := fun b u e => by
    unfold gunmark at e
    split at e
    · cases e
    · exact e
  have up : ∀ b u, H' b = some u → (∀ φ, u ≠ .ext φ) → gunmark env.locals pv H s.heap H' b = some u := fun b u e hne => by
    unfold gunmark
    split
    · rename_i hh
      obtain ⟨h1, h2, h3, o, h4⟩ := hh
      rw [(hmk b o h1 h2 h3 h4).1] at e
      cases e
      exact absurd rfl (hne _)
    · exact e
  have cutg : ∀ b o, b < env.locals → s.heap.get? b = some o → (gx N env X pv H s).s_0.heap.get? b = some o := fun b o hb e => by
    show (hcut s.heap env.locals).get? b = _
    rw [hcut_get hb]; exact e
  have nx : ∀ {b : Addr}, b ∉ (gx N env X pv H s).ex := fun z => by cases z
  refine ⟨I.call' (ch := pv) J.os ⟨fun b o e n hf hb => ?_, fun b o e n hf hb => ?_, fun b o e n hb => ?_, fun b o e hb => ?_, fun b xs e => keepH b _ e, fun b o u e => keepH b _ e, fun b ps e => ⟨#[], by rw [keepH b _ e]; simp⟩⟩ (fun b u e => ?_) J.bare (fun b hb => ?_), keepH, fun b u f e => up b _ e f.ne⟩
  · by_cases hL : b < env.locals
    · exact J.base.keep b o (cutg b o hL e) (gmark_low n hL) hf nx
    · exact (hmk b o n (Nat.le_of_not_lt hL) hb e).2
  · by_cases hL : b < env.locals
    · exact J.base.slot b o (cutg b o hL e) (gmark_low n hL) hf nx
    · exact ⟨o.slots, (hmk b o n (Nat.le_of_not_lt hL) hb e).2⟩
  · by_cases hL : b < env.locals
    · have q := J.base.free b o (cutg b o hL e) (gmark_low n hL) nx
      unfold gunmark
      split
      · rfl
      · exact q
    · unfold gunmark
      rw [if_pos ⟨n, Nat.le_of_not_lt hL, hb, o, e⟩]
  · by_cases hL : b < env.locals
    · exact J.base.there b o (cutg b o hL e) nx
    · cases q : H b with
      | none => exact ⟨o, (hmk b o q (Nat.le_of_not_lt hL) hb e).2⟩
      | some u =>
        have q2 := J.hok b u (G b u (gmark_some q))
        have : b < s'.heap.objs.size := q2.lt
        revert q2
        cases u with
        | lst xs => rintro ⟨_, _, _, _, z⟩; exact ⟨_, z⟩
        | tup xs => rintro ⟨_, _, _, ob, z, _⟩; exact ⟨_, z⟩
        | dK kvs => rintro ⟨_, _, _, _, ob, _, _, z, _⟩; exact ⟨_, z⟩
        | dT kvs => rintro ⟨_, _, _, _, ob, _, _, z, _⟩; exact ⟨_, z⟩
        | set S n => rintro ⟨ob, _, _, _, z, _⟩; exact ⟨_, z⟩
        | ins C dx fs => rintro ⟨_, _, _, z, _⟩; exact ⟨_, z⟩
        | own y => rintro ⟨_, z⟩; exact ⟨_, z⟩
        | xd fs => rintro ⟨_, ⟨_, _, _, z, _⟩, _⟩; exact ⟨_, z⟩
        | rng lo hi => rintro ⟨_, _, _, z⟩; exact ⟨_, z⟩
        | frz ob u => rintro ⟨z, _⟩; exact ⟨_, z⟩
        | tbl ps => exact fun z => ⟨_, z⟩
        | met f y => exact fun z => ⟨_, z⟩
        | ext φ => rintro ⟨_, ⟨_, z⟩, _⟩; exact ⟨_, z⟩
  · exact (J.hok b u (sub b u e)).stay (fun _ _ _ z => z) (fun c z => up c _ z fun φ q => by cases q) fun c xs z => up c _ z fun φ q => by cases q
  · obtain ⟨_, h2, h3, h4, h5, h6⟩ := hpv b hb
    exact ⟨h4, h2, h5, h6⟩
end
end DL
namespace DL
open PySem L2
open PyProof.Rows hiding St
open Sem (wp)
/-- one stretch of a run, up to its end or to what it hands out -/
def Sg (M : Model) (A : Around) (Φ : End → Shared → Prop) (c : Code) (t : Sem PySem.Fin) (fs : List Frame) (s : Shared) : Prop :=
  ∀ Γ p, Γ.code = c → Γ.Woken A → ∃ e s', Runs M Γ p t fs s e s' ∧ Φ e s'
section
variable {M : Model} {A : Around} {Φ : End → Shared → Prop} {c : Code} {fs : List Frame} {s : Shared}
theorem sg_call {d : Code} {hd : Option Value} {g : Bool} {l : List Value} {k : Result → Sem PySem.Fin} (h : ∀ p, Sg M A Φ d (M.den d) (.ret k hd g l c p [] :: fs) s) : Sg M A Φ c (.call d hd g l k) fs s := by
  intro Γ p hc hw
  subst hc
  obtain ⟨e, s1, r, z⟩ := h p (Γ.goto d) p rfl (hw.goto d)
  exact ⟨e, s1, runs_call_seg r, z⟩
theorem sg_leaf {k : Result → Sem PySem.Fin} {hd : Option Value} {g : Bool} {l kp : List Value} {d : Code} {q : Pos} (r : Result) (h : Sg M A Φ d (k r) fs s) : Sg M A Φ c (leafOf r) (.ret k hd g l d q kp :: fs) s := by
  intro Γ p hc hw
  subst hc
  obtain ⟨e, s1, z1, z2⟩ := h (Γ.goto d) q rfl (hw.goto d)
  exact ⟨e, s1, Runs.pop r z1, z2⟩
theorem sg_again {d : Code} (hq : d.quiet = true) (h : Sg M A Φ d (M.den d) fs s) : Sg M A Φ c (.pure (.again d)) fs s := by
  intro Γ p hc hw
  subst hc
  obtain ⟨e, s1, z1, z2⟩ := h (Γ.goto d) p rfl (hw.goto d)
  exact ⟨e, s1, Runs.head (c₁ := d) (fun _ _ z => .again hq z) z1, z2⟩
theorem sg_end (r : Result) (h : Φ (.ret r) s) : Sg M A Φ c (leafOf r) [] s := fun Γ p hc hw => by
  subst hc
  exact ⟨.ret r, s, Runs.leaf r, h⟩
theorem sg_yield {v : Value} {g : Bool} {l : List Value} {k : Resume → Sem PySem.Fin} (hs : splitAtGen fs = none) (h : ∀ p, Φ (.susp v g l k c p fs) s) : Sg M A Φ c (.yield v g l k) fs s := by
  intro Γ p hc hw
  subst hc
  exact ⟨_, s, Runs.yield' fs hs, h p⟩
theorem Sg.mono {Ψ : End → Shared → Prop} {t : Sem PySem.Fin} (h : Sg M A Φ c t fs s) (i : ∀ e s1, Φ e s1 → Ψ e s1) : Sg M A Ψ c t fs s := fun Γ p hc hw => by
  obtain ⟨e, s1, z1, z2⟩ := h Γ p hc hw
  exact ⟨e, s1, z1, i e s1 z2⟩
end
section
variable {X : Cx} {pins : List (Addr × Obj)} {σ : St} {H : Hp} {s : Shared}
theorem inv_still (I : Inv X pins σ H s) : Inv X pins σ H (still s) := ⟨I.ok, I.os, still_bare I.bare, I.base, I.loc, I.cell, I.free, I.freeC, I.pin, I.hok, I.len⟩
end
def OfP (P : Program) (w : World) (K : PySem.W.Frag) (mg : Str → Option Value) (base : Heap) (X : Cx) : Prop := X.prog = P ∧ X.w = w ∧ X.K = K ∧ X.mg = mg ∧ X.base = base
/-- who wakes the generator, and where things stand then -/
structure Rs where
  X : Cx
  pins : List (Addr × Obj)
  σ : St
  H : Hp
  s : Shared
  pv : List Addr
section
variable (P : Program) (w : World) (K : PySem.W.Frag) (mg : Str → Option Value) (base : Heap) (k : Nat) (N : List Str) (env : Env)
structure RsOk (ga : (Addr × Obj) × Nat) (γ : Rs) : Prop where
  of : OfP P w K mg base γ.X
  room : Room (k + 2) γ.X.A
  cons : Cons env.locals γ.X
  inv : Inv γ.X γ.pins γ.σ γ.H γ.s
  pv : ∀ b ∈ γ.pv, FpOk γ.X γ.pins γ.H b
  loc : env.locals ∈ γ.pv
  lt : env.locals < γ.s.heap.objs.size
  num : ga.2 < γ.s.gens.size
/-- what the generator has while it sleeps: objects, generators -/
structure PvOk (γ : Rs) (pvp : List (Addr × Obj)) (gs : List (Nat × GenState)) (H2 : Hp) (s' : Shared) : Prop where
  obj : ∀ p ∈ pvp, s'.heap.get? p.1 = some p.2 ∧ (∀ v, p.2.data ≠ .cell v) ∧ FpOk γ.X γ.pins H2 p.1
  gen : ∀ q ∈ gs, s'.gens[q.1]? = some q.2 ∧ asleep q.2 = true
  loc : env.locals ∈ pvp.map (·.1)
/-- xs is what comes from here on -/
def Goal (ga : (Addr × Obj) × Nat) : List D → Rs → End → Shared → Prop
  | [], γ, .ret r, s' => r = .ok (.ret .none) ∧ ∃ H2, Inv γ.X γ.pins γ.σ H2 s' ∧ (∀ a o, γ.H a = some o → H2 a = some o) ∧ Gon ga.2 γ.s s'
  | x :: xs, γ, .susp v gd l kk c p fs, s' => (End.susp v gd l kk c p fs).quiet = true ∧ tt x = true ∧ ∃ (vv : V) (H2 : Hp) (pvp : List (Addr × Obj)) (gs : List (Nat × GenState)), RelV vv v ∧ Inv γ.X γ.pins γ.σ H2 s' ∧ (∀ a o, γ.H a = some o → H2 a = some o) ∧ RepV K [] H2 x vv ∧
      PvOk env γ pvp gs H2 s' ∧ (ga.1 ∈ pvp ∧ ∀ q ∈ gs, ga.2 < q.1) ∧ Gon ga.2 γ.s s' ∧
      ∀ γ' : Rs, RsOk P w K mg base k env ga γ' → Tx H2 γ'.H → γ'.pv = pvp.map (·.1) → (∀ p ∈ pvp, γ'.s.heap.get? p.1 = some p.2) → (∀ q ∈ gs, γ'.s.gens[q.1]? = some q.2) →
        Sg (model P w) γ'.X.A.in1 (Goal ga xs γ') c (kk (.send .none)) fs γ'.s
  | _, _, _, _ => False
/-- where the code stands -/
structure GPos (c : Code) (fs : List Frame) (gd : Bool → Bool) : Prop where
  over : ∀ A : Around, A.over c fs = A.deeper env
  split : splitAtGen fs = none
  guard : fs.any Frame.guarded = false
  gd : gd false = false
/-- what a statement of a generator hands out, and the slots behind it -/
abbrev GM := Ev → List D → Ev → Prop
/-- an expression in the generator's frame, whoever wakes it -/
def GDE (e : Expr) (f : Ev → Sto → R D) : Prop := ∀ (X : Cx) (pv : List Addr) (H : Hp) (s : Shared), OfP P w K mg base X → Room k (X.A.in1.deeper env) → DE (gx N env X pv H s) W0 e f
def GDT (e : Expr) (f : Ev → Sto → R Bool) : Prop := ∀ (X : Cx) (pv : List Addr) (H : Hp) (s : Shared), OfP P w K mg base X → Room k (X.A.in1.deeper env) → DT (gx N env X pv H s) W0 e f
end
section
variable {P : Program} {w : World} {K : PySem.W.Frag} {mg : Str → Option Value} {base : Heap} {k : Nat} {N : List Str} {env : Env} {ga : (Addr × Obj) × Nat} {st : Stmt} {rest : List Stmt}
def gNil : GM := fun ρ ys ρ' => ys = [] ∧ ρ' = ρ
def gSeq (A B : GM) : GM := fun ρ ys ρ' => ∃ y1 ρ1 y2, A ρ y1 ρ1 ∧ B ρ1 y2 ρ' ∧ ys = y1 ++ y2
/-- the room inside -/
theorem RsOk.inner {γ : Rs} (h : RsOk P w K mg base k env ga γ) : Room k (γ.X.A.in1.deeper env) := (h.room.in1).deeper env
end
end DL
namespace DL
open PySem L2
open PyProof.Rows hiding St
open Sem (wp)
section
variable {P : Program} {w : World} {K : PySem.W.Frag} {mg : Str → Option Value} {base : Heap} {k : Nat} {N : List Str} {env : Env} {ga : (Addr × Obj) × Nat}
theorem gunmark_none {L : Addr} {pv : List Addr} {H H' : Hp} {h : Heap} {b : Addr} (e : H' b = none) : gunmark L pv H h H' b = none := by
  unfold gunmark; split
  · rfl
  · exact e
def gYield (f : Ev → Sto → R D) : GM := fun ρ ys ρ' => ρ' = ρ ∧ ∃ d, ys = [d] ∧ tt d = true ∧ f ρ [] = .ok d []
def gIf (t : Ev → Sto → R Bool) (A B : GM) : GM := fun ρ ys ρ' => ∃ b, t ρ [] = .ok b [] ∧ if b = true then A ρ ys ρ' else B ρ ys ρ'
def gLoop (T : Tg) (B : GM) : List D → GM
  | [] => gNil
  | d :: ds => fun ρ ys ρ' => ∃ ρ1 y1 ρ2 y2, T d ρ [] = some (ρ1, []) ∧ ttE ρ1 ∧ B ρ1 y1 ρ2 ∧ gLoop T B ds ρ2 y2 ρ' ∧ ys = y1 ++ y2
def GDG (P : Program) (w : World) (K : PySem.W.Frag) (mg : Str → Option Value) (base : Heap) (k : Nat) (N : List Str) (env : Env) (e : Expr) (T : Tg) : Prop := ∀ (X : Cx) (pv : List Addr) (H : Hp) (s : Shared), OfP P w K mg base X → Room k (X.A.in1.deeper env) → DG (gx N env X pv H s) e T
theorem gpos_loop {c c' : Code} {fs : List Frame} {gd : Bool → Bool} {kr : Result → Sem PySem.Fin} {l kp : List Value} {p : Pos} (g : GPos env c fs gd) (hw : c'.weight = 0) (hu : c'.cUnits = 0) : GPos env c' (.ret kr none (gd false) l c p kp :: fs) id where
  over := fun A => (GenW.over_loop hw hu).trans (g.over A)
  split := by
    show Option.map _ (splitAtGen fs) = none
    rw [g.split]; rfl
  guard := by
    show (gd false || fs.any Frame.guarded) = false
    rw [g.gd, g.guard]; rfl
  gd := rfl
/-- what a loop's code answers to an exception -/
def upNote (env : Env) (x : Value) : Sem Unit := do noteFrame x env; theTreesLotGoes x
end
end DL
namespace DL
open PySem L2
open PyProof.Rows hiding St
open Sem (wp)
/-- the items, as long as the tuples stand -/
def ItT (K : PySem.W.Frag) (J : It) (H : Hp) (ds : List D) : Prop := ∀ H1, Tx H H1 →
  (∀ i, ds.length ≤ i → J.stop i H1) ∧ ∀ i d, ds[i]? = some d → J.go i H1 ∧ ∀ x H2, J.yld i H1 x H2 → (∀ a o, H1 a = some o → H2 a = some o) ∧ RepV K [] H2 d x
theorem ItT.tx {K : PySem.W.Frag} {J : It} {H H' : Hp} {ds : List D} (h : ItT K J H ds) (t : Tx H H') : ItT K J H' ds := fun H1 t1 => h H1 (t.trans t1)
abbrev GSrc := Ev → List D → Prop
def rdJ (K : PySem.W.Frag) (f : GSrc) : TI := fun σ H Rr => ∃ ρ ds, RepE K [] H σ ρ ∧ f ρ ds ∧ ∀ J H', (∀ a o, H a = some o → H' a = some o) → ItT K J H' ds → Rr J H'
theorem sim_nil {K : PySem.W.Frag} {H : Hp} : Sim K [] H [] := ⟨List.nodup_nil, rfl, fun n a o z => by simp at z⟩
theorem sim_is_nil {K : PySem.W.Frag} {ι : List Addr} {H : Hp} (s : Sim K ι H []) : ι = [] := List.length_eq_zero_iff.mp s.len
theorem Grow.sub {H H' : Hp} (g : Grow [] H [] H') : ∀ a o, H a = some o → H' a = some o := fun a o e => g.keep a o e (by simp)
section
variable {X : Cx} {tg : Expr}
theorem tupAt_tx {K : PySem.W.Frag} {H H1 : Hp} {a : Addr} {vs : List V} (h : TupAt K [] H a vs) (t : Tx H H1) : TupAt K [] H1 a vs := by
  rcases h with ⟨n, q⟩ | ⟨o, q⟩ | q
  · exact .inl ⟨n, t.tup q⟩
  · exact .inr (.inl ⟨o, t.frz q⟩)
  · exact .inr (.inr q)
def jEnum (g : Ev → Sto → R (List D)) : GSrc := fun ρ es => ∃ ds, g ρ [] = .ok [.tup ds] [] ∧ ttL ds = true ∧ es = enumD 0 ds
theorem dj_enum {e : Expr} {g : Ev → Sto → R (List D)} {p pos tpos : Pos} {elts : List Expr} {kk : Nat} (hg : Gl X "enumerate") (hm : X.mg "enumerate" = none) (ha : DA X W0 [e] g) (hs : starEach [e] X.env = [(false, eval e X.env)] := by rfl) :
    PI X (.Tuple elts kk tpos) (.Call (.Name "enumerate" p) [e] [] pos) (rdJ X.K (jEnum g)) := by
  refine PI.imp (pi_enumA hg hm ha hs) fun σ H Rr ⟨ρ, es, hE, hsr, q⟩ => ?_
  obtain ⟨ds, hgv, tds, rfl⟩ := hsr
  refine ⟨[], ρ, [], hE, sim_nil, ?_⟩
  rw [hgv]
  intro ι1 H1 G1 s1 vs rs
  cases sim_is_nil s1
  obtain ⟨v, rfl, rv⟩ := RepL.one_inv rs
  rw [RepV] at rv
  obtain ⟨a, ws, rfl, t, rl⟩ := rv
  refine ⟨a, ws, rfl, .inl ⟨t.sq, q _ H1 G1.sub fun H2 t2 => ?_⟩⟩
  have t' := (tupAt_tx t t2).sq
  have rl' := tt_moveL (ι := []) (ι' := []) (fun a xs _ z => ⟨by simp, t2.tup z⟩) (fun _ _ _ z => t2.frz z) ds ws tds rl
  refine ⟨fun i hi => ⟨ws, t', by rw [← RepL.length _ _ rl']; rw [enumD_len] at hi; exact hi⟩, fun i d hd => ?_⟩
  obtain ⟨x, hx, rfl⟩ := enumD_get hd
  obtain ⟨vx, hvx, rx⟩ := RepL.get _ _ rl' i x hx
  refine ⟨⟨ws, vx, t', hvx⟩, fun z H3 hz => ?_⟩
  obtain ⟨T, x', rfl, hT, rfl, hx'⟩ := hz
  have e1 := hx' ws t'
  rw [hvx] at e1
  cases e1
  rw [Nat.zero_add]
  exact ⟨fun b o z => by rw [upd_ne (ne_of_none z hT)]; exact z, rep_tup sim_nil hT (RepL.cons int_rep (RepL.one rx))⟩
end
def GDJ (P : Program) (w : World) (K : PySem.W.Frag) (mg : Str → Option Value) (base : Heap) (k : Nat) (N : List Str) (env : Env) (tg e : Expr) (f : GSrc) : Prop := ∀ (X : Cx) (pv : List Addr) (H : Hp) (s : Shared), OfP P w K mg base X → Room k (X.A.in1.deeper env) → PI (gx N env X pv H s) tg e (rdJ K f)
def gForJ (f : GSrc) (T : Tg) (B : GM) : GM := fun ρ ys ρ' => ∃ ds, f ρ ds ∧ gLoop T B ds ρ ys ρ'
section
variable {P : Program} {w : World} {K : PySem.W.Frag} {mg : Str → Option Value} {base : Heap} {k : Nat} {N : List Str} {env : Env} {ga : (Addr × Obj) × Nat}
/-- the source's items, read off the frame -/
def rdPm (K : PySem.W.Frag) (Pm : St → Hp → Prop) (ds : List D) : TI := fun σ H Rr => Pm σ H ∧ ∀ J H', (∀ a o, H a = some o → H' a = some o) → ItT K J H' ds → Rr J H'
end
end DL
namespace DL
open PySem L2
open PyProof.Rows hiding St
open Sem (wp)
/-- how a generator goes on from here -/
def SgOf (M : Model) (A : Around) (Φ : End → Shared → Prop) (st : GenState) (s : Shared) : Prop := match st with
  | .fresh c => Sg M A Φ c (M.den c) [] s
  | .suspended kk _ c _ fs _ => Sg M A Φ c (kk (.send .none)) fs s
  | _ => False
theorem wpAny_resumeS {M : Model} {A : Around} {Φ : End → Shared → Prop} {g : Nat} {st : GenState} {l : List Value} {α : Type} {kr : GenResult → Sem α} {Q : α → Shared → Prop} {E : Value → Shared → Prop} {s : Shared} (hg : s.gens[g]? = some st) (hgo : SgOf M A Φ st (s.setGen g .running))
    (hΦ : ∀ e s1, Φ e s1 → s.gens.size ≤ s1.gens.size → e.quiet = true ∧ wpAny M A (kr e.result) Q E (s1.setGen g e.genState)) : wpAny M A (.resume g (.send .none) l kr) Q E s := by
  intro Γ p hΓ
  rw [Sem.wp_resume]
  have fin : ∀ c p0 t fs, Sg M A Φ c t fs (s.setGen g .running) → ∃ e s1, Runs M (Γ.wake c p) p0 t fs (s.setGen g .running) e s1 ∧ e.quiet = true ∧ wp M Γ (kr e.result) (fun a _ z => Q a z) (fun a _ z => E a z) p (s1.setGen g e.genState) := by
    intro c p0 t fs h
    obtain ⟨e, s1, r, z⟩ := h (Γ.wake c p) p0 rfl (hΓ.wake c p)
    have hz := GenW.runs_gsz r
    rw [GenW.setGen_size] at hz
    obtain ⟨z1, z2⟩ := hΦ e s1 z hz
    exact ⟨e, s1, r, z1, z2 Γ p hΓ⟩
  cases st with
  | fresh c =>
    obtain ⟨e, s1, r, z1, z2⟩ := fin c p _ _ hgo
    exact ⟨_, _, by unfold Wakes; rw [hg]; exact ⟨e, s1, r, z1, rfl, rfl⟩, z2⟩
  | suspended kk l0 c p0 fs cl =>
    obtain ⟨e, s1, r, z1, z2⟩ := fin c p0 _ _ hgo
    exact ⟨_, _, by unfold Wakes; rw [hg]; exact ⟨e, s1, r, z1, rfl, rfl⟩, z2⟩
  | running => exact hgo.elim
  | finished => exact hgo.elim
section
variable (P : Program) (w : World) (K : PySem.W.Frag) (mg : Str → Option Value) (base : Heap) (k : Nat) (env : Env) (ga : (Addr × Obj) × Nat)
/-- asleep: xs will come -/
structure Slp (xs : List D) (st : GenState) (pvp : List (Addr × Obj)) (gs : List (Nat × GenState)) (pl : Option (Addr × HO)) (H : Hp) : Prop where
  bare : st.bare = true
  mem : ga.1 ∈ pvp
  ne : ∀ q ∈ gs, ga.2 < q.1
  loc : env.locals ∈ pvp.map (·.1)
  go : ∀ γ : Rs, RsOk P w K mg base k env ga γ → Tx H γ.H → (∀ a u, pl = some (a, u) → γ.H a = some u) → γ.pv = pvp.map (·.1) → (∀ p ∈ pvp, γ.s.heap.get? p.1 = some p.2) → (∀ q ∈ gs, γ.s.gens[q.1]? = some q.2) →
    SgOf (model P w) γ.X.A.in1 (Goal P w K mg base k env ga xs γ) st γ.s
/-- the generator, seen by a consumer: it stands in the state -/
structure GAt (X : Cx) (pins : List (Addr × Obj)) (xs : List D) (st : GenState) (pvp : List (Addr × Obj)) (gs : List (Nat × GenState)) (H : Hp) (s : Shared) : Prop where
  slp : ∃ H0 pl, Tx H0 H ∧ (∀ a u, pl = some (a, u) → H a = some u) ∧ (pl = none ∨ ∃ c, st = .fresh c) ∧ Slp P w K mg base k env ga xs st pvp gs pl H0
  own : s.gens[ga.2]? = some st
  obj : ∀ p ∈ pvp, s.heap.get? p.1 = some p.2 ∧ (∀ v, p.2.data ≠ .cell v) ∧ FpOk X pins H p.1
  gen : ∀ q ∈ gs, s.gens[q.1]? = some q.2 ∧ asleep q.2 = true
end
section
variable {P : Program} {w : World} {K : PySem.W.Frag} {mg : Str → Option Value} {base : Heap} {k : Nat} {env : Env} {ga : (Addr × Obj) × Nat}
theorem allBare_set {s : Shared} {g : Nat} {x : GenState} (h : AllBare s.gens) (hx : x.bare = true) : AllBare (s.setGen g x).gens := L2.allBare_setGen h hx
theorem inv_gens {X : Cx} {pins : List (Addr × Obj)} {σ : St} {H : Hp} {s : Shared} {g : Nat} {x : GenState} (I : Inv X pins σ H s) (hx : x.bare = true) : Inv X pins σ H (s.setGen g x) :=
  ⟨I.ok, I.os, allBare_set I.bare hx, I.base, I.loc, I.cell, I.free, I.freeC, I.pin, I.hok, I.len⟩
theorem quiet_bare {e : End} (h : e.quiet = true) : e.genState.bare = true := End.bare_of_quiet h
theorem Gon.push2 {n : Nat} {s s1 : Shared} {a b : Obj} {t : Nat} (h : Gon n s s1) : Gon n s { s1 with heap := (s1.heap.push a).push b, toks := t } :=
  ⟨Gone.heap (h.gone.trans ((gone_push (s := s1) (o := a)).trans (gone_push (s := { s1 with heap := s1.heap.push a }) (o := b)))) rfl, h.size, h.low⟩
theorem GAt.mem {X : Cx} {pins : List (Addr × Obj)} {xs : List D} {st : GenState} {pvp : List (Addr × Obj)} {gs : List (Nat × GenState)} {H : Hp} {s : Shared} (G : GAt P w K mg base k env ga X pins xs st pvp gs H s) : ga.1 ∈ pvp := let ⟨_, _, _, _, _, sl⟩ := G.slp; sl.mem
end
end DL
namespace DL
open PySem L2
open PyProof.Rows hiding St
open Sem (wp)
theorem cellsFrom_no : ∀ (names : List (Str × NameKind)) (n : Nat) (acc : List (Str × Addr)), (∀ y ∈ names, y.2 ≠ .cell) → cellsFrom n names acc = acc
  | [], _, _, _ => rfl
  | (x, kd) :: r, n, acc, h => by
    have h1 := h (x, kd) List.mem_cons_self
    have h2 : (kd == NameKind.cell) = false := by
      cases kd <;> first | rfl | exact absurd rfl h1
    unfold cellsFrom
    rw [h2]
    exact cellsFrom_no r n acc fun y hy => h y (List.mem_cons_of_mem _ hy)
theorem genv_of {N : List Str} {qual : Str} {sc : Scope} {L f : Addr} {cdv : Value} (hk : sc.kind = .function) (hn : ∀ y ∈ sc.names, y.2 ≠ .cell ∧ y.2 ≠ .free) : GEnv N (envOfC qual sc L f cdv) where
  kind := hk
  glob := rfl
  blt := rfl
  cells := fun x => by
    show (cellsFrom (L + 1) sc.names []).lookup x = none
    rw [cellsFrom_no _ _ _ fun y hy => (hn y hy).1]; rfl
  nocell := fun x => ⟨fun e => (hn _ (PySem.mem_of_lookup (show sc.names.lookup x = some .cell from e))).1 rfl, fun e => (hn _ (PySem.mem_of_lookup (show sc.names.lookup x = some .free from e))).2 rfl⟩
  frame := rfl
theorem startD_tt {n : Nat} {ds : List D} (h : ttL ds = true) : ttE (startD n ds) := by
  have get : ∀ (l : List D), ttL l = true → ∀ (i : Nat) d, l[i]? = some d → tt d = true := by
    intro l
    induction l with
    | nil => intro _ i d e; simp at e
    | cons x l ih =>
      intro h i d e
      rw [ttL, Bool.and_eq_true] at h
      cases i with
      | zero => simp at e; subst e; exact h.1
      | succ i => exact ih h.2 i d (by simpa using e)
  intro i d e
  unfold startD at e
  by_cases hi : i < ds.length
  · rw [List.getElem?_append_left (by simpa using hi), List.getElem?_map] at e
    cases q : ds[i]? with
    | none => rw [q] at e; cases e
    | some x => rw [q] at e; cases e; exact get ds h i _ q
  · rw [List.getElem?_append_right (by simpa using hi), List.getElem?_replicate] at e
    split at e <;> cases e
end DL
namespace DL
open PySem L2
open PyProof.Rows hiding St
open Sem (wp)
open Classical in
noncomputable def eGen (G : List D → Option (List D)) (g : Ev → Sto → R (List D)) : Ev → Sto → R (List D) := fun ρ S => (g ρ S).bind fun ds S1 => if ttL ds = true then (match G ds with
  | some xs => .ok xs S1
  | none => .stuck) else .stuck
end DL
namespace DL
open PySem L2
open PyProof.Rows hiding St
open Sem (wp)
end DL
namespace DL
open PySem L2
open PyProof.Rows hiding St
open Sem (wp)
def gForG (f : Ev → Sto → R (List D)) (T : Tg) (B : GM) : GM := fun ρ ys ρ' => ∃ xs, f ρ [] = .ok xs [] ∧ gLoop T B xs ρ ys ρ'
end DL
namespace DL
open PySem PySem.Spec L2
open PyProof.Rows hiding St
section
variable {K : PySem.W.Frag} {ι : List Addr} {H : Hp}
def putD (f : Str) (d : D) : List (Str × D) → List (Str × D)
  | [] => [(f, d)]
  | (g, x) :: r => if g = f then (g, d) :: r else (g, x) :: putD f d r
theorem RepF.put {f : Str} {d : D} {v : V} (rv : RepV K ι H d v) : ∀ {fs : List (Str × D)} {vs : List (Str × V)}, RepF K ι H fs vs → RepF K ι H (putD f d fs) (putF f v vs)
  | [], _, r => by
    rw [RepF] at r
    subst r
    exact RepF.one rv
  | (k, x) :: fs, _, r => by
    rw [RepF] at r
    obtain ⟨u, vs, rfl, rx, rr⟩ := r
    unfold putD putF
    by_cases h : k = f
    · rw [if_pos h, if_pos h, RepF]
      exact ⟨v, vs, rfl, rv, rr⟩
    · rw [if_neg h, if_neg h, RepF]
      exact ⟨u, _, rfl, rx, RepF.put rv rr⟩
theorem RepF.len : ∀ {fs : List (Str × D)} {vs : List (Str × V)}, RepF K ι H fs vs → fs.length = vs.length
  | [], _, r => by rw [RepF] at r; subst r; rfl
  | (k, x) :: fs, _, r => by
    rw [RepF] at r
    obtain ⟨v, vs, rfl, rx, rr⟩ := r
    simp [RepF.len rr]
end
end DL
namespace DL
open PySem PySem.Spec L2
open PyProof.Rows hiding St
end DL
namespace DL
open PySem PySem.Spec L2
open PyProof.Rows hiding St
end DL
namespace DL
open PySem PySem.Spec L2
open PyProof.Rows hiding St
def putKD (kvs : List (Key × D)) (k : Key) (v : D) : List (Key × D) :=
  if (kvs.any fun kv => decide (kv.1 = k)) = true then kvs.map (fun kv => if kv.1 = k then (kv.1, v) else kv) else kvs ++ [(k, v)]
theorem RepK.any {K : PySem.W.Frag} {ι : List Addr} {H : Hp} {k : Key} : ∀ {kvs : List (Key × D)} {vs : List (Key × V)}, RepK K ι H kvs vs → (vs.any fun kv => decide (kv.1 = k)) = (kvs.any fun kv => decide (kv.1 = k))
  | [], _, h => by rw [RepK] at h; subst h; rfl
  | (j, x) :: kvs, _, h => by
    rw [RepK] at h
    obtain ⟨v, r, rfl, a, b⟩ := h
    rw [List.any_cons, List.any_cons, RepK.any b]
theorem RepK.repl {K : PySem.W.Frag} {ι : List Addr} {H : Hp} {k : Key} {d : D} {v : V} (rv : RepV K ι H d v) : ∀ {kvs : List (Key × D)} {vs : List (Key × V)}, RepK K ι H kvs vs → RepK K ι H (kvs.map fun kv => if kv.1 = k then (kv.1, d) else kv) (vs.map fun kv => if kv.1 = k then (kv.1, v) else kv)
  | [], _, h => by rw [RepK] at h; subst h; rw [List.map_nil, RepK]; rfl
  | (j, x) :: kvs, _, h => by
    rw [RepK] at h
    obtain ⟨w, r, rfl, a, b⟩ := h
    rw [List.map_cons, List.map_cons]
    by_cases hj : j = k
    · simp only [hj, if_true]
      rw [RepK]
      exact ⟨v, _, rfl, rv, RepK.repl rv b⟩
    · simp only [hj, if_false]
      rw [RepK]
      exact ⟨w, _, rfl, a, RepK.repl rv b⟩
theorem RepK.snoc {K : PySem.W.Frag} {ι : List Addr} {H : Hp} {k : Key} {d : D} {v : V} (rv : RepV K ι H d v) : ∀ {kvs : List (Key × D)} {vs : List (Key × V)}, RepK K ι H kvs vs → RepK K ι H (kvs ++ [(k, d)]) (vs ++ [(k, v)])
  | [], _, h => by rw [RepK] at h; subst h; rw [List.nil_append, RepK]; exact ⟨v, [], rfl, rv, by rw [RepK]⟩
  | (j, x) :: kvs, _, h => by
    rw [RepK] at h
    obtain ⟨w, r, rfl, a, b⟩ := h
    rw [List.cons_append, RepK]
    exact ⟨w, _, rfl, a, RepK.snoc rv b⟩
theorem RepK.put {K : PySem.W.Frag} {ι : List Addr} {H : Hp} {k : Key} {d : D} {v : V} {kvs : List (Key × D)} {vs : List (Key × V)} (h : RepK K ι H kvs vs) (rv : RepV K ι H d v) : RepK K ι H (putKD kvs k d) (putK vs k v) := by
  unfold putKD putK
  rw [RepK.any h]
  split
  · exact RepK.repl rv h
  · exact RepK.snoc rv h
theorem RepK.len {K : PySem.W.Frag} {ι : List Addr} {H : Hp} {kvs : List (Key × D)} {vs : List (Key × V)} (h : RepK K ι H kvs vs) : vs.length = kvs.length := by
  have := congrArg List.length (RepK.keys h)
  simpa using this
end DL
namespace DL
open PySem PySem.Spec L2
open PyProof.Rows hiding St
end DL
namespace DL
open PySem PySem.Spec L2
open PyProof.Rows hiding St
end DL
namespace DL
open PySem PySem.Spec L2
open PyProof.Rows hiding St
end DL
namespace DL
open PySem PySem.Spec L2
open PyProof.Rows hiding St
end DL
namespace DL
open PySem PySem.Spec L2
open PyProof.Rows hiding St
end DL
namespace DL
open PySem PySem.Spec L2 PySem.W
open PyProof.Rows hiding St
end DL
namespace DL
open PySem PySem.Spec L2 ClX
open PyProof.Rows hiding St
end DL
namespace DL
open PySem PySem.Spec L2
open PyProof.Rows hiding St
end DL
namespace DL
open PySem PySem.Spec L2 ClX
open PyProof.Rows hiding St
end DL
namespace DL
open PySem PySem.Spec L2
open PyProof.Rows hiding St
end DL
namespace DL
open PySem PySem.Spec L2
open PyProof.Rows hiding St
end DL
namespace DL
open PySem PySem.Spec L2
open PyProof.Rows hiding St
end DL
namespace DL
open PySem PySem.Spec L2
open PyProof.Rows hiding St
end DL
namespace DL
open PySem PySem.Spec L2
open PyProof.Rows hiding St
end DL
namespace DL
open PySem PySem.Spec L2
open PyProof.Rows hiding St
section
variable {X : Cx} {W : WX} {pos : Pos}
theorem RepK.at {K : PySem.W.Frag} {ι : List Addr} {H : Hp} : ∀ {kvs : List (Key × D)} {ws : List (Key × V)}, RepK K ι H kvs ws → kvs.length = ws.length ∧ ∀ (i : Nat) (q : Key × D), kvs[i]? = some q → ∃ v, ws[i]? = some (q.1, v) ∧ RepV K ι H q.2 v
  | [], _, h => by rw [RepK] at h; subst h; exact ⟨rfl, fun i q e => by simp at e⟩
  | (k, d) :: r, _, h => by
    rw [RepK] at h
    obtain ⟨v, ws, rfl, a, b⟩ := h
    obtain ⟨h1, h2⟩ := RepK.at b
    refine ⟨by simp [h1], fun i q e => ?_⟩
    cases i with
    | zero => simp at e; subst e; exact ⟨v, rfl, a⟩
    | succ i => exact h2 i q (by simpa using e)
end
end DL
namespace DL
open PySem PySem.Spec L2 PySem.W
open PyProof.Rows hiding St
end DL
namespace DL
open PySem PySem.Spec L2 GenW
open PyProof.Rows hiding St
open Sem (wp)
def Cx.atA (X : Cx) (A : Around) : Cx := { X with A := A }
theorem inv_atA {X : Cx} {pins : List (Addr × Obj)} {σ : L2.St} {H : Hp} {s : Shared} {A : Around} (I : Inv X pins σ H s) (hf : A.frames = some X.stack) (hh : A.handled = none) : Inv (Cx.atA X A) pins σ H s :=
  ⟨⟨I.ok.mod, I.ok.kind, I.ok.glob, I.ok.blt, I.ok.above, I.ok.inj, I.ok.has, I.ok.cab, fun _ => hh, hf, I.ok.stk, I.ok.exf, I.ok.bs, I.ok.bsz, I.ok.noex, I.ok.exfs, I.ok.funs, I.ok.frf⟩, I.os, I.bare, I.base, I.loc, I.cell, I.free, I.freeC, I.pin, I.hok, I.len⟩
theorem inv_ofA {X : Cx} {pins : List (Addr × Obj)} {σ : L2.St} {H : Hp} {s : Shared} {A : Around} (ok : X.Ok) (I : Inv (Cx.atA X A) pins σ H s) : Inv X pins σ H s :=
  ⟨ok, I.os, I.bare, I.base, I.loc, I.cell, I.free, I.freeC, I.pin, I.hok, I.len⟩
noncomputable def eListG (f : Ev → Sto → R (List D)) : Ev → Sto → R D := fun ρ S => (f ρ S).bind fun xs S1 => ifp (xs.length ≤ sizeLine) (.ok (.fl xs) S1) .stuck
end DL
namespace DL
open PySem PySem.Spec L2
open PyProof.Rows hiding St
/-- the def at f does what F says, called by position -/
def FnN (gd : Bool) (P : Program) (w : World) (K : PySem.W.Frag) (mg : Str → Option Value) (base : Heap) (k : Nat) (f : Addr) (F : Fn) : Prop :=
  ∀ (A : Around) (outer : List Env) (s : Shared) (H : Hp) (us : List Value) (vs : List V) (Q : VK) (E : XK), Room k A → (gd = true → A.guards = some []) → Env0 P w K mg base A outer s H → Vals vs us → spD K F vs H Q E →
    codeAny (model P w) A (.call (.ref f) ⟨us, []⟩) (CR (L2N.CX P w) outer P w H s Q E) s
theorem FnN.mono {gd : Bool} {P : Program} {w : World} {K : PySem.W.Frag} {mg : Str → Option Value} {base : Heap} {j k : Nat} {f : Addr} {F : Fn} (h : FnN gd P w K mg base j f F) (hj : j ≤ k) : FnN gd P w K mg base k f F :=
  fun A outer s H us vs Q E hr => h A outer s H us vs Q E (hr.mono hj)
end DL
namespace G3
open PySem PySem.Spec L2 DL
open PyProof.Rows hiding St
abbrev ZF := Heap → Hp → Value → Option Addr → Obj → Prop
def XE (Z : ZF) (X : Cx) (W : WX) (u : Value) (s' : Shared) : Prop :=
  ∃ (a : Addr) (B : Heap) (sI : Shared) (pins : List (Addr × Obj)) (σ : L2.St) (H : Hp) (cls : Value) (d : Option Addr), u = .ref a ∧ Inv X pins σ H sI ∧
    (∀ b o, sI.heap.get? b = some o → b ∉ frs X.stack → B.get? b = some o) ∧ sI.heap.UpToSlots s'.heap ∧ Sky B X.stack a (Z B H cls d) X.env.locals s'.heap ∧ H a = none ∧ s'.os = sI.os ∧ AllBare s'.gens ∧ W cls d σ H
def Takes (Z : ZF) (X : Cx) (W : WX) : Prop := ∀ u s', XE Z X W u s' → X.xe u s'
def CX (Z : ZF) (P : Program) (w : World) (outer : List Env) (H : Hp) (s : Shared) (E : XK) (u : Value) (s' : Shared) : Prop :=
  ∃ (a : Addr) (B : Heap) (H' : Hp) (cls : Value) (d : Option Addr), u = .ref a ∧ HandSPX.FlyingZ B outer a (Z B H' cls d) s'.heap ∧ HOk P w H' B ∧ UB (frs outer) H H' s.heap B s'.heap ∧ H' a = none ∧ s'.os = s.os ∧ AllBare s'.gens ∧ E cls d H'
theorem sky_imp {B h : Heap} {l : List Env} {a L : Addr} {Z Z' : Obj → Prop} (z : ∀ o, Z o → Z' o) (x : Sky B l a Z L h) : Sky B l a Z' L h := by
  rcases x with ⟨h1, h2, h3, oe, vs, e, q, r⟩ | x | ⟨h1, h2, h3, x⟩
  · exact .inl ⟨h1, h2, h3, oe, vs, e, z _ q, r⟩
  · exact .inr (.inl (L2H.flyingZ_imp z x))
  · exact .inr (.inr ⟨h1, h2, h3, L2H.tracedZ_imp z x⟩)
section
variable {Z : ZF} {X : Cx} {pins : List (Addr × Obj)} {σ : L2.St} {H : Hp} {sI s s' : Shared} {W : WX} {E : XK}
theorem XE.imp {Z' : ZF} (z : ∀ B H cls d o, Z B H cls d o → Z' B H cls d o) {u : Value} (x : XE Z X W u s') : XE Z' X W u s' := by
  obtain ⟨a, B, sI, pins, σ, H, cls, d, e, I, nb, up, sky, r⟩ := x
  exact ⟨a, B, sI, pins, σ, H, cls, d, e, I, nb, up, sky_imp (z B H cls d) sky, r⟩
/-- the parts of a heap that a def of ours may see: the ground and the frames -/
theorem seen (B h : Heap) (fr : List Addr) (st : B.StaysIn h) : ∃ G : Heap, (∀ b, (B.get? b).isSome = true ∨ b ∈ fr → G.get? b = h.get? b) ∧ (∀ b o, G.get? b = some o → h.get? b = some o ∧ ((B.get? b).isSome = true ∨ b ∈ fr)) ∧ (∀ b o, B.get? b = some o → G.get? b = some o) ∧ ∀ b o, G.get? b = some o → b ∉ fr → B.get? b = some o := by
  obtain ⟨G, g1, g2⟩ := restrict h fun b => (B.get? b).isSome || decide (b ∈ fr)
  have a1 : ∀ b, (B.get? b).isSome = true ∨ b ∈ fr → G.get? b = h.get? b := fun b z => g1 b (by simpa using z)
  have a2 : ∀ b o, G.get? b = some o → h.get? b = some o ∧ ((B.get? b).isSome = true ∨ b ∈ fr) := fun b o e => by
    cases q : ((B.get? b).isSome || decide (b ∈ fr)) with
    | false => rw [g2 b q] at e; cases e
    | true => exact ⟨(g1 b q).symm.trans e, by simpa using q⟩
  refine ⟨G, a1, a2, fun b o e => (a1 b (.inl (by rw [e]; rfl))).trans (st b o e), fun b o e hb => ?_⟩
  obtain ⟨e1, z | z⟩ := a2 b o e
  · obtain ⟨o', q⟩ := Option.isSome_iff_exists.mp z
    rw [st b o' q] at e1
    cases e1
    exact q
  · exact absurd z hb
theorem XE.new {a : Addr} {oe : Obj} {vs : Array Value} {cls : Value} {d : Option Addr} (I : Inv X pins σ H sI) (k : ∀ b o, sI.heap.get? b = some o → s'.heap.get? b = some o) (hne : sI.heap.get? a = none) (he : s'.heap.get? a = some oe)
    (hz : Z (PySem.W.hideAll sI.heap (frs X.stack)) H cls d oe) (hd : oe.data = .fields vs) (h1 : vs[1]? = some .none) (na : H a = none) (os : s'.os = sI.os) (ag : AllBare s'.gens) (w : W cls d σ H) : XE Z X W (.ref a) s' := by
  have hB : ∀ b o, (PySem.W.hideAll sI.heap (frs X.stack)).get? b = some o → sI.heap.get? b = some o := fun b o e => PySem.W.of_hideAll _ e
  have nB : (PySem.W.hideAll sI.heap (frs X.stack)).get? a = none := by
    cases q : (PySem.W.hideAll sI.heap (frs X.stack)).get? a with
    | none => rfl
    | some o => rw [hB a o q] at hne; cases hne
  have ff : s'.heap.FunFrames (PySem.W.hideAll sI.heap (frs X.stack)) X.stack := Heap.FunFrames.of_keeps (fun b o e _ => ⟨o, k b o e, rfl⟩) (funFrames_none I.stack fun b hb => PySem.W.hideAll_none _ hb)
  exact ⟨a, _, sI, pins, σ, H, cls, d, rfl, I, fun b o e hb => PySem.W.hideAll_get _ e hb, Heap.UpToSlots.of_keeps k, .inl ⟨fun b o e => k b o (hB b o e), nB, ff, oe, vs, he, hz, hd, h1⟩, na, os, ag, w⟩
end
/-- the error's context is none, or an error on the ground whose context is none -/
def Z3 : ZF := fun B H cls d o => Zc cls d o ∧ (PXN.CtxN o ∨ ∃ (c : Addr) (oc : Obj) (us : Array Value), (∀ vs, o.data = .fields vs → vs[2]? = some (.ref c)) ∧ B.get? c = some oc ∧ oc.data = .fields us ∧ us[2]? = some .none ∧ H c = none)
/-- the handled error and its chain, as they stand -/
def HotQ (A : Around) (h : Heap) : Prop := ∃ (x1 : Addr) (o : Obj) (vs : Array Value), A.handled = some (.ref x1) ∧ h.get? x1 = some o ∧ o.data = .fields vs ∧
  (vs[2]? = some .none ∨ ∃ (c : Addr) (oc : Obj) (us : Array Value), vs[2]? = some (.ref c) ∧ c ≠ x1 ∧ h.get? c = some oc ∧ oc.data = .fields us ∧ us[2]? = some .none)
theorem HotQ.keeps {A : Around} {h h' : Heap} (x : HotQ A h) (k : ∀ b o, h.get? b = some o → (∃ vs, o.data = .fields vs) → h'.get? b = some o) : HotQ A h' := by
  obtain ⟨x1, o, vs, h1, h2, h3, h4⟩ := x
  refine ⟨x1, o, vs, h1, k _ _ h2 ⟨vs, h3⟩, h3, h4.imp id fun ⟨c, oc, us, q1, q2, q3, q4, q5⟩ => ⟨c, oc, us, q1, q2, k _ _ q3 ⟨us, q4⟩, q4, q5⟩⟩
/-- the context bears the handled error and its chain -/
def HotZ (X : Cx) : Prop := ∃ (p : Addr × Obj) (vs : Array Value), X.A.handled = some (.ref p.1) ∧ p ∈ X.pn ∧ p.2.data = .fields vs ∧
  (vs[2]? = some .none ∨ ∃ (q : Addr × Obj) (us : Array Value), vs[2]? = some (.ref q.1) ∧ q.1 ≠ p.1 ∧ q ∈ X.pn ∧ q.2.data = .fields us ∧ us[2]? = some .none)
theorem HotZ.at {X : Cx} {pins : List (Addr × Obj)} {σ : L2.St} {H : Hp} {s : Shared} (c : HotZ X) (I : Inv X pins σ H s) : HotQ X.A s.heap := by
  obtain ⟨p, vs, h1, h2, h3, h4⟩ := c
  have at_ : ∀ q ∈ X.pn, s.heap.get? q.1 = some q.2 := fun q hq => (I.pin q (List.mem_append_left _ hq)).1
  exact ⟨p.1, p.2, vs, h1, at_ p h2, h3, h4.imp id fun ⟨q, us, q1, q2, q3, q4, q5⟩ => ⟨q.1, q.2, us, q1, q2, at_ q q3, q4, q5⟩⟩
end G3
namespace DL
open PySem PySem.Spec L2
open PyProof.Rows hiding St
/-- the def at f does what F says, called by position -/
def FnG (gd : Bool) (P : Program) (w : World) (K : PySem.W.Frag) (mg : Str → Option Value) (base : Heap) (k : Nat) (f : Addr) (F : Fn) : Prop :=
  ∀ (A : Around) (outer : List Env) (s : Shared) (H : Hp) (us : List Value) (vs : List V) (Q : VK) (E : XK), Room k A → (gd = true → A.guards = some []) → Env0 P w K mg base A outer s H → Vals vs us → spD K F vs H Q E →
    codeAny (model P w) A (.call (.ref f) ⟨us, []⟩) (CR (G3.CX G3.Z3 P w) outer P w H s Q E) s
theorem FnG.mono {gd : Bool} {P : Program} {w : World} {K : PySem.W.Frag} {mg : Str → Option Value} {base : Heap} {j k : Nat} {f : Addr} {F : Fn} (h : FnG gd P w K mg base j f F) (hj : j ≤ k) : FnG gd P w K mg base k f F :=
  fun A outer s H us vs Q E hr => h A outer s H us vs Q E (hr.mono hj)
end DL
namespace DL
open PySem PySem.Spec L2
open PyProof.Rows hiding St
end DL
namespace DL
open PySem PySem.Spec L2
open PyProof.Rows hiding St
end DL
namespace DL
open PySem PySem.Spec L2
open PyProof.Rows hiding St
end DL
namespace HotY
open PySem PySem.Spec PyProof.Rows L2 L2H HotX
abbrev St := L2.St
/-- the handled error stands in every state of the context, its context None, and is none of fp -/
def HotI (X : Cx) (fp : List Addr) : Prop := ∀ (pins : List (Addr × Obj)) (σ : St) (H : Hp) (s : Shared), Inv X pins σ H s → ∃ x1, HotAt X.A x1 s.heap ∧ x1 ∉ fp
/-- it is pinned -/
def HotP (X : Cx) : Prop := ∃ p : Addr × Obj, Hot1 X.A p ∧ p ∈ X.pn
theorem HotP.blk {X : Cx} {pins : List (Addr × Obj)} {σ : St} {H : Hp} {s : Shared} {scope : Scope} {env : Env} {fp : List Addr} (h : HotP X) (I : Inv X pins σ H s) (hf : ∀ b ∈ fp, FpOk X pins H b) : HotI (X.blk s H scope env fp) fp := fun pins' σ' H' s' I' => by
  obtain ⟨p, ⟨hh, v1, e1, c1⟩, hp⟩ := h
  obtain ⟨p1, p2, p3, p4, p5⟩ := I.pin p (List.mem_append_left _ hp)
  have nf : p.1 ∉ fp := fun hm => (hf p.1 hm).2.2.2.2.2 p (List.mem_append_left _ hp) rfl
  have ns : p.1 ∉ frs X.stack := fun hm => (List.mem_cons.mp (I.stkSub p.1 hm)).elim p3 p4
  exact ⟨p.1, ⟨hh, p.2, v1, I'.base.keep p.1 p.2 p1 p2 ns nf, e1, c1⟩, nf⟩
theorem HotI.nil {X : Cx} {fp : List Addr} (h : HotI X fp) : HotI X [] := fun pins σ H s I => by
  obtain ⟨x1, a, _⟩ := h pins σ H s I
  exact ⟨x1, a, by simp⟩
structure TurnQ (P : Program) (w : World) (K : PySem.W.Frag) (tg : Expr) (J : It) (fp : List Addr) (it : Addr) (tn : Nat → Heap → Prop) : Prop where
  mem : it ∈ fp
  obj : ∀ i h, tn i h → ∀ b ∈ fp, ∃ o, h.get? b = some o ∧ ∀ v, o.data ≠ .cell v
  keep : ∀ i h h', tn i h → (∀ b ∈ fp, ∀ o, h.get? b = some o → h'.get? b = some o) → tn i h'
  item : ∀ (X : Cx), X.prog = P → X.w = w → X.K = K → HotI X fp → ∀ (i : Nat) (pins : List (Addr × Obj)) (s : Shared) (σ : St) (H : Hp) (E : Value → Shared → Prop), Inv X pins σ H s → (∀ b ∈ fp, FpOk X pins H b) → tn i s.heap → J.go i H →
    wpAny (model P w) X.A (pyNext (.ref it)) (fun r s1 => ∃ u, r = some u ∧
      wpAny (model P w) X.A (letOwnedTupleGo tg (.ref it) u) (fun _ s2 => ∃ x H', Inv X pins σ H' s2 ∧ RelV x u ∧ J.yld i H x H' ∧ tn (i + 1) s2.heap ∧ ∀ b ∈ fp, H' b = none) E s1) E s
  done : ∀ (X : Cx), X.prog = P → X.w = w → X.K = K → HotI X fp → ∀ (i : Nat) (pins : List (Addr × Obj)) (s : Shared) (σ : St) (H : Hp) (E : Value → Shared → Prop), Inv X pins σ H s → (∀ b ∈ fp, FpOk X pins H b) → tn i s.heap → J.stop i H →
    wpAny (model P w) X.A (pyNext (.ref it)) (fun r s1 => r = none ∧ Inv X pins σ H s1) E s
  self : ∀ (A : Around) (i : Nat) (s : Shared) (Q : Value → Shared → Prop) (E : Value → Shared → Prop), tn i s.heap → Q (.ref it) s → wpAny (model P w) A (pyIter (.ref it)) Q E s
def PIEQ (X : Cx) (pins : List (Addr × Obj)) (σ : St) (tg : Expr) (R : It → Hp → Prop) (itv : Value) (s2 : Shared) : Prop :=
  ∃ (it : Addr) (fp : List Addr) (tn : Nat → Heap → Prop) (J : It) (H' : Hp), itv = .ref it ∧ Inv X pins σ H' s2 ∧ TurnQ X.prog X.w X.K tg J fp it tn ∧ tn 0 s2.heap ∧ (∀ b ∈ fp, FpOk X pins H' b) ∧ R J H'
structure PIQ (X : Cx) (tg iter : Expr) (wi : TI) : Prop where
  run : ∀ (pins : List (Addr × Obj)) (s : Shared) (σ : St) (H : Hp) (R : It → Hp → Prop), Inv X pins σ H s → wi σ H R →
    wpAny (model X.prog X.w) X.A (eval iter X.env) (fun v s1 => wpAny (model X.prog X.w) X.A (pyIter v) (PIEQ X pins σ tg R) X.xe s1) X.xe s
end HotY
namespace DL
open PySem PySem.Spec L2 HotY
open PyProof.Rows hiding St
theorem PIQ.imp {X : Cx} {tg e : Expr} {t u : TI} (h : PIQ X tg e t) (i : ∀ σ H Q, u σ H Q → t σ H Q) : PIQ X tg e u := ⟨fun pins s σ H Q I q => h.run pins s σ H Q I (i σ H Q q)⟩
end DL
namespace DL
open PySem PySem.Spec L2 HotY
open PyProof.Rows hiding St
def DOk (H : Hp) (dd : Option Addr) : Prop := dd = none ∨ ∃ d vs, dd = some d ∧ H d = some (.xd vs)
theorem DOk.upd {H : Hp} {dd : Option Addr} {q : Addr} {o : HO} (h : DOk H dd) (hq : H q = none) : DOk (L2.upd H q o) dd := h.imp id fun ⟨d, vs, e, x⟩ => ⟨d, vs, e, by rw [upd_ne (ne_of_none x hq)]; exact x⟩
end DL
namespace DL
open PySem PySem.Spec L2 HotY
open PyProof.Rows hiding St
def FnE (P : Program) (w : World) (K : PySem.W.Frag) (mg : Str → Option Value) (base : Heap) (k : Nat) (f : Addr) (G : Cn → Option Str) : Prop :=
  ∀ (CX : CXT) (A : Around) (outer : List Env) (s : Shared) (H : Hp) (Q : VK) (E : XK) (p : Addr × Obj) (c : Cn) (w' : Str) (ι : List Addr) (S : Sto), L2H.RoomH k A → L2H.Hot1 A p → L2H.PinOk outer H s p → Env0 P w K mg base A outer s H → (∃ C, p.2.cls = .ref C ∧ RepC K c (.ref C)) → DOk H p.2.dict → G c = some w' →
    Sim K ι H S → (∀ ι' H', Grow ι H ι' H' → Sim K ι' H' S → Q (.str w') H') → codeAny (model P w) A (.call (.ref f) ⟨[.ref p.1], []⟩) (CR CX outer P w H s Q E) s
theorem FnE.mono {P : Program} {w : World} {K : PySem.W.Frag} {mg : Str → Option Value} {base : Heap} {j k : Nat} {f : Addr} {G : Cn → Option Str} (h : FnE P w K mg base j f G) (hj : j ≤ k) : FnE P w K mg base k f G :=
  fun CX A outer s H Q E p c w' ι S hr => h CX A outer s H Q E p c w' ι S (hr.mono hj)
end DL
namespace DL
open PySem PySem.Spec L2 HotY
open PyProof.Rows hiding St
end DL
namespace DL
open PySem PySem.Spec L2 HotY
open PyProof.Rows hiding St
end DL
namespace DL
open PySem PySem.Spec L2
open PyProof.Rows hiding St
theorem rep_ktp {K : PySem.W.Frag} {ι : List Addr} {H : Hp} {S : Sto} {ds : List D} {vs : List V} {p : Addr} (s : Sim K ι H S) (h : H p = none) (r : RepL K ι H ds vs) : RepV K ι (upd H p (.tup vs)) (.ktp ds) (.ref p) := by
  rw [RepV]
  exact ⟨p, vs, rfl, ⟨s.free h, upd_same⟩, RepL.grow (Grow.upd h) ds vs r⟩
theorem new_ktp {K : PySem.W.Frag} {W : WX} {σ : St} {ι : List Addr} {H : Hp} {S : Sto} {ds : List D} {vs : List V} {Q : VK} (h : Post K W σ ι H (.ok (.ktp ds) S) fun d _ ι' H' => ∀ v, RepV K ι' H' d v → Q v H') (s : Sim K ι H S) (r : RepL K ι H ds vs) :
    ∀ p, H p = none → Q (.ref p) (upd H p (.tup vs)) := fun p hp => h ι _ (Grow.upd hp) (s.upd hp) _ (rep_ktp s hp r)
noncomputable def eTupK (g : Ev → Sto → R (List D)) : Ev → Sto → R D := fun ρ S => (g ρ S).bind fun ds S1 => ifp (ds.length ≤ sizeLine) (.ok (.ktp ds) S1) .stuck
def unK : D → D
  | .ktp ds => .tup ds
  | .ztp ds => .tup ds
  | d => d
theorem unK_rep {K : PySem.W.Frag} {ι : List Addr} {H : Hp} {d : D} {v : V} (r : RepV K ι H d v) : RepV K ι H (unK d) v := by
  cases d with
  | ktp ds =>
    rw [RepV] at r
    obtain ⟨a, vs, e, t, q⟩ := r
    show RepV K ι H (.tup ds) v
    rw [RepV]
    exact ⟨a, vs, e, .inl t, q⟩
  | ztp ds =>
    rw [RepV] at r
    obtain ⟨a, vs, e, ⟨o, t, _⟩, q⟩ := r
    show RepV K ι H (.tup ds) v
    rw [RepV]
    exact ⟨a, vs, e, .inr (.inl ⟨o, t⟩), q⟩
  | _ => exact r
/-- the same object, read as any tuple -/
def eUn (f : Ev → Sto → R D) : Ev → Sto → R D := fun ρ S => (f ρ S).bind fun d S1 => .ok (unK d) S1
section
variable {X : Cx} {W : WX} {es : List Expr} {e : Expr} {pos : Pos}
theorem de_tupK {k} {g : Ev → Sto → R (List D)} (h : DA X W es g) : DE X W (.Tuple es k pos) (eTupK g) := by
  refine PE.imp (pe_tup h) fun σ H Q ⟨ι, ρ, S, hE, hS, h⟩ => ⟨ι, ρ, S, hE, hS, (Post.bind h).mono fun ds S1 ι1 H1 G1 s1 h1 vs rs => ?_⟩
  (try unfold ifp at h1); split at h1
  · rename_i hl
    exact ⟨by rw [← RepL.length _ _ rs]; exact hl, new_ktp h1 s1 rs⟩
  · exact h1.elim
theorem de_un {f : Ev → Sto → R D} (h : DE X W e f) : DE X W e (eUn f) := by
  refine PE.imp h fun σ H Q ⟨ι, ρ, S, hE, hS, h⟩ => ⟨ι, ρ, S, hE, hS, (Post.bind h).mono fun d S1 ι1 H1 G1 s1 h1 v rv => ?_⟩
  exact h1.here s1 v (unK_rep rv)
end
def getT (S : Sto) (d : D) : Option (List (List Key × D)) := match d with
  | .loc n => (match S[n]? with
    | some (.dkt kvs) => some kvs
    | _ => none)
  | _ => none
def lookT (kvs : List (List Key × D)) (k : List Key) : Option D := (kvs.find? fun kv => decide (kv.1 = k)).map (·.2)
def putTD (kvs : List (List Key × D)) (k : List Key) (v : D) : List (List Key × D) :=
  if (kvs.any fun kv => decide (kv.1 = k)) = true then kvs.map (fun kv => if kv.1 = k then (kv.1, v) else kv) else kvs ++ [(k, v)]
section
variable {K : PySem.W.Frag} {ι : List Addr} {H : Hp} {k : List Key} {d : D} {v : V}
theorem RepKT.keys : ∀ {kvs : List (List Key × D)} {vs : List (List Key × V)}, RepKT K ι H kvs vs → vs.map (·.1) = kvs.map (·.1)
  | [], _, h => by rw [RepKT] at h; subst h; rfl
  | (j, x) :: kvs, _, h => by
    rw [RepKT] at h
    obtain ⟨v, r, rfl, a, b⟩ := h
    rw [List.map_cons, List.map_cons, RepKT.keys b]
theorem RepKT.any : ∀ {kvs : List (List Key × D)} {vs : List (List Key × V)}, RepKT K ι H kvs vs → (vs.any fun kv => decide (kv.1 = k)) = (kvs.any fun kv => decide (kv.1 = k))
  | [], _, h => by rw [RepKT] at h; subst h; rfl
  | (j, x) :: kvs, _, h => by
    rw [RepKT] at h
    obtain ⟨v, r, rfl, a, b⟩ := h
    rw [List.any_cons, List.any_cons, RepKT.any b]
theorem RepKT.repl (rv : RepV K ι H d v) : ∀ {kvs : List (List Key × D)} {vs : List (List Key × V)}, RepKT K ι H kvs vs → RepKT K ι H (kvs.map fun kv => if kv.1 = k then (kv.1, d) else kv) (vs.map fun kv => if kv.1 = k then (kv.1, v) else kv)
  | [], _, h => by rw [RepKT] at h; subst h; rw [List.map_nil, RepKT]; rfl
  | (j, x) :: kvs, _, h => by
    rw [RepKT] at h
    obtain ⟨w, r, rfl, a, b⟩ := h
    rw [List.map_cons, List.map_cons]
    by_cases hj : j = k
    · simp only [hj, if_true]
      rw [RepKT]
      exact ⟨v, _, rfl, rv, RepKT.repl rv b⟩
    · simp only [hj, if_false]
      rw [RepKT]
      exact ⟨w, _, rfl, a, RepKT.repl rv b⟩
theorem RepKT.snoc (rv : RepV K ι H d v) : ∀ {kvs : List (List Key × D)} {vs : List (List Key × V)}, RepKT K ι H kvs vs → RepKT K ι H (kvs ++ [(k, d)]) (vs ++ [(k, v)])
  | [], _, h => by rw [RepKT] at h; subst h; rw [List.nil_append, RepKT]; exact ⟨v, [], rfl, rv, by rw [RepKT]⟩
  | (j, x) :: kvs, _, h => by
    rw [RepKT] at h
    obtain ⟨w, r, rfl, a, b⟩ := h
    rw [List.cons_append, RepKT]
    exact ⟨w, _, rfl, a, RepKT.snoc rv b⟩
theorem RepKT.put {kvs : List (List Key × D)} {vs : List (List Key × V)} (h : RepKT K ι H kvs vs) (rv : RepV K ι H d v) : RepKT K ι H (putTD kvs k d) (putK vs k v) := by
  unfold putTD putK
  rw [RepKT.any h]
  split
  · exact RepKT.repl rv h
  · exact RepKT.snoc rv h
theorem RepKT.len {kvs : List (List Key × D)} {vs : List (List Key × V)} (h : RepKT K ι H kvs vs) : vs.length = kvs.length := by
  have := congrArg List.length (RepKT.keys h)
  simpa using this
end
end DL
namespace DL
open PySem PySem.Spec L2
open PyProof.Rows hiding St
end DL
namespace DL
open PySem PySem.Spec L2
open PyProof.Rows hiding St
end DL
namespace DL
open PySem PySem.Spec PyProof.Rows L2
open PyProof.Rows hiding St
/-- the members, ascending -/
def ins (x : Int) : List Int → List Int
  | [] => [x]
  | y :: l => if x < y then x :: y :: l else if x = y then y :: l else y :: ins x l
theorem mem_ins {x k : Int} : ∀ {l : List Int}, k ∈ ins x l ↔ k = x ∨ k ∈ l
  | [] => by simp [ins]
  | y :: l => by
    unfold ins
    by_cases h1 : x < y
    · rw [if_pos h1]; simp
    · rw [if_neg h1]
      by_cases h2 : x = y
      · rw [if_pos h2]; subst h2; simp
      · rw [if_neg h2, List.mem_cons, mem_ins, List.mem_cons]
        constructor
        · rintro (h | h | h)
          · exact .inr (.inl h)
          · exact .inl h
          · exact .inr (.inr h)
        · rintro (h | h | h)
          · exact .inr (.inl h)
          · exact .inl h
          · exact .inr (.inr h)
theorem Post.grow {α : Type} {K : PySem.W.Frag} {W : WX} {σ : L2.St} {ι ι' : List Addr} {H H' : Hp} {r : R α} {P : α → Sto → List Addr → Hp → Prop} (h : Post K W σ ι H r P) (g : Grow ι H ι' H') : Post K W σ ι' H' r P := by
  cases r with
  | stuck => exact h
  | ok a S => exact fun ι2 H2 G2 s2 => h ι2 H2 (g.trans G2) s2
  | er e S => exact fun ι2 H2 cls dd G2 s2 => h ι2 H2 cls dd (g.trans G2) s2
theorem ints_vals {K : PySem.W.Frag} {ι : List Addr} {H : Hp} : ∀ {ds : List D} {vs : List V} {is : List Int}, RepL K ι H ds vs → intsOf ds = some is → vs = is.map V.int
  | [], _, _, r, e => by rw [RepL] at r; subst r; cases e; rfl
  | d :: ds, _, _, r, e => by
    rw [RepL] at r
    obtain ⟨v, w, rfl, a, b⟩ := r
    cases d with
    | int i =>
      have e' : (intsOf ds).map (fun is => i :: is) = some _ := e
      cases hs : intsOf ds with
      | none => rw [hs] at e'; cases e'
      | some is =>
        rw [hs] at e'; cases e'
        rw [List.map_cons, ← ints_vals b hs, int_at a]
    | _ => cases e
theorem RepL.ints {K : PySem.W.Frag} {ι : List Addr} {H : Hp} : ∀ is : List Int, RepL K ι H (is.map D.int) (is.map V.int)
  | [] => RepL.nil
  | i :: is => by
    rw [List.map_cons, List.map_cons, RepL]
    exact ⟨_, _, rfl, int_rep, RepL.ints is⟩
end DL
namespace DL
open PySem PySem.Spec L2
open PyProof.Rows hiding St
end DL
namespace DL
open PySem PySem.Spec L2
open PyProof.Rows hiding St
end DL
namespace DL
open PySem PySem.Spec L2 ClX
open PyProof.Rows hiding St
end DL
namespace DL
open PySem PySem.Spec L2 ClX
open PyProof.Rows hiding St
end DL
namespace DL
open PySem PySem.Spec L2 ClX
open PyProof.Rows hiding St
end DL
namespace DL
open PySem PySem.Spec L2 ClX
open PyProof.Rows hiding St
end DL
namespace DL
open PySem PySem.Spec L2
open PyProof.Rows hiding St
end DL
namespace DL
open PySem PySem.Spec L2 ClX
open PyProof.Rows hiding St
end DL
namespace DL
open PySem PySem.Spec L2 ClX
open PyProof.Rows hiding St
end DL
namespace DL
open PySem PySem.Spec L2
open PyProof.Rows hiding St
end DL
namespace DL
open PySem PySem.Spec L2
open PyProof.Rows hiding St
end DL
namespace PyProof.Rows
open PySem
end PyProof.Rows
namespace DL
open PySem PySem.Spec L2
open PyProof.Rows hiding St
end DL
namespace DL
open PySem PySem.Spec L2
open PyProof.Rows hiding St
/-- where the enumeration stands -/
def EnSt (e it : Addr) (i : Nat) (h : Heap) : Prop := (∃ old, IsEnum h e it ((i : Nat) : Int) old) ∨ ∃ old T f oT, IsEnumHeld h e it ((i : Nat) : Int) old T f ∧ h.get? T = some oT ∧ T ≠ e ∧ T ≠ it
theorem EnSt.lt {e it : Addr} {i : Nat} {h : Heap} (s : EnSt e it i h) : e < h.objs.size := by
  rcases s with ⟨_, q⟩ | ⟨_, _, _, _, q, _⟩
  · exact Heap.lt_size q
  · exact Heap.lt_size q
end DL
namespace DL
open PySem PySem.Spec L2
open PyProof.Rows hiding St
open PySem.SeqAt
section
variable {M : Model} {prog : Program} {w : World} {A : Around} {E : Value → Shared → Prop} {s : Shared} {K : PySem.W.Frag} {x C dx : Addr}
/-- the builtin types that are compared with instances here -/
def PT (T : String) : Prop := T = "NoneType" ∨ T = "bool" ∨ T = "int" ∨ T = "str" ∨ T = "tuple" ∨ T = "list" ∨ T = "dict"
end
end DL
namespace DL
open PySem PySem.Spec L2
open PyProof.Rows hiding St
end DL
namespace DL
open PySem PySem.Spec L2
open PyProof.Rows hiding St
noncomputable def B_check_place : Ev → Sto → SR :=
  (sIf (eNot (eT (eCall F_is_integer (aCons (eVar 1) (aCons (eC (.int 0)) (aCons (eOp dSub (eCall bLen (aCons (eVar 0) aNil)) (eC (.int 1))) aNil)))))) (sRaise1 "NoPlace" "value" (aCons (eVar 1) aNil)) sNil)
noncomputable def F_check_place : Fn := fnC close 2 2 B_check_place
noncomputable def B_turned : Ev → Sto → SR :=
  (sSeq (sExp (eCall F_check_place (aCons (eVar 0) (aCons (eVar 1) aNil))))
    (sRet (eTup (aStar (eSl mkFl (eVar 0) (oSome (eVar 1)) oNone) (aStar (eSl mkFl (eVar 0) oNone (oSome (eVar 1))) aNil)))))
noncomputable def F_turned : Fn := fnC close 2 2 B_turned
noncomputable def B_need : Ev → Sto → SR :=
  (sRet (eCall F_need_of (aCons (eCall F_turned (aCons (eVar 0) (aCons (eVar 1) aNil))) aNil)))
noncomputable def F_need : Fn := fnC close 2 2 B_need
noncomputable def E1_beginnings (ρ : Ev) (S : Sto) : R D :=
  (eVar 1) ρ S
noncomputable def Q1_beginnings (ρ : Ev) (S : Sto) : R Bool :=
  (eT (eOp (dEq false) (eCall F_need (aCons (eVar 0) (aCons (eVar 1) aNil))) (eC (.int 0)))) ρ S
noncomputable def B_beginnings : Ev → Sto → SR :=
  (sRet (eCall bTuple (aCons (eLc finFl (iRange1 (aCons (eCall bLen (aCons (eVar 0) aNil)) aNil)) (tN 1) [1] Q1_beginnings E1_beginnings) aNil)))
noncomputable def F_beginnings : Fn := fnC close 2 1 B_beginnings
theorem srcOf_tup (ds : List D) (S : Sto) : srcOf (.tup ds) S = .ok (ds, yes) S := rfl
theorem srcOf_fl (ds : List D) (S : Sto) : srcOf (.fl ds) S = .ok (ds, yes) S := rfl
theorem srcOf_kl (ds : List D) (S : Sto) : srcOf (.kl ds) S = .ok (ds, yes) S := rfl
theorem srcOf_ti (l : List Int) (S : Sto) : srcOf (ti l) S = .ok (l.map D.int, yes) S := rfl
theorem forD_strm {T : Tg} {B Z : Ev → Sto → SR} {rest : Sto} (I : Ev → Prop) (cost : Nat) : ∀ (ds : List D) (ρ : Ev) (S : Sto) (n : Nat), I ρ → Strm S n rest → n + ds.length * cost < 2 ^ 60 →
    (∀ d ∈ ds, ∀ ρ S n, I ρ → Strm S n rest → n + cost < 2 ^ 60 → ∃ ρ1 ρ2 S2, T d ρ S = some (ρ1, S) ∧ (B ρ1 S = .nx ρ2 S2 ∨ B ρ1 S = .ct ρ2 S2) ∧ I ρ2 ∧ Strm S2 (n + cost) rest) →
    ∃ ρ' S', I ρ' ∧ Strm S' (n + ds.length * cost) rest ∧ forD yes T B Z ds ρ S = Z ρ' S'
  | [], ρ, S, n, h, hs, _, _ => ⟨ρ, S, h, by simpa using hs, forD_nil trivial⟩
  | d :: ds, ρ, S, n, h, hs, hn, step => by
    have e1 : n + (d :: ds).length * cost = n + cost + ds.length * cost := by simp [Nat.add_mul]; omega
    rw [e1] at hn ⊢
    obtain ⟨ρ1, ρ2, S2, hT, hB, h2, s2⟩ := step d List.mem_cons_self ρ S n h hs (by omega)
    obtain ⟨ρ', S', h3, s3, e⟩ := forD_strm I cost ds ρ2 S2 (n + cost) h2 s2 hn fun d' hd => step d' (List.mem_cons_of_mem _ hd)
    refine ⟨ρ', S', h3, s3, ?_⟩
    rw [forD, if_pos (show yes S from trivial), hT]
    rcases hB with hB | hB <;> (simp only [hB]; exact e)
theorem fnC_er {n m : Nat} {B : Ev → Sto → SR} {ds : List D} {S S' : Sto} {ρ : Ev} {e : Ex} (hm : ds.length = m) (h : B (startD n ds) S = .er e ρ S') (hc : S'.length = S.length) : fnC close n m B ds S = .er e S' := by
  unfold fnC
  rw [if_pos hm, h]
  show closeE S e S' = _
  unfold closeE
  rw [if_pos hc]
theorem fnC_nx {n m : Nat} {B : Ev → Sto → SR} {ds : List D} {S S' : Sto} {ρ : Ev} (hm : ds.length = m) (h : B (startD n ds) S = .nx ρ S') (hc : S'.length = S.length) : fnC close n m B ds S = .ok .non S' := by
  unfold fnC
  rw [if_pos hm, h]
  exact close_same hc
def pl : D → Bool
  | .non => true
  | .bl _ => true
  | .int _ => true
  | .str _ => true
  | .tup _ => true
  | .fl _ => true
  | .fd _ => true
  | _ => false
def isI (v : D) (lo hi : Int) : Bool := match v with
  | .int i => decide (lo ≤ i ∧ i ≤ hi)
  | _ => false
theorem kt1 : kitB "NoneType" "int" = some false := by decide +kernel
theorem kt2 : kitB "bool" "int" = some true := by decide +kernel
theorem kt3 : kitB "int" "int" = some true := by decide +kernel
theorem kt4 : kitB "str" "int" = some false := by decide +kernel
theorem kt5 : kitB "tuple" "int" = some false := by decide +kernel
theorem kt6 : kitB "list" "int" = some false := by decide +kernel
theorem kt7 : kitB "dict" "int" = some false := by decide +kernel
theorem ku2 : kitB "bool" "bool" = some true := by decide +kernel
theorem ku3 : kitB "int" "bool" = some false := by decide +kernel
def isInt0 : D → Bool
  | .int _ => true
  | .bl _ => true
  | _ => false
def isBl : D → Bool
  | .bl _ => true
  | _ => false
theorem isi_int {v : D} (h : pl v = true) (S : Sto) : bIsi [v, .ty "int"] S = .ok (.bl (isInt0 v)) S := by
  cases v <;> first | (simp [pl] at h; done) | (simp only [bIsi, tyOf, kt1, kt2, kt3, kt4, kt5, kt6, kt7, isInt0])
theorem isi_bool {v : D} (h : isInt0 v = true) (S : Sto) : bIsi [v, .ty "bool"] S = .ok (.bl (isBl v)) S := by
  cases v <;> first | (simp [isInt0] at h; done) | (simp only [bIsi, tyOf, ku2, ku3, isBl])
theorem is_int_any {v : D} (h : pl v = true) (lo hi : Int) (S : Sto) : F_is_integer [v, .int lo, .int hi] S = .ok (.bl (isI v lo hi)) S := by
  refine fnC_rt rfl ?_ rfl
  unfold B_is_integer
  cases v with
  | int i =>
    have h1 := isi_int (v := .int i) rfl S
    have h2 := isi_bool (v := .int i) rfl S
    by_cases h3 : lo ≤ i
    · by_cases h4 : i ≤ hi
      · simp only [eVar, eC, eOp, eT, eAnd, eOr, eNot, eIf, eAndV, eOrV, eNotV, eCall, aNil, aCons, aStar, sOf, eTup, eFl, eLoc, eSl, oNone, oSome, iOf, eNeg, eChain, eMt, bOf, eDict0, eRev, eListRg, iZipD, sRaise1, sRaise0, eCallV, List.lookup, R.bind_ok, R.bind_er, R.bind_stuck, R.toS_ok, R.toS_er, R.toS_stuck, SR.next_nx, SR.next_rt, SR.next_er, SR.next_bk, SR.next_ct, SR.next_stuck, sNil, sSeq, sBrk, sCnt, sExp, sRet, sRetN, sIf, sSet, sAsg, sAug, sPar2, sPar3, tN, DL.tTup, DL.tNil, DL.tCons, DL.tSub, iSeq, srcOf, iRange1, iRange2, sFor, startD, List.map_cons, List.map_nil, List.length_cons, List.length_nil, List.replicate, List.cons_append, List.nil_append, List.getElem?_cons_zero, List.getElem?_cons_succ, List.set_cons_zero, List.set_cons_succ, dSub_int, dFdiv_int, dMod_int, dLt_int, dLe_int, dGt_int, dGe_int, dAddI_int, dSubI_int, dIsN_non, isN, dAdd_int, ll0, ll1, ll2, ll3, ll4, ll5, ll6, ll7, ll8, ll9, ll10, ll11, ll12, ll13, ll14, ll15, ll16, ll17, ll18, ll19, ll20, ll21, ll22, ll23, ll24, ll25, ll26, ll27, ll28, ll29, ll30, ll31, ll32, ll33, ll34, ll35, ll36, ll37, ll38, ll39, ll40, Nat.reduceSub, Nat.reduceAdd, Nat.reduceEqDiff, if_true, if_false, ifp_t, ifp_f, reduceIte, Bool.true_eq_false, Bool.false_eq_true, Option.map_some, Option.map_none, Option.bind_some, Option.bind_none, h1, h2, isInt0, isBl, h3, h4, decide_true, Bool.not_false, isI, and_self]
      · simp only [eVar, eC, eOp, eT, eAnd, eOr, eNot, eIf, eAndV, eOrV, eNotV, eCall, aNil, aCons, aStar, sOf, eTup, eFl, eLoc, eSl, oNone, oSome, iOf, eNeg, eChain, eMt, bOf, eDict0, eRev, eListRg, iZipD, sRaise1, sRaise0, eCallV, List.lookup, R.bind_ok, R.bind_er, R.bind_stuck, R.toS_ok, R.toS_er, R.toS_stuck, SR.next_nx, SR.next_rt, SR.next_er, SR.next_bk, SR.next_ct, SR.next_stuck, sNil, sSeq, sBrk, sCnt, sExp, sRet, sRetN, sIf, sSet, sAsg, sAug, sPar2, sPar3, tN, DL.tTup, DL.tNil, DL.tCons, DL.tSub, iSeq, srcOf, iRange1, iRange2, sFor, startD, List.map_cons, List.map_nil, List.length_cons, List.length_nil, List.replicate, List.cons_append, List.nil_append, List.getElem?_cons_zero, List.getElem?_cons_succ, List.set_cons_zero, List.set_cons_succ, dSub_int, dFdiv_int, dMod_int, dLt_int, dLe_int, dGt_int, dGe_int, dAddI_int, dSubI_int, dIsN_non, isN, dAdd_int, ll0, ll1, ll2, ll3, ll4, ll5, ll6, ll7, ll8, ll9, ll10, ll11, ll12, ll13, ll14, ll15, ll16, ll17, ll18, ll19, ll20, ll21, ll22, ll23, ll24, ll25, ll26, ll27, ll28, ll29, ll30, ll31, ll32, ll33, ll34, ll35, ll36, ll37, ll38, ll39, ll40, Nat.reduceSub, Nat.reduceAdd, Nat.reduceEqDiff, if_true, if_false, ifp_t, ifp_f, reduceIte, Bool.true_eq_false, Bool.false_eq_true, Option.map_some, Option.map_none, Option.bind_some, Option.bind_none, h1, h2, isInt0, isBl, h3, h4, decide_true, decide_false, Bool.not_false, isI, and_false]
    · simp only [eVar, eC, eOp, eT, eAnd, eOr, eNot, eIf, eAndV, eOrV, eNotV, eCall, aNil, aCons, aStar, sOf, eTup, eFl, eLoc, eSl, oNone, oSome, iOf, eNeg, eChain, eMt, bOf, eDict0, eRev, eListRg, iZipD, sRaise1, sRaise0, eCallV, List.lookup, R.bind_ok, R.bind_er, R.bind_stuck, R.toS_ok, R.toS_er, R.toS_stuck, SR.next_nx, SR.next_rt, SR.next_er, SR.next_bk, SR.next_ct, SR.next_stuck, sNil, sSeq, sBrk, sCnt, sExp, sRet, sRetN, sIf, sSet, sAsg, sAug, sPar2, sPar3, tN, DL.tTup, DL.tNil, DL.tCons, DL.tSub, iSeq, srcOf, iRange1, iRange2, sFor, startD, List.map_cons, List.map_nil, List.length_cons, List.length_nil, List.replicate, List.cons_append, List.nil_append, List.getElem?_cons_zero, List.getElem?_cons_succ, List.set_cons_zero, List.set_cons_succ, dSub_int, dFdiv_int, dMod_int, dLt_int, dLe_int, dGt_int, dGe_int, dAddI_int, dSubI_int, dIsN_non, isN, dAdd_int, ll0, ll1, ll2, ll3, ll4, ll5, ll6, ll7, ll8, ll9, ll10, ll11, ll12, ll13, ll14, ll15, ll16, ll17, ll18, ll19, ll20, ll21, ll22, ll23, ll24, ll25, ll26, ll27, ll28, ll29, ll30, ll31, ll32, ll33, ll34, ll35, ll36, ll37, ll38, ll39, ll40, Nat.reduceSub, Nat.reduceAdd, Nat.reduceEqDiff, if_true, if_false, ifp_t, ifp_f, reduceIte, Bool.true_eq_false, Bool.false_eq_true, Option.map_some, Option.map_none, Option.bind_some, Option.bind_none, h1, h2, isInt0, isBl, h3, decide_false, Bool.not_false, isI, false_and]
  | bl b =>
    have h1 := isi_int (v := .bl b) rfl S
    have h2 := isi_bool (v := .bl b) rfl S
    simp only [eVar, eC, eOp, eT, eAnd, eOr, eNot, eIf, eAndV, eOrV, eNotV, eCall, aNil, aCons, aStar, sOf, eTup, eFl, eLoc, eSl, oNone, oSome, iOf, eNeg, eChain, eMt, bOf, eDict0, eRev, eListRg, iZipD, sRaise1, sRaise0, eCallV, List.lookup, R.bind_ok, R.bind_er, R.bind_stuck, R.toS_ok, R.toS_er, R.toS_stuck, SR.next_nx, SR.next_rt, SR.next_er, SR.next_bk, SR.next_ct, SR.next_stuck, sNil, sSeq, sBrk, sCnt, sExp, sRet, sRetN, sIf, sSet, sAsg, sAug, sPar2, sPar3, tN, DL.tTup, DL.tNil, DL.tCons, DL.tSub, iSeq, srcOf, iRange1, iRange2, sFor, startD, List.map_cons, List.map_nil, List.length_cons, List.length_nil, List.replicate, List.cons_append, List.nil_append, List.getElem?_cons_zero, List.getElem?_cons_succ, List.set_cons_zero, List.set_cons_succ, dSub_int, dFdiv_int, dMod_int, dLt_int, dLe_int, dGt_int, dGe_int, dAddI_int, dSubI_int, dIsN_non, isN, dAdd_int, ll0, ll1, ll2, ll3, ll4, ll5, ll6, ll7, ll8, ll9, ll10, ll11, ll12, ll13, ll14, ll15, ll16, ll17, ll18, ll19, ll20, ll21, ll22, ll23, ll24, ll25, ll26, ll27, ll28, ll29, ll30, ll31, ll32, ll33, ll34, ll35, ll36, ll37, ll38, ll39, ll40, Nat.reduceSub, Nat.reduceAdd, Nat.reduceEqDiff, if_true, if_false, ifp_t, ifp_f, reduceIte, Bool.true_eq_false, Bool.false_eq_true, Option.map_some, Option.map_none, Option.bind_some, Option.bind_none, h1, h2, isInt0, isBl, Bool.not_true, isI]
  | non => simp only [eVar, eC, eOp, eT, eAnd, eOr, eNot, eIf, eAndV, eOrV, eNotV, eCall, aNil, aCons, aStar, sOf, eTup, eFl, eLoc, eSl, oNone, oSome, iOf, eNeg, eChain, eMt, bOf, eDict0, eRev, eListRg, iZipD, sRaise1, sRaise0, eCallV, List.lookup, R.bind_ok, R.bind_er, R.bind_stuck, R.toS_ok, R.toS_er, R.toS_stuck, SR.next_nx, SR.next_rt, SR.next_er, SR.next_bk, SR.next_ct, SR.next_stuck, sNil, sSeq, sBrk, sCnt, sExp, sRet, sRetN, sIf, sSet, sAsg, sAug, sPar2, sPar3, tN, DL.tTup, DL.tNil, DL.tCons, DL.tSub, iSeq, srcOf, iRange1, iRange2, sFor, startD, List.map_cons, List.map_nil, List.length_cons, List.length_nil, List.replicate, List.cons_append, List.nil_append, List.getElem?_cons_zero, List.getElem?_cons_succ, List.set_cons_zero, List.set_cons_succ, dSub_int, dFdiv_int, dMod_int, dLt_int, dLe_int, dGt_int, dGe_int, dAddI_int, dSubI_int, dIsN_non, isN, dAdd_int, ll0, ll1, ll2, ll3, ll4, ll5, ll6, ll7, ll8, ll9, ll10, ll11, ll12, ll13, ll14, ll15, ll16, ll17, ll18, ll19, ll20, ll21, ll22, ll23, ll24, ll25, ll26, ll27, ll28, ll29, ll30, ll31, ll32, ll33, ll34, ll35, ll36, ll37, ll38, ll39, ll40, Nat.reduceSub, Nat.reduceAdd, Nat.reduceEqDiff, if_true, if_false, ifp_t, ifp_f, reduceIte, Bool.true_eq_false, Bool.false_eq_true, Option.map_some, Option.map_none, Option.bind_some, Option.bind_none, isi_int (v := .non) rfl, isInt0, isI]
  | str x => simp only [eVar, eC, eOp, eT, eAnd, eOr, eNot, eIf, eAndV, eOrV, eNotV, eCall, aNil, aCons, aStar, sOf, eTup, eFl, eLoc, eSl, oNone, oSome, iOf, eNeg, eChain, eMt, bOf, eDict0, eRev, eListRg, iZipD, sRaise1, sRaise0, eCallV, List.lookup, R.bind_ok, R.bind_er, R.bind_stuck, R.toS_ok, R.toS_er, R.toS_stuck, SR.next_nx, SR.next_rt, SR.next_er, SR.next_bk, SR.next_ct, SR.next_stuck, sNil, sSeq, sBrk, sCnt, sExp, sRet, sRetN, sIf, sSet, sAsg, sAug, sPar2, sPar3, tN, DL.tTup, DL.tNil, DL.tCons, DL.tSub, iSeq, srcOf, iRange1, iRange2, sFor, startD, List.map_cons, List.map_nil, List.length_cons, List.length_nil, List.replicate, List.cons_append, List.nil_append, List.getElem?_cons_zero, List.getElem?_cons_succ, List.set_cons_zero, List.set_cons_succ, dSub_int, dFdiv_int, dMod_int, dLt_int, dLe_int, dGt_int, dGe_int, dAddI_int, dSubI_int, dIsN_non, isN, dAdd_int, ll0, ll1, ll2, ll3, ll4, ll5, ll6, ll7, ll8, ll9, ll10, ll11, ll12, ll13, ll14, ll15, ll16, ll17, ll18, ll19, ll20, ll21, ll22, ll23, ll24, ll25, ll26, ll27, ll28, ll29, ll30, ll31, ll32, ll33, ll34, ll35, ll36, ll37, ll38, ll39, ll40, Nat.reduceSub, Nat.reduceAdd, Nat.reduceEqDiff, if_true, if_false, ifp_t, ifp_f, reduceIte, Bool.true_eq_false, Bool.false_eq_true, Option.map_some, Option.map_none, Option.bind_some, Option.bind_none, isi_int (v := .str x) rfl, isInt0, isI]
  | tup x => simp only [eVar, eC, eOp, eT, eAnd, eOr, eNot, eIf, eAndV, eOrV, eNotV, eCall, aNil, aCons, aStar, sOf, eTup, eFl, eLoc, eSl, oNone, oSome, iOf, eNeg, eChain, eMt, bOf, eDict0, eRev, eListRg, iZipD, sRaise1, sRaise0, eCallV, List.lookup, R.bind_ok, R.bind_er, R.bind_stuck, R.toS_ok, R.toS_er, R.toS_stuck, SR.next_nx, SR.next_rt, SR.next_er, SR.next_bk, SR.next_ct, SR.next_stuck, sNil, sSeq, sBrk, sCnt, sExp, sRet, sRetN, sIf, sSet, sAsg, sAug, sPar2, sPar3, tN, DL.tTup, DL.tNil, DL.tCons, DL.tSub, iSeq, srcOf, iRange1, iRange2, sFor, startD, List.map_cons, List.map_nil, List.length_cons, List.length_nil, List.replicate, List.cons_append, List.nil_append, List.getElem?_cons_zero, List.getElem?_cons_succ, List.set_cons_zero, List.set_cons_succ, dSub_int, dFdiv_int, dMod_int, dLt_int, dLe_int, dGt_int, dGe_int, dAddI_int, dSubI_int, dIsN_non, isN, dAdd_int, ll0, ll1, ll2, ll3, ll4, ll5, ll6, ll7, ll8, ll9, ll10, ll11, ll12, ll13, ll14, ll15, ll16, ll17, ll18, ll19, ll20, ll21, ll22, ll23, ll24, ll25, ll26, ll27, ll28, ll29, ll30, ll31, ll32, ll33, ll34, ll35, ll36, ll37, ll38, ll39, ll40, Nat.reduceSub, Nat.reduceAdd, Nat.reduceEqDiff, if_true, if_false, ifp_t, ifp_f, reduceIte, Bool.true_eq_false, Bool.false_eq_true, Option.map_some, Option.map_none, Option.bind_some, Option.bind_none, isi_int (v := .tup x) rfl, isInt0, isI]
  | fl x => simp only [eVar, eC, eOp, eT, eAnd, eOr, eNot, eIf, eAndV, eOrV, eNotV, eCall, aNil, aCons, aStar, sOf, eTup, eFl, eLoc, eSl, oNone, oSome, iOf, eNeg, eChain, eMt, bOf, eDict0, eRev, eListRg, iZipD, sRaise1, sRaise0, eCallV, List.lookup, R.bind_ok, R.bind_er, R.bind_stuck, R.toS_ok, R.toS_er, R.toS_stuck, SR.next_nx, SR.next_rt, SR.next_er, SR.next_bk, SR.next_ct, SR.next_stuck, sNil, sSeq, sBrk, sCnt, sExp, sRet, sRetN, sIf, sSet, sAsg, sAug, sPar2, sPar3, tN, DL.tTup, DL.tNil, DL.tCons, DL.tSub, iSeq, srcOf, iRange1, iRange2, sFor, startD, List.map_cons, List.map_nil, List.length_cons, List.length_nil, List.replicate, List.cons_append, List.nil_append, List.getElem?_cons_zero, List.getElem?_cons_succ, List.set_cons_zero, List.set_cons_succ, dSub_int, dFdiv_int, dMod_int, dLt_int, dLe_int, dGt_int, dGe_int, dAddI_int, dSubI_int, dIsN_non, isN, dAdd_int, ll0, ll1, ll2, ll3, ll4, ll5, ll6, ll7, ll8, ll9, ll10, ll11, ll12, ll13, ll14, ll15, ll16, ll17, ll18, ll19, ll20, ll21, ll22, ll23, ll24, ll25, ll26, ll27, ll28, ll29, ll30, ll31, ll32, ll33, ll34, ll35, ll36, ll37, ll38, ll39, ll40, Nat.reduceSub, Nat.reduceAdd, Nat.reduceEqDiff, if_true, if_false, ifp_t, ifp_f, reduceIte, Bool.true_eq_false, Bool.false_eq_true, Option.map_some, Option.map_none, Option.bind_some, Option.bind_none, isi_int (v := .fl x) rfl, isInt0, isI]
  | fd x => simp only [eVar, eC, eOp, eT, eAnd, eOr, eNot, eIf, eAndV, eOrV, eNotV, eCall, aNil, aCons, aStar, sOf, eTup, eFl, eLoc, eSl, oNone, oSome, iOf, eNeg, eChain, eMt, bOf, eDict0, eRev, eListRg, iZipD, sRaise1, sRaise0, eCallV, List.lookup, R.bind_ok, R.bind_er, R.bind_stuck, R.toS_ok, R.toS_er, R.toS_stuck, SR.next_nx, SR.next_rt, SR.next_er, SR.next_bk, SR.next_ct, SR.next_stuck, sNil, sSeq, sBrk, sCnt, sExp, sRet, sRetN, sIf, sSet, sAsg, sAug, sPar2, sPar3, tN, DL.tTup, DL.tNil, DL.tCons, DL.tSub, iSeq, srcOf, iRange1, iRange2, sFor, startD, List.map_cons, List.map_nil, List.length_cons, List.length_nil, List.replicate, List.cons_append, List.nil_append, List.getElem?_cons_zero, List.getElem?_cons_succ, List.set_cons_zero, List.set_cons_succ, dSub_int, dFdiv_int, dMod_int, dLt_int, dLe_int, dGt_int, dGe_int, dAddI_int, dSubI_int, dIsN_non, isN, dAdd_int, ll0, ll1, ll2, ll3, ll4, ll5, ll6, ll7, ll8, ll9, ll10, ll11, ll12, ll13, ll14, ll15, ll16, ll17, ll18, ll19, ll20, ll21, ll22, ll23, ll24, ll25, ll26, ll27, ll28, ll29, ll30, ll31, ll32, ll33, ll34, ll35, ll36, ll37, ll38, ll39, ll40, Nat.reduceSub, Nat.reduceAdd, Nat.reduceEqDiff, if_true, if_false, ifp_t, ifp_f, reduceIte, Bool.true_eq_false, Bool.false_eq_true, Option.map_some, Option.map_none, Option.bind_some, Option.bind_none, isi_int (v := .fd x) rfl, isInt0, isI]
  | _ => simp [pl] at h
/-- the place that a value is -/
def plc (n : Nat) (v : D) : Option Nat := match v with
  | .int i => if 0 ≤ i ∧ i < n then some i.toNat else none
  | _ => none
def noPlace (v : D) : Ex := ⟨.own "NoPlace", [("value", v)]⟩
theorem plc_int {n p : Nat} (h : p < n) : plc n (.int p) = some p := by
  show (if 0 ≤ (p : Int) ∧ (p : Int) < n then some (p : Int).toNat else none) = some p
  rw [if_pos (by omega)]
  simp
theorem plc_some {n : Nat} {v : D} {p : Nat} (h : plc n v = some p) : v = .int p ∧ p < n := by
  cases v with
  | int i =>
    simp only [plc] at h
    split at h
    · rename_i hh
      cases h
      refine ⟨?_, by omega⟩
      congr 1
      omega
    · cases h
  | _ => cases h
theorem isI_plc (n : Nat) (v : D) : isI v 0 ((n : Int) - 1) = (plc n v).isSome := by
  cases v with
  | int i =>
    simp only [isI, plc]
    by_cases h : 0 ≤ i ∧ i < n
    · rw [if_pos h, decide_eq_true (by omega)]; rfl
    · rw [if_neg h, decide_eq_false (by omega)]; rfl
  | _ => rfl
theorem check_any (l : List Int) {v : D} (h : pl v = true) (S : Sto) : F_check_place [ti l, v] S = (match plc l.length v with
    | some _ => .ok .non S
    | none => .er (noPlace v) S) := by
  have hi := is_int_any h 0 ((l.length : Int) - 1) S
  rw [isI_plc] at hi
  cases e : plc l.length v with
  | some p =>
    rw [e] at hi
    refine fnC_nx rfl (ρ := [some (ti l), some v]) ?_ rfl
    unfold B_check_place
    simp only [eVar, eC, eOp, eT, eAnd, eOr, eNot, eIf, eAndV, eOrV, eNotV, eCall, aNil, aCons, aStar, sOf, eTup, eFl, eLoc, eSl, oNone, oSome, iOf, eNeg, eChain, eMt, bOf, eDict0, eRev, eListRg, iZipD, sRaise1, sRaise0, eCallV, List.lookup, R.bind_ok, R.bind_er, R.bind_stuck, R.toS_ok, R.toS_er, R.toS_stuck, SR.next_nx, SR.next_rt, SR.next_er, SR.next_bk, SR.next_ct, SR.next_stuck, sNil, sSeq, sBrk, sCnt, sExp, sRet, sRetN, sIf, sSet, sAsg, sAug, sPar2, sPar3, tN, DL.tTup, DL.tNil, DL.tCons, DL.tSub, iSeq, srcOf, iRange1, iRange2, sFor, startD, List.map_cons, List.map_nil, List.length_cons, List.length_nil, List.replicate, List.cons_append, List.nil_append, List.getElem?_cons_zero, List.getElem?_cons_succ, List.set_cons_zero, List.set_cons_succ, dSub_int, dFdiv_int, dMod_int, dLt_int, dLe_int, dGt_int, dGe_int, dAddI_int, dSubI_int, dIsN_non, isN, dAdd_int, ll0, ll1, ll2, ll3, ll4, ll5, ll6, ll7, ll8, ll9, ll10, ll11, ll12, ll13, ll14, ll15, ll16, ll17, ll18, ll19, ll20, ll21, ll22, ll23, ll24, ll25, ll26, ll27, ll28, ll29, ll30, ll31, ll32, ll33, ll34, ll35, ll36, ll37, ll38, ll39, ll40, Nat.reduceSub, Nat.reduceAdd, Nat.reduceEqDiff, if_true, if_false, ifp_t, ifp_f, reduceIte, Bool.true_eq_false, Bool.false_eq_true, Option.map_some, Option.map_none, Option.bind_some, Option.bind_none, ti_len, hi, Option.isSome_some, Bool.not_true]
  | none =>
    rw [e] at hi
    refine fnC_er rfl (ρ := [some (ti l), some v]) ?_ rfl
    unfold B_check_place
    simp only [eVar, eC, eOp, eT, eAnd, eOr, eNot, eIf, eAndV, eOrV, eNotV, eCall, aNil, aCons, aStar, sOf, eTup, eFl, eLoc, eSl, oNone, oSome, iOf, eNeg, eChain, eMt, bOf, eDict0, eRev, eListRg, iZipD, sRaise1, sRaise0, eCallV, List.lookup, R.bind_ok, R.bind_er, R.bind_stuck, R.toS_ok, R.toS_er, R.toS_stuck, SR.next_nx, SR.next_rt, SR.next_er, SR.next_bk, SR.next_ct, SR.next_stuck, sNil, sSeq, sBrk, sCnt, sExp, sRet, sRetN, sIf, sSet, sAsg, sAug, sPar2, sPar3, tN, DL.tTup, DL.tNil, DL.tCons, DL.tSub, iSeq, srcOf, iRange1, iRange2, sFor, startD, List.map_cons, List.map_nil, List.length_cons, List.length_nil, List.replicate, List.cons_append, List.nil_append, List.getElem?_cons_zero, List.getElem?_cons_succ, List.set_cons_zero, List.set_cons_succ, dSub_int, dFdiv_int, dMod_int, dLt_int, dLe_int, dGt_int, dGe_int, dAddI_int, dSubI_int, dIsN_non, isN, dAdd_int, ll0, ll1, ll2, ll3, ll4, ll5, ll6, ll7, ll8, ll9, ll10, ll11, ll12, ll13, ll14, ll15, ll16, ll17, ll18, ll19, ll20, ll21, ll22, ll23, ll24, ll25, ll26, ll27, ll28, ll29, ll30, ll31, ll32, ll33, ll34, ll35, ll36, ll37, ll38, ll39, ll40, Nat.reduceSub, Nat.reduceAdd, Nat.reduceEqDiff, if_true, if_false, ifp_t, ifp_f, reduceIte, Bool.true_eq_false, Bool.false_eq_true, Option.map_some, Option.map_none, Option.bind_some, Option.bind_none, ti_len, hi, Option.isSome_none, Bool.not_false]
    rfl
theorem turned_any (l : List Int) {v : D} (h : pl v = true) (hl : l.length < 10 ^ 6) (S : Sto) : F_turned [ti l, v] S = (match plc l.length v with
    | some p => .ok (ti (rot l p)) S
    | none => .er (noPlace v) S) := by
  have hc := check_any l h S
  cases e : plc l.length v with
  | some p =>
    rw [e] at hc
    obtain ⟨rfl, hp⟩ := plc_some e
    refine fnC_rt rfl ?_ rfl
    unfold B_turned
    have so : ∀ (l : List Int) S, seqOf S (ti l) = some (l.map D.int) := fun l S => rfl
    have hlen : ((l.drop p).map D.int ++ (l.take p).map D.int).length ≤ sizeLine := by
      rw [List.length_append, List.length_map, List.length_map, List.length_drop, List.length_take]
      exact Nat.le_trans (show l.length - p + min p l.length ≤ 10 ^ 6 by omega) (by decide)
    simp only [eVar, eC, eOp, eT, eAnd, eOr, eNot, eIf, eAndV, eOrV, eNotV, eCall, aNil, aCons, aStar, sOf, eTup, eFl, eLoc, eSl, oNone, oSome, iOf, eNeg, eChain, eMt, bOf, eDict0, eRev, eListRg, iZipD, sRaise1, sRaise0, eCallV, List.lookup, R.bind_ok, R.bind_er, R.bind_stuck, R.toS_ok, R.toS_er, R.toS_stuck, SR.next_nx, SR.next_rt, SR.next_er, SR.next_bk, SR.next_ct, SR.next_stuck, sNil, sSeq, sBrk, sCnt, sExp, sRet, sRetN, sIf, sSet, sAsg, sAug, sPar2, sPar3, tN, DL.tTup, DL.tNil, DL.tCons, DL.tSub, iSeq, srcOf, iRange1, iRange2, sFor, startD, List.map_cons, List.map_nil, List.length_cons, List.length_nil, List.replicate, List.cons_append, List.nil_append, List.getElem?_cons_zero, List.getElem?_cons_succ, List.set_cons_zero, List.set_cons_succ, dSub_int, dFdiv_int, dMod_int, dLt_int, dLe_int, dGt_int, dGe_int, dAddI_int, dSubI_int, dIsN_non, isN, dAdd_int, ll0, ll1, ll2, ll3, ll4, ll5, ll6, ll7, ll8, ll9, ll10, ll11, ll12, ll13, ll14, ll15, ll16, ll17, ll18, ll19, ll20, ll21, ll22, ll23, ll24, ll25, ll26, ll27, ll28, ll29, ll30, ll31, ll32, ll33, ll34, ll35, ll36, ll37, ll38, ll39, ll40, Nat.reduceSub, Nat.reduceAdd, Nat.reduceEqDiff, if_true, if_false, ifp_t, ifp_f, reduceIte, Bool.true_eq_false, Bool.false_eq_true, Option.map_some, Option.map_none, Option.bind_some, Option.bind_none, hc, sl_from, sl_to, so, List.append_nil]
    rw [ifp_pos hlen, R.toS_ok, ← List.map_append]
    rfl
  | none =>
    rw [e] at hc
    refine fnC_er rfl (ρ := [some (ti l), some v]) ?_ rfl
    unfold B_turned
    simp only [eVar, eC, eOp, eT, eAnd, eOr, eNot, eIf, eAndV, eOrV, eNotV, eCall, aNil, aCons, aStar, sOf, eTup, eFl, eLoc, eSl, oNone, oSome, iOf, eNeg, eChain, eMt, bOf, eDict0, eRev, eListRg, iZipD, sRaise1, sRaise0, eCallV, List.lookup, R.bind_ok, R.bind_er, R.bind_stuck, R.toS_ok, R.toS_er, R.toS_stuck, SR.next_nx, SR.next_rt, SR.next_er, SR.next_bk, SR.next_ct, SR.next_stuck, sNil, sSeq, sBrk, sCnt, sExp, sRet, sRetN, sIf, sSet, sAsg, sAug, sPar2, sPar3, tN, DL.tTup, DL.tNil, DL.tCons, DL.tSub, iSeq, srcOf, iRange1, iRange2, sFor, startD, List.map_cons, List.map_nil, List.length_cons, List.length_nil, List.replicate, List.cons_append, List.nil_append, List.getElem?_cons_zero, List.getElem?_cons_succ, List.set_cons_zero, List.set_cons_succ, dSub_int, dFdiv_int, dMod_int, dLt_int, dLe_int, dGt_int, dGe_int, dAddI_int, dSubI_int, dIsN_non, isN, dAdd_int, ll0, ll1, ll2, ll3, ll4, ll5, ll6, ll7, ll8, ll9, ll10, ll11, ll12, ll13, ll14, ll15, ll16, ll17, ll18, ll19, ll20, ll21, ll22, ll23, ll24, ll25, ll26, ll27, ll28, ll29, ll30, ll31, ll32, ll33, ll34, ll35, ll36, ll37, ll38, ll39, ll40, Nat.reduceSub, Nat.reduceAdd, Nat.reduceEqDiff, if_true, if_false, ifp_t, ifp_f, reduceIte, Bool.true_eq_false, Bool.false_eq_true, Option.map_some, Option.map_none, Option.bind_some, Option.bind_none, hc]
theorem need_any (l : List Int) {v : D} (h : pl v = true) (hl : l.length < 10 ^ 6) (S : Sto) : F_need [ti l, v] S = (match plc l.length v with
    | some p => .ok (.int (ne (rot l p))) S
    | none => .er (noPlace v) S) := by
  have hc := turned_any l h hl S
  cases e : plc l.length v with
  | some p =>
    rw [e] at hc
    obtain ⟨rfl, hp⟩ := plc_some e
    refine fnC_rt rfl ?_ rfl
    unfold B_need
    simp only [eVar, eC, eOp, eT, eAnd, eOr, eNot, eIf, eAndV, eOrV, eNotV, eCall, aNil, aCons, aStar, sOf, eTup, eFl, eLoc, eSl, oNone, oSome, iOf, eNeg, eChain, eMt, bOf, eDict0, eRev, eListRg, iZipD, sRaise1, sRaise0, eCallV, List.lookup, R.bind_ok, R.bind_er, R.bind_stuck, R.toS_ok, R.toS_er, R.toS_stuck, SR.next_nx, SR.next_rt, SR.next_er, SR.next_bk, SR.next_ct, SR.next_stuck, sNil, sSeq, sBrk, sCnt, sExp, sRet, sRetN, sIf, sSet, sAsg, sAug, sPar2, sPar3, tN, DL.tTup, DL.tNil, DL.tCons, DL.tSub, iSeq, srcOf, iRange1, iRange2, sFor, startD, List.map_cons, List.map_nil, List.length_cons, List.length_nil, List.replicate, List.cons_append, List.nil_append, List.getElem?_cons_zero, List.getElem?_cons_succ, List.set_cons_zero, List.set_cons_succ, dSub_int, dFdiv_int, dMod_int, dLt_int, dLe_int, dGt_int, dGe_int, dAddI_int, dSubI_int, dIsN_non, isN, dAdd_int, ll0, ll1, ll2, ll3, ll4, ll5, ll6, ll7, ll8, ll9, ll10, ll11, ll12, ll13, ll14, ll15, ll16, ll17, ll18, ll19, ll20, ll21, ll22, ll23, ll24, ll25, ll26, ll27, ll28, ll29, ll30, ll31, ll32, ll33, ll34, ll35, ll36, ll37, ll38, ll39, ll40, Nat.reduceSub, Nat.reduceAdd, Nat.reduceEqDiff, if_true, if_false, ifp_t, ifp_f, reduceIte, Bool.true_eq_false, Bool.false_eq_true, Option.map_some, Option.map_none, Option.bind_some, Option.bind_none, hc, need_of_ok (rot l p) (by rw [DL.rot_length l p (by omega)]; exact hl)]
  | none =>
    rw [e] at hc
    refine fnC_er rfl (ρ := [some (ti l), some v]) ?_ rfl
    unfold B_need
    simp only [eVar, eC, eOp, eT, eAnd, eOr, eNot, eIf, eAndV, eOrV, eNotV, eCall, aNil, aCons, aStar, sOf, eTup, eFl, eLoc, eSl, oNone, oSome, iOf, eNeg, eChain, eMt, bOf, eDict0, eRev, eListRg, iZipD, sRaise1, sRaise0, eCallV, List.lookup, R.bind_ok, R.bind_er, R.bind_stuck, R.toS_ok, R.toS_er, R.toS_stuck, SR.next_nx, SR.next_rt, SR.next_er, SR.next_bk, SR.next_ct, SR.next_stuck, sNil, sSeq, sBrk, sCnt, sExp, sRet, sRetN, sIf, sSet, sAsg, sAug, sPar2, sPar3, tN, DL.tTup, DL.tNil, DL.tCons, DL.tSub, iSeq, srcOf, iRange1, iRange2, sFor, startD, List.map_cons, List.map_nil, List.length_cons, List.length_nil, List.replicate, List.cons_append, List.nil_append, List.getElem?_cons_zero, List.getElem?_cons_succ, List.set_cons_zero, List.set_cons_succ, dSub_int, dFdiv_int, dMod_int, dLt_int, dLe_int, dGt_int, dGe_int, dAddI_int, dSubI_int, dIsN_non, isN, dAdd_int, ll0, ll1, ll2, ll3, ll4, ll5, ll6, ll7, ll8, ll9, ll10, ll11, ll12, ll13, ll14, ll15, ll16, ll17, ll18, ll19, ll20, ll21, ll22, ll23, ll24, ll25, ll26, ll27, ll28, ll29, ll30, ll31, ll32, ll33, ll34, ll35, ll36, ll37, ll38, ll39, ll40, Nat.reduceSub, Nat.reduceAdd, Nat.reduceEqDiff, if_true, if_false, ifp_t, ifp_f, reduceIte, Bool.true_eq_false, Bool.false_eq_true, Option.map_some, Option.map_none, Option.bind_some, Option.bind_none, hc]
theorem need_ok (l : List Int) (p : Nat) (hp : p < l.length) (hl : l.length < 10 ^ 6) (S : Sto) : F_need [ti l, .int p] S = .ok (.int (ne (rot l p))) S := by
  have := need_any l (v := .int p) rfl hl S
  rw [plc_int hp] at this
  exact this
theorem beginnings_ok (l : List Int) (hl : l.length < 10 ^ 6) (S : Sto) : F_beginnings [ti l] S = .ok (.tup (ni (begs l))) S := by
  refine fnC_rt rfl ?_ rfl
  unfold B_beginnings
  have key := eLc_keep (src := iRange1 (aCons (eCall bLen (aCons (eVar 0) aNil)) aNil)) (T := tN 1) (vs := [1]) (c := Q1_beginnings) (f := E1_beginnings) (ρ := [some (ti l), none]) (S := S) l.length (fun d => [some (ti l), some d]) (fun p => decide (ne (rot l p) = 0)) ?_ ?_ hl
  · have hst : startD 2 [ti l] = [some (ti l), none] := rfl
    rw [hst]
    simp only [eVar, eC, eOp, eT, eAnd, eOr, eNot, eIf, eAndV, eOrV, eNotV, eCall, aNil, aCons, aStar, sOf, eTup, eFl, eLoc, eSl, oNone, oSome, iOf, eNeg, eChain, eMt, bOf, eDict0, eRev, eListRg, iZipD, sRaise1, sRaise0, eCallV, List.lookup, R.bind_ok, R.bind_er, R.bind_stuck, R.toS_ok, R.toS_er, R.toS_stuck, SR.next_nx, SR.next_rt, SR.next_er, SR.next_bk, SR.next_ct, SR.next_stuck, sNil, sSeq, sBrk, sCnt, sExp, sRet, sRetN, sIf, sSet, sAsg, sAug, sPar2, sPar3, tN, DL.tTup, DL.tNil, DL.tCons, DL.tSub, iSeq, srcOf, iRange1, iRange2, sFor, startD, List.map_cons, List.map_nil, List.length_cons, List.length_nil, List.replicate, List.cons_append, List.nil_append, List.getElem?_cons_zero, List.getElem?_cons_succ, List.set_cons_zero, List.set_cons_succ, dSub_int, dFdiv_int, dMod_int, dLt_int, dLe_int, dGt_int, dGe_int, dAddI_int, dSubI_int, dIsN_non, isN, dAdd_int, ll0, ll1, ll2, ll3, ll4, ll5, ll6, ll7, ll8, ll9, ll10, ll11, ll12, ll13, ll14, ll15, ll16, ll17, ll18, ll19, ll20, ll21, ll22, ll23, ll24, ll25, ll26, ll27, ll28, ll29, ll30, ll31, ll32, ll33, ll34, ll35, ll36, ll37, ll38, ll39, ll40, Nat.reduceSub, Nat.reduceAdd, Nat.reduceEqDiff, if_true, if_false, ifp_t, ifp_f, reduceIte, Bool.true_eq_false, Bool.false_eq_true, Option.map_some, Option.map_none, Option.bind_some, Option.bind_none, key, bTuple_fl]
    rfl
  · have hr : ((-(2 ^ 62) : Int) ≤ (l.length : Int) ∧ (l.length : Int) < 2 ^ 62) = True := by simp; omega
    simp only [eVar, eC, eOp, eT, eAnd, eOr, eNot, eIf, eAndV, eOrV, eNotV, eCall, aNil, aCons, aStar, sOf, eTup, eFl, eLoc, eSl, oNone, oSome, iOf, eNeg, eChain, eMt, bOf, eDict0, eRev, eListRg, iZipD, sRaise1, sRaise0, eCallV, List.lookup, R.bind_ok, R.bind_er, R.bind_stuck, R.toS_ok, R.toS_er, R.toS_stuck, SR.next_nx, SR.next_rt, SR.next_er, SR.next_bk, SR.next_ct, SR.next_stuck, sNil, sSeq, sBrk, sCnt, sExp, sRet, sRetN, sIf, sSet, sAsg, sAug, sPar2, sPar3, tN, DL.tTup, DL.tNil, DL.tCons, DL.tSub, iSeq, srcOf, iRange1, iRange2, sFor, startD, List.map_cons, List.map_nil, List.length_cons, List.length_nil, List.replicate, List.cons_append, List.nil_append, List.getElem?_cons_zero, List.getElem?_cons_succ, List.set_cons_zero, List.set_cons_succ, dSub_int, dFdiv_int, dMod_int, dLt_int, dLe_int, dGt_int, dGe_int, dAddI_int, dSubI_int, dIsN_non, isN, dAdd_int, ll0, ll1, ll2, ll3, ll4, ll5, ll6, ll7, ll8, ll9, ll10, ll11, ll12, ll13, ll14, ll15, ll16, ll17, ll18, ll19, ll20, ll21, ll22, ll23, ll24, ll25, ll26, ll27, ll28, ll29, ll30, ll31, ll32, ll33, ll34, ll35, ll36, ll37, ll38, ll39, ll40, Nat.reduceSub, Nat.reduceAdd, Nat.reduceEqDiff, if_true, if_false, ifp_t, ifp_f, reduceIte, Bool.true_eq_false, Bool.false_eq_true, Option.map_some, Option.map_none, Option.bind_some, Option.bind_none, ti_len, hr, Int.toNat_natCast]
  · intro k hk S'
    refine ⟨rfl, ?_, rfl⟩
    simp only [eVar, eC, eOp, eT, eAnd, eOr, eNot, eIf, eAndV, eOrV, eNotV, eCall, aNil, aCons, aStar, sOf, eTup, eFl, eLoc, eSl, oNone, oSome, iOf, eNeg, eChain, eMt, bOf, eDict0, eRev, eListRg, iZipD, sRaise1, sRaise0, eCallV, List.lookup, R.bind_ok, R.bind_er, R.bind_stuck, R.toS_ok, R.toS_er, R.toS_stuck, SR.next_nx, SR.next_rt, SR.next_er, SR.next_bk, SR.next_ct, SR.next_stuck, sNil, sSeq, sBrk, sCnt, sExp, sRet, sRetN, sIf, sSet, sAsg, sAug, sPar2, sPar3, tN, DL.tTup, DL.tNil, DL.tCons, DL.tSub, iSeq, srcOf, iRange1, iRange2, sFor, startD, List.map_cons, List.map_nil, List.length_cons, List.length_nil, List.replicate, List.cons_append, List.nil_append, List.getElem?_cons_zero, List.getElem?_cons_succ, List.set_cons_zero, List.set_cons_succ, dSub_int, dFdiv_int, dMod_int, dLt_int, dLe_int, dGt_int, dGe_int, dAddI_int, dSubI_int, dIsN_non, isN, dAdd_int, ll0, ll1, ll2, ll3, ll4, ll5, ll6, ll7, ll8, ll9, ll10, ll11, ll12, ll13, ll14, ll15, ll16, ll17, ll18, ll19, ll20, ll21, ll22, ll23, ll24, ll25, ll26, ll27, ll28, ll29, ll30, ll31, ll32, ll33, ll34, ll35, ll36, ll37, ll38, ll39, ll40, Nat.reduceSub, Nat.reduceAdd, Nat.reduceEqDiff, if_true, if_false, ifp_t, ifp_f, reduceIte, Bool.true_eq_false, Bool.false_eq_true, Option.map_some, Option.map_none, Option.bind_some, Option.bind_none, Q1_beginnings, need_ok l k hk hl, dEq_int]
    rfl
theorem bMax_two (i j : Int) (S : Sto) : bMax [.int i, .int j] S = .ok (.int (max i j)) S := rfl
structure Shw (b k : Nat) (d : D) : Prop where
  ok : rok d = true
  bulk : bulkD d ≤ b
  dep : depD d ≤ k
theorem Shw.mono {b b' k k' : Nat} {d : D} (h : Shw b k d) (hb : b ≤ b') (hk : k ≤ k') : Shw b' k' d := ⟨h.ok, Nat.le_trans h.bulk hb, Nat.le_trans h.dep hk⟩
theorem ni_eq (l : List Nat) : ni l = (l.map fun k : Nat => (k : Int)).map D.int := by unfold ni; rw [List.map_map]; rfl
end DL
namespace DL
open PySem PySem.Spec L2
open PyProof.Rows hiding St
theorem law_std {m N cost : Nat} {L : Ev → Sto → SR} (I : Option D → Ev → Prop) (hm : 2 ≤ m) (hN : (N : Int) < 2 ^ 62) (h0 : ∀ sc, I sc (sc :: some (.loc 1) :: List.replicate (m - 2) none)) (hc : N * cost < 2 ^ 60)
    (step : ∀ sc d ρ S n, I sc ρ → Strm S n [] → n + cost < 2 ^ 60 → ∃ ρ2 S2, L (ρ.set 2 (some d)) S = .nx ρ2 S2 ∧ I sc ρ2 ∧ Strm S2 (n + cost) []) :
    LawOk (fnC close m 1 (sSeq (sSet 1 (eCall F__law_stream (aCons (eVar 0) aNil))) (sSeq (sFor (iRange1 (aCons (eC (.int N)) aNil)) (tN 2) L sNil) (sRet (eC (.bl true)))))) := law_by fun ns hl _ => by
  obtain ⟨S0, h1, s0⟩ := stream_ok hl
  obtain ⟨ρ', S', _, _, hf⟩ := forD_strm (T := tN 2) (B := L) (Z := sNil) (rest := []) (I (some (.kl (ns.map D.int)))) cost (rangeD 0 N) (some (.kl (ns.map D.int)) :: some (.loc 1) :: List.replicate (m - 2) none) S0 0 (h0 _) s0 (by rw [rangeD_len]; omega) (by
    intro d hd ρ S n hI hS hn
    obtain ⟨ρ2, S2, e, i2, s2⟩ := step _ d ρ S n hI hS hn
    exact ⟨_, ρ2, S2, rfl, .inl e, i2, s2⟩)
  refine ⟨S', ?_⟩
  have hst : startD m [D.kl (ns.map D.int)] = some (.kl (ns.map D.int)) :: none :: List.replicate (m - 2) none := by
    obtain ⟨k, rfl⟩ : ∃ k, m = k + 2 := ⟨m - 2, by omega⟩
    simp [startD, List.replicate_succ]
  rw [hst]
  have hr : ((-(2 ^ 62) : Int) ≤ (N : Int) ∧ (N : Int) < 2 ^ 62) = True := by simp; omega
  simp only [eVar, eC, eOp, eT, eAnd, eOr, eNot, eIf, eAndV, eOrV, eNotV, eCall, aNil, aCons, aStar, sOf, eTup, eFl, eLoc, eSl, oNone, oSome, iOf, eNeg, eChain, eMt, bOf, eDict0, eRev, eListRg, iZipD, sRaise1, sRaise0, eCallV, List.lookup, R.bind_ok, R.bind_er, R.bind_stuck, R.toS_ok, R.toS_er, R.toS_stuck, SR.next_nx, SR.next_rt, SR.next_er, SR.next_bk, SR.next_ct, SR.next_stuck, sNil, sSeq, sBrk, sCnt, sExp, sRet, sRetN, sIf, sSet, sAsg, sAug, sPar2, sPar3, tN, DL.tTup, DL.tNil, DL.tCons, DL.tSub, iSeq, srcOf_tup, srcOf_fl, srcOf_kl, srcOf_ti, iRange1, iRange2, sFor, startD, List.map_cons, List.map_nil, List.length_cons, List.length_nil, List.replicate, List.cons_append, List.nil_append, List.getElem?_cons_zero, List.getElem?_cons_succ, List.set_cons_zero, List.set_cons_succ, dSub_int, dFdiv_int, dMod_int, dLt_int, dLe_int, dGt_int, dGe_int, dAddI_int, dSubI_int, dIsN_non, isN, dAdd_int, ll0, ll1, ll2, ll3, ll4, ll5, ll6, ll7, ll8, ll9, ll10, ll11, ll12, ll13, ll14, ll15, ll16, ll17, ll18, ll19, ll20, ll21, ll22, ll23, ll24, ll25, ll26, ll27, ll28, ll29, ll30, ll31, ll32, ll33, ll34, ll35, ll36, ll37, ll38, ll39, ll40, Nat.reduceSub, Nat.reduceAdd, Nat.reduceEqDiff, if_true, if_false, ifp_t, ifp_f, reduceIte, Bool.true_eq_false, Bool.false_eq_true, Option.map_some, Option.map_none, Option.bind_some, Option.bind_none, h1, hr, Int.toNat_natCast, hf]
theorem mem_cast (x : Nat) (bs : List Nat) : ((x : Int) ∈ bs.map fun k : Nat => (k : Int)) ↔ x ∈ bs := by
  rw [List.mem_map]
  constructor
  · rintro ⟨a, h, e⟩
    have : a = x := by omega
    rw [← this]; exact h
  · exact fun h => ⟨x, h, rfl⟩
theorem in_seq_ni (neg : Bool) (x : Nat) (bs : List Nat) {d : D} (S : Sto) (h : seqOf S d = some (ni bs)) : dIn neg (.int x) d S = .ok (.bl (if neg then !decide (x ∈ bs) else decide (x ∈ bs))) S := by
  have h1 : (seqOf S d).bind fVs = some ((bs.map fun k : Nat => (k : Int)).map V.int) := by
    rw [h]
    show fVs (ni bs) = _
    rw [ni_eq, fVs_ints]
  have e : dIn neg (.int x) d S = (match fV (.int x), (seqOf S d).bind fVs with
    | some x, some ys => R.ok (D.bl (if neg then !inV x ys else inV x ys)) S
    | _, _ => .stuck) := by
    cases d <;> rfl
  rw [e, h1]
  simp only [fV, inV_ints, mem_cast]
theorem in_tup_ni (neg : Bool) (x : Nat) (bs : List Nat) (S : Sto) : dIn neg (.int x) (.tup (ni bs)) S = .ok (.bl (if neg then !decide (x ∈ bs) else decide (x ∈ bs))) S := in_seq_ni neg x bs S rfl
theorem mem_begs {l : List Int} {x : Nat} : x ∈ begs l ↔ x < l.length ∧ ne (rot l x) = 0 := by
  unfold begs
  rw [List.mem_filter, List.mem_range]
  simp
end DL
namespace DL
open PySem PySem.Spec L2
open PyProof.Rows hiding St
def rp (e : Int × Int) (n : Int) : Int × Int := if n = 0 then (0, 0) else if 0 ≤ (n - 1) * (e.2 - e.1) then (e.1, e.2 + (n - 1) * (e.2 - e.1)) else (e.1 - (n - 1) * (e.2 - e.1), e.2)
def dp (e : Int × Int) : D := .tup [.int e.1, .int e.2]
def wh (v : D) : Bool := match v with
  | .int i => decide (0 ≤ i)
  | _ => false
end DL
namespace DL
open PySem PySem.Spec L2
open PyProof.Rows hiding St
end DL
namespace DL
open PySem PySem.Spec L2
open PyProof.Rows hiding St
/-- beginnings with their gaps; f is the first of all -/
def un (n f : Nat) : List Nat → List (Nat × Nat)
  | [] => []
  | [b] => [(b, n + f - b)]
  | b :: c :: r => (b, c - b) :: un n f (c :: r)
def unitsOf (l : List Int) : List (Nat × Nat) := match begs l with
  | [] => []
  | f :: r => un l.length f (f :: r)
end DL
namespace DL
open PySem PySem.Spec L2
open PyProof.Rows hiding St
structure Run (e : Int × Int) : Prop where
  a0 : 0 ≤ e.1
  a5 : e.1 ≤ 5
  c1 : 1 ≤ e.2
  cM : e.2 ≤ 10 ^ 13
def toks (fs : List (Int × Int)) : List Int := (fs.map fun e => List.replicate e.2.toNat e.1).flatten
def len (fs : List (Int × Int)) : Int := (fs.map fun e => e.2).sum
theorem mulT_int {i j : Int} (h : -(2 ^ 64) < i ∧ i < 2 ^ 64) (S : Sto) : dMulT (.int i) (.int j) S = .ok (.int (i * j)) S := mul_small h S
theorem sum_fli (l : List Int) (S : Sto) : bSum2 [.fl (l.map D.int)] S = .ok (.int l.sum) S := by
  show (match intsOf (l.map D.int) with
    | some is => R.ok (D.int is.sum) S
    | none => R.stuck) = _
  rw [intsOf_map]
end DL
namespace DL
open PySem PySem.Spec L2
open PyProof.Rows hiding St
theorem isLst_at {S : Sto} {n : Nat} {ds : List D} (h : getL S n = some ds) : isLst S (.loc n) = true := by
  unfold isLst
  rw [show lstOf S (.loc n) = some ds from h]; rfl
def two (S : Sto) (b a : List D) : Sto := S ++ [.lst b, .lst a]
end DL
namespace DL
open PySem PySem.Spec L2
open PyProof.Rows hiding St
theorem fnC_strm {n m : Nat} {B : Ev → Sto → SR} {ds : List D} {S S6 : Sto} {d : D} {n0 k : Nat} {rest l : Sto} (h : Strm S n0 rest) (h6 : Strm S6 k (rest ++ l)) (hl : l ≠ []) (hm : ds.length = m) (hB : B (startD n ds) S = .rt d S6) (hd : low S.length d = true) :
    fnC close n m B ds S = .ok d (S6.take S.length) ∧ Strm (S6.take S.length) k rest := by
  obtain ⟨q1, q2⟩ := h.trunc h6
  refine ⟨?_, q2⟩
  unfold fnC
  rw [if_pos hm, hB]
  show close S d S6 = _
  unfold close
  have : 0 < l.length := List.length_pos_iff.mpr hl
  rw [if_neg (by rw [h6.len, h.len, List.length_append]; omega), if_pos ⟨q1, hd⟩]
theorem extend_at {S : Sto} {n : Nat} {ds es : List D} (h : getL S n = some ds) (hl : ds.length + es.length ≤ 10 ^ 6) : mExtend (.loc n) [.fl es] S = .ok .non (S.set n (.lst (ds ++ es))) := by
  show (match getL S n, lstOf S (.fl es) with
    | some xs, some ys => ifp (xs.length + ys.length ≤ sizeLine) (R.ok D.non (S.set n (.lst (xs ++ ys)))) .stuck
    | _, _ => .stuck) = _
  rw [h]
  exact ifp_pos (Nat.le_trans hl (by decide))
theorem fdiv_int {i j : Int} (h : 0 < j) (h2 : j < 2 ^ 60) (S : Sto) : dFdiv (.int i) (.int j) S = .ok (.int (i / j)) S := ifp_pos ⟨h, log2_small 60 (by omega) (by decide) (by decide)⟩
end DL
namespace DL
open PySem PySem.Spec L2
open PyProof.Rows hiding St
noncomputable def L1_count_ready (ρ : Ev) (S : Sto) : SR :=
  (sSeq (sAug 2 dAddI (eOp dMulT (eOp dSub (eC (.int 1)) (eVar 4)) (eVar 5)))
    (sSet 3 (eCall bMinT (aCons (eVar 3) (aCons (eVar 2) aNil))))) ρ S
noncomputable def B_count_ready : Ev → Sto → SR :=
  (sSeq (sSet2 2 3 (eOp dIx (eOp dIx (eVar 0) (eVar 1)) (eC (.int 1))))
    (sSeq (sFor (iSeq (eOp dAdd (eSl mkFl (eVar 0) (oSome (eOp dAdd (eVar 1) (eC (.int 1)))) oNone) (eSl mkFl (eVar 0) oNone (oSome (eVar 1))))) (tTup 2 (tCons (tN 4) (tCons (tN 5) tNil))) L1_count_ready sNil)
    (sRet (eCall bMax (aCons (eC (.int 0)) (aCons (eVar 3) aNil))))))
noncomputable def F_count_ready : Fn := fnC close 6 2 B_count_ready
def lo : Int → Int → List (Int × Int) → Int
  | _, m, [] => m
  | h, m, e :: r => lo (h + (1 - e.1) * e.2) (min m (h + (1 - e.1) * e.2)) r
def addR (f : List (Int × Int)) (s m : Int) : List (Int × Int) := if 0 < m then (match f.getLast? with
    | some q => if q.2 = s - 1 then f.dropLast ++ [(q.1, s + m - 1)] else f ++ [(s, s + m - 1)]
    | none => [(s, s + m - 1)]) else f
def rg (ps : List Nat) : List (Int × Int) := ps.foldl (fun f (p : Nat) => addR f (p : Int) 1) []
theorem ready_loop (x0 x1 : Option D) (S : Sto) : ∀ (r : List (Int × Int)) (h m : Int) (x4 x5 : Option D), (∀ e ∈ r, Run e) → ∃ y2 y4 y5, forD yes (tTup 2 (tCons (tN 4) (tCons (tN 5) tNil))) L1_count_ready sNil (r.map dp) [x0, x1, some (.int h), some (.int m), x4, x5] S = .nx [x0, x1, y2, some (.int (lo h m r)), y4, y5] S
  | [], h, m, x4, x5, _ => ⟨some (.int h), x4, x5, by rw [List.map_nil, forD_nil trivial]; rfl⟩
  | e :: r, h, m, x4, x5, hr => by
    have he := hr e List.mem_cons_self
    have a0 := he.a0
    have a5 := he.a5
    obtain ⟨y2, y4, y5, ih⟩ := ready_loop x0 x1 S r (h + (1 - e.1) * e.2) (min m (h + (1 - e.1) * e.2)) (some (.int e.1)) (some (.int e.2)) fun x hx => hr x (List.mem_cons_of_mem _ hx)
    refine ⟨y2, y4, y5, ?_⟩
    have mm := mulT_int (i := 1 - e.1) (j := e.2) (by omega)
    have mn : ∀ a b S, bMinT [.int a, .int b] S = .ok (.int (min a b)) S := fun a b S => rfl
    rw [List.map_cons, forD_cons (ρ1 := [x0, x1, some (.int h), some (.int m), some (.int e.1), some (.int e.2)]) (S1 := S) (ρ2 := [x0, x1, some (.int (h + (1 - e.1) * e.2)), some (.int (min m (h + (1 - e.1) * e.2))), some (.int e.1), some (.int e.2)]) (S2 := S) trivial rfl (by simp only [eVar, eC, eOp, eT, eAnd, eOr, eNot, eIf, eAndV, eOrV, eNotV, eCall, aNil, aCons, aStar, sOf, eTup, eFl, eLoc, eSl, oNone, oSome, iOf, eNeg, eChain, eMt, bOf, eDict0, eRev, eListRg, iZipD, sRaise1, sRaise0, eCallV, List.lookup, R.bind_ok, R.bind_er, R.bind_stuck, R.toS_ok, R.toS_er, R.toS_stuck, SR.next_nx, SR.next_rt, SR.next_er, SR.next_bk, SR.next_ct, SR.next_stuck, sNil, sSeq, sBrk, sCnt, sExp, sRet, sRetN, sIf, sSet, sAsg, sAug, sPar2, sPar3, tN, DL.tTup, DL.tNil, DL.tCons, DL.tSub, iSeq, srcOf_tup, srcOf_fl, srcOf_kl, srcOf_ti, iRange1, iRange2, sFor, startD, List.map_cons, List.map_nil, List.length_cons, List.length_nil, List.replicate, List.cons_append, List.nil_append, List.getElem?_cons_zero, List.getElem?_cons_succ, List.set_cons_zero, List.set_cons_succ, dSub_int, dFdiv_int, dMod_int, dLt_int, dLe_int, dGt_int, dGe_int, dAddI_int, dSubI_int, dIsN_non, isN, dAdd_int, ll0, ll1, ll2, ll3, ll4, ll5, ll6, ll7, ll8, ll9, ll10, ll11, ll12, ll13, ll14, ll15, ll16, ll17, ll18, ll19, ll20, ll21, ll22, ll23, ll24, ll25, ll26, ll27, ll28, ll29, ll30, ll31, ll32, ll33, ll34, ll35, ll36, ll37, ll38, ll39, ll40, Nat.reduceSub, Nat.reduceAdd, Nat.reduceEqDiff, if_true, if_false, ifp_t, ifp_f, reduceIte, Bool.true_eq_false, Bool.false_eq_true, Option.map_some, Option.map_none, Option.bind_some, Option.bind_none, tSq, sSet2, seqOf_fl, seqOf_tup, seqOf_ti, L1_count_ready, mm, mn]), ih, lo]
theorem sl_dpf (fs : List (Int × Int)) (p : Nat) (mk : List D → Sto → R D) (S : Sto) : dSl mk (.tup (fs.map dp)) (some (p : Int)) none S = .ok (.tup ((fs.drop p).map dp)) S := by
  show R.ok (D.tup (cut (fs.map dp) (some (p : Int)) none)) S = _
  rw [cut_from, List.map_drop]
theorem sl_dpt (fs : List (Int × Int)) (p : Nat) (mk : List D → Sto → R D) (S : Sto) : dSl mk (.tup (fs.map dp)) none (some (p : Int)) S = .ok (.tup ((fs.take p).map dp)) S := by
  show R.ok (D.tup (cut (fs.map dp) none (some (p : Int)))) S = _
  rw [cut_to, List.map_take]
theorem add_tup (a b : List D) (h : a.length + b.length ≤ 10 ^ 6) (S : Sto) : dAdd (.tup a) (.tup b) S = .ok (.tup (a ++ b)) S := by
  show ifp (a.length + b.length ≤ sizeLine) (R.ok (D.tup (a ++ b)) S) .stuck = _
  exact ifp_pos (Nat.le_trans h (by decide))
theorem count_ready_ok (fs : List (Int × Int)) (hl : fs.length ≤ 100) (hr : ∀ e ∈ fs, Run e) (i : Nat) {e : Int × Int} (he : fs[i]? = some e) (S : Sto) : F_count_ready [.tup (fs.map dp), .int i] S = .ok (.int (max 0 (lo e.2 e.2 (fs.drop (i + 1) ++ fs.take i)))) S := by
  have hi : i < fs.length := (List.getElem?_eq_some_iff.mp he).1
  have hst : startD 6 [D.tup (fs.map dp), D.int i] = [some (.tup (fs.map dp)), some (.int i), none, none, none, none] := rfl
  have ix : ∀ S, dIx (.tup (fs.map dp)) (.int i) S = .ok (dp e) S := fun S => dIx_tup (by
    rw [atI_nn (by omega) (by simp; omega), Int.toNat_natCast, List.getElem?_map, he]; rfl)
  have i1 : ∀ e S, dIx (dp e) (.int 1) S = .ok (.int e.2) S := fun e S => rfl
  have s1 := sl_dpf fs (i + 1) mkFl
  rw [Int.natCast_add, Int.natCast_one] at s1
  have s2 := sl_dpt fs i mkFl
  have ad : ∀ S, dAdd (.tup ((fs.drop (i + 1)).map dp)) (.tup ((fs.take i).map dp)) S = .ok (.tup ((fs.drop (i + 1) ++ fs.take i).map dp)) S := fun S => by
    rw [List.map_append]
    exact add_tup _ _ (by simp; omega) S
  obtain ⟨y2, y4, y5, lp⟩ := ready_loop (some (.tup (fs.map dp))) (some (.int i)) S (fs.drop (i + 1) ++ fs.take i) e.2 e.2 none none (by
    intro x hx
    rcases List.mem_append.mp hx with hx | hx
    · exact hr x (List.mem_of_mem_drop hx)
    · exact hr x (List.mem_of_mem_take hx))
  have mx : ∀ a S, bMax [.int 0, .int a] S = .ok (.int (max 0 a)) S := fun a S => rfl
  refine fnC_rt rfl ?_ rfl
  rw [hst]
  unfold B_count_ready
  simp only [eVar, eC, eOp, eT, eAnd, eOr, eNot, eIf, eAndV, eOrV, eNotV, eCall, aNil, aCons, aStar, sOf, eTup, eFl, eLoc, eSl, oNone, oSome, iOf, eNeg, eChain, eMt, bOf, eDict0, eRev, eListRg, iZipD, sRaise1, sRaise0, eCallV, List.lookup, R.bind_ok, R.bind_er, R.bind_stuck, R.toS_ok, R.toS_er, R.toS_stuck, SR.next_nx, SR.next_rt, SR.next_er, SR.next_bk, SR.next_ct, SR.next_stuck, sNil, sSeq, sBrk, sCnt, sExp, sRet, sRetN, sIf, sSet, sAsg, sAug, sPar2, sPar3, tN, DL.tTup, DL.tNil, DL.tCons, DL.tSub, iSeq, srcOf_tup, srcOf_fl, srcOf_kl, srcOf_ti, iRange1, iRange2, sFor, startD, List.map_cons, List.map_nil, List.length_cons, List.length_nil, List.replicate, List.cons_append, List.nil_append, List.getElem?_cons_zero, List.getElem?_cons_succ, List.set_cons_zero, List.set_cons_succ, dSub_int, dFdiv_int, dMod_int, dLt_int, dLe_int, dGt_int, dGe_int, dAddI_int, dSubI_int, dIsN_non, isN, dAdd_int, ll0, ll1, ll2, ll3, ll4, ll5, ll6, ll7, ll8, ll9, ll10, ll11, ll12, ll13, ll14, ll15, ll16, ll17, ll18, ll19, ll20, ll21, ll22, ll23, ll24, ll25, ll26, ll27, ll28, ll29, ll30, ll31, ll32, ll33, ll34, ll35, ll36, ll37, ll38, ll39, ll40, Nat.reduceSub, Nat.reduceAdd, Nat.reduceEqDiff, if_true, if_false, ifp_t, ifp_f, reduceIte, Bool.true_eq_false, Bool.false_eq_true, Option.map_some, Option.map_none, Option.bind_some, Option.bind_none, tSq, sSet2, seqOf_fl, seqOf_tup, seqOf_ti, ix, i1, s1, s2, ad, lp, mx]
end DL
namespace DL
open PySem PySem.Spec L2
open PyProof.Rows hiding St
def spr (e : Int × Int) : List Int := (List.range (e.2 - e.1 + 1).toNat).map fun (k : Nat) => e.1 + (k : Int)
theorem mem_spr {e : Int × Int} {x : Int} : x ∈ spr e ↔ e.1 ≤ x ∧ x ≤ e.2 := by
  unfold spr
  rw [List.mem_map]
  constructor
  · rintro ⟨k, hk, rfl⟩
    have := List.mem_range.mp hk
    omega
  · rintro ⟨h1, h2⟩
    exact ⟨(x - e.1).toNat, List.mem_range.mpr (by omega), by omega⟩
theorem spr_len (e : Int × Int) : (spr e).length = (e.2 - e.1 + 1).toNat := by unfold spr; simp
structure Rgs (f : List (Int × Int)) (ps : List Int) : Prop where
  sp : f.flatMap spr = ps
  le : ∀ e ∈ f, e.1 ≤ e.2
  gap : f.Pairwise fun a b => a.2 + 2 ≤ b.1
theorem Rgs.mem {f : List (Int × Int)} {ps : List Int} (h : Rgs f ps) {x : Int} : x ∈ ps ↔ ∃ e ∈ f, e.1 ≤ x ∧ x ≤ e.2 := by
  rw [← h.sp, List.mem_flatMap]
  simp only [mem_spr]
theorem Rgs.len {f : List (Int × Int)} {ps : List Int} (h : Rgs f ps) : (f.map fun e => e.2 - e.1 + 1).sum = (ps.length : Int) := by
  obtain ⟨sp, le, gap⟩ := h
  subst sp
  clear gap
  induction f with
  | nil => rfl
  | cons e f ih =>
    have he := le e List.mem_cons_self
    have := ih fun x hx => le x (List.mem_cons_of_mem _ hx)
    rw [List.map_cons, List.sum_cons, List.flatMap_cons, List.length_append, spr_len, Int.natCast_add, this]
    omega
end DL
namespace DL
open PySem PySem.Spec L2
open PyProof.Rows hiding St
/-- how many tokens are read until the height is not positive -/
def fstT : Int → List Int → Option Nat
  | _, [] => none
  | h, t :: r => if h + (1 - t) ≤ 0 then some 1 else (fstT (h + (1 - t)) r).map (· + 1)
/-- the taker of a place of a ring -/
def tkr (l : List Int) (p : Nat) : Option Nat := (fstT 0 (rot l ((p + 1) % l.length))).map fun s => (p + s) % l.length
def optN : Option Nat → D
  | none => .non
  | some i => .int i
end DL
namespace DL
open PySem PySem.Spec L2
open PyProof.Rows hiding St
def stk (f : List D) (a : Int) : List D := f.take (f.length - a.toNat) ++ [.tup (f.drop (f.length - a.toNat))]
end DL
namespace DL
open PySem PySem.Spec L2
open PyProof.Rows hiding St
def okS (x : Str) : Prop := ∀ c ∈ x.cps.toList, c < 16 ^ 8
end DL
namespace DL
open PySem PySem.Spec L2
open PyProof.Rows hiding St
/-- what a stack keeps and gives when t are taken -/
def kept (st : List Nat) (t : Nat) : List Nat := st.take (st.length - t)
end DL
namespace DL
open PySem PySem.Spec L2
open PyProof.Rows hiding St
def on (os : List (Option Nat)) : List D := os.map optN
theorem dSet_at {S : Sto} {n : Nat} {ds : List D} {v : D} {k : Nat} (h : getL S n = some ds) (hk : k < ds.length) : dSet (.loc n) (.int (k : Int)) v S = some (S.set n (.lst (ds.set k v))) := by
  show (getL S n).bind (fun ds => (ixN ds.length (k : Int)).map fun j => S.set n (.lst (ds.set j v))) = _
  rw [h, Option.bind_some]
  have : ixN ds.length (k : Int) = some k := by
    unfold ixN
    simp
    omega
  rw [this]
  rfl
end DL
namespace DL
open PySem PySem.Spec L2
open PyProof.Rows hiding St
def ttB : Ev → Bool
  | [] => true
  | none :: r => ttB r
  | some d :: r => tt d && ttB r
theorem ttE_of : ∀ {ρ : Ev}, ttB ρ = true → ttE ρ
  | [], _, i, d, e => by simp at e
  | none :: r, h, 0, d, e => by simp at e
  | none :: r, h, i + 1, d, e => ttE_of (ρ := r) h i d (by simpa using e)
  | some x :: r, h, 0, d, e => by
    simp only [ttB, Bool.and_eq_true] at h
    simp at e; subst e; exact h.1
  | some x :: r, h, i + 1, d, e => by
    simp only [ttB, Bool.and_eq_true] at h
    exact ttE_of (ρ := r) h.2 i d (by simpa using e)
theorem ttL_ints (l : List Int) : ttL (l.map D.int) = true := by
  induction l with
  | nil => rfl
  | cons a l ih => rw [List.map_cons, ttL, ih, tt]; rfl
theorem ix_at {r : List Int} {i : Nat} {x : Int} (h : r[i]? = some x) (S : Sto) : dIx (ti r) (.int (i : Int)) S = .ok (.int x) S := by
  have hl : i < r.length := (List.getElem?_eq_some_iff.mp h).1
  refine dIx_tup ?_
  rw [atI_nn (by omega) (by rw [List.length_map]; omega), Int.toNat_natCast, List.getElem?_map, h]
  rfl
end DL
namespace DL
open PySem PySem.Spec L2
open PyProof.Rows hiding St
/-- the tokens whose values are never taken -/
def frees (l : List Int) : List Nat := (List.range l.length).filter fun p => (tkr l p).isNone
end DL
namespace DL
open PySem PySem.Spec L2
open PyProof.Rows hiding St
theorem enumD_ints : ∀ (k : Nat) (l : List Int), enumD k (l.map D.int) = (l.zipIdx k).map fun q => .tup [.int (q.2 : Int), .int q.1]
  | _, [] => rfl
  | k, o :: os => by
    rw [List.map_cons, enumD, enumD_ints (k + 1) os]; rfl
end DL
namespace DL
open PySem PySem.Spec L2
open PyProof.Rows hiding St
end DL
namespace DL
open PySem PySem.Spec L2
open PyProof.Rows hiding St
def ar (l : List Int) (m : Nat) : Nat := ((l[m % l.length]?).getD 0).toNat
end DL
namespace DL
open PySem PySem.Spec L2
open PyProof.Rows hiding St
end DL
namespace DL
open PySem PySem.Spec L2
open PyProof.Rows hiding St
def tx (p : PyData) : List Nat := p.shown.cps.toList
end DL
namespace DL
open PySem PySem.Spec L2
open PyProof.Rows hiding St
def po : Str := "("
theorem sz : 10 ^ 6 ≤ sizeLine := by decide
theorem sl_str {w : Str} (h : w.length ≤ 10 ^ 6) (lo hi : Option Int) (S : Sto) : dSl mkFl (.str w) lo hi S = .ok (.str (cutS w lo hi)) S := ifp_pos (Nat.le_trans h (by decide))
/-- letters alone -/
def ltS (w : Str) : Prop := ∀ c ∈ w.cps.toList, 97 ≤ c ∧ c ≤ 122
theorem ltS.ok {w : Str} (h : ltS w) : okS w := fun c hc => Nat.lt_of_le_of_lt (h c hc).2 (by decide)
structure Gt (n : Nat) (w : Str) : Prop where
  lt : ltS w
  len : w.length ≤ n
theorem Gt.ok {n : Nat} {w : Str} (h : Gt n w) : okS w := h.lt.ok
def em : Str := ""
end DL
namespace DL
open PySem PySem.Spec L2
open PyProof.Rows hiding St
inductive Tre where
  | nd (cs : List Tre)
mutual
def Tre.d : Tre → D
  | .nd cs => .tup (Tre.ds cs)
def Tre.ds : List Tre → List D
  | [] => []
  | t :: ts => t.d :: Tre.ds ts
end
mutual
def Tre.sz : Tre → Nat
  | .nd cs => 1 + Tre.szs cs
def Tre.szs : List Tre → Nat
  | [] => 0
  | t :: ts => t.sz + Tre.szs ts
end
mutual
def Tre.row : Tre → List Int
  | .nd cs => Tre.rows cs ++ [(cs.length : Int)]
def Tre.rows : List Tre → List Int
  | [] => []
  | t :: ts => t.row ++ Tre.rows ts
end
mutual
def Tre.ok : Tre → Prop
  | .nd cs => cs.length ≤ 5 ∧ Tre.oks cs
def Tre.oks : List Tre → Prop
  | [] => True
  | t :: ts => t.ok ∧ Tre.oks ts
end
mutual
theorem Tre.bulk : ∀ t : Tre, bulkD t.d + 1 = t.sz
  | .nd cs => by rw [Tre.d, Tre.sz, bulkD, Tre.bulks cs]; omega
theorem Tre.bulks : ∀ ts : List Tre, bulkL (Tre.ds ts) = Tre.szs ts
  | [] => by rw [Tre.ds, Tre.szs, bulkL]
  | t :: ts => by rw [Tre.ds, Tre.szs, bulkL, Tre.bulk t, Tre.bulks ts]
end
mutual
theorem Tre.dep : ∀ t : Tre, depD t.d ≤ t.sz
  | .nd cs => by
    rw [Tre.d, Tre.sz, depD]
    have := Tre.deps cs
    omega
theorem Tre.deps : ∀ ts : List Tre, depL (Tre.ds ts) ≤ Tre.szs ts
  | [] => by rw [Tre.ds, depL]; omega
  | t :: ts => by
    rw [Tre.ds, Tre.szs, depL]
    have := Tre.dep t
    have := Tre.deps ts
    omega
end
mutual
theorem Tre.low : ∀ (n : Nat) (t : Tre), DL.low n t.d = true
  | n, .nd cs => by rw [Tre.d, DL.low, Tre.lows n cs]
theorem Tre.lows : ∀ (n : Nat) (ts : List Tre), lowL n (Tre.ds ts) = true
  | n, [] => by rw [Tre.ds]; rfl
  | n, t :: ts => by rw [Tre.ds, lowL, Tre.low n t, Tre.lows n ts]; rfl
end
end DL
namespace DL
open PySem PySem.Spec L2
open PyProof.Rows hiding St
def L (l : List Nat) : Str := ⟨l.toArray⟩
def lt (c : Nat) : Bool := decide (97 ≤ c) && decide (c ≤ 122)
structure RS where
  r : List Nat
  row : List Int
  nm : List (List Nat)
  op : List (List Nat × Int)
def clo : List Nat → List Int → List (List Nat) → List (List Nat × Int) → RS
  | [], row, nm, op => ⟨[], row, nm, op⟩
  | c :: r, row, nm, op => if c = 41 then (match op.getLast? with
    | some q => clo r (row ++ [q.2]) (nm ++ [q.1]) op.dropLast
    | none => ⟨c :: r, row, nm, op⟩) else ⟨c :: r, row, nm, op⟩
def nxt (s : RS) : Bool × RS := match s.op.getLast? with
  | none => (false, s)
  | some q => if s.r.take 2 = [44, 32] then (true, ⟨s.r.drop 2, s.row, s.nm, s.op.dropLast ++ [(q.1, q.2 + 1)]⟩) else (false, s)
def aftT (s : RS) : Bool × RS := if (clo s.r s.row s.nm s.op).r = [] then (true, clo s.r s.row s.nm s.op) else nxt (clo s.r s.row s.nm s.op)
def rnm (s : RS) : Bool × RS :=
  if 1 ≤ (s.r.takeWhile lt).length ∧ (s.r.takeWhile lt).length ≤ 8 then
    (if (s.r.dropWhile lt).take 1 = [40] then (true, ⟨(s.r.dropWhile lt).drop 1, s.row, s.nm, s.op ++ [(s.r.takeWhile lt, 1)]⟩)
    else aftT ⟨s.r.dropWhile lt, s.row ++ [0], s.nm ++ [s.r.takeWhile lt], s.op⟩)
  else (false, ⟨s.r.dropWhile lt, s.row, s.nm, s.op⟩)
def fin1 (s : RS) : Bool := s.op.isEmpty && (decide (s.row.length ≤ 24) && decide (maxL s.row ≤ 5))
/-- the whole reading, by fuel -/
def trun : Nat → RS → Bool × RS
  | 0, s => (false, s)
  | f + 1, s => match rnm s with
    | (false, s') => (false, s')
    | (true, s') => if s'.r = [] then (fin1 s', s') else trun f s'
def Sm (M : Nat) (s : RS) : Prop := s.row.length + s.r.length ≤ M ∧ s.nm.length + s.r.length ≤ M ∧ s.op.length + s.r.length ≤ M
theorem last_split {α : Type} {l : List α} {q : α} (h : l.getLast? = some q) : l = l.dropLast ++ [q] := by
  have hne : l ≠ [] := by
    intro e
    rw [e] at h
    cases h
  have := List.dropLast_concat_getLast hne
  rw [List.getLast?_eq_some_getLast hne] at h
  cases h
  exact this.symm
theorem clo_less : ∀ (r : List Nat) (row : List Int) (nm : List (List Nat)) (op : List (List Nat × Int)), (clo r row nm op).row.length + (clo r row nm op).r.length ≤ row.length + r.length ∧ (clo r row nm op).nm.length + (clo r row nm op).r.length ≤ nm.length + r.length ∧ (clo r row nm op).op.length + (clo r row nm op).r.length ≤ op.length + r.length ∧ (clo r row nm op).r.length ≤ r.length ∧ row.length ≤ (clo r row nm op).row.length
  | [], row, nm, op => by rw [clo]; exact ⟨Nat.le_refl _, Nat.le_refl _, Nat.le_refl _, Nat.le_refl _, Nat.le_refl _⟩
  | c :: r, row, nm, op => by
    rw [clo]
    split
    · split
      · rename_i q hq
        have e := congrArg List.length (last_split hq)
        rw [List.length_append, List.length_singleton] at e
        obtain ⟨h1, h2, h3, h4, h5⟩ := clo_less r (row ++ [q.2]) (nm ++ [q.1]) op.dropLast
        rw [List.length_append, List.length_singleton] at h1 h2 h5
        rw [List.length_cons]
        omega
      · exact ⟨Nat.le_refl _, Nat.le_refl _, Nat.le_refl _, Nat.le_refl _, Nat.le_refl _⟩
    · exact ⟨Nat.le_refl _, Nat.le_refl _, Nat.le_refl _, Nat.le_refl _, Nat.le_refl _⟩
theorem nxt_less (s : RS) : (nxt s).2.row = s.row ∧ (nxt s).2.nm = s.nm ∧ (nxt s).2.op.length = s.op.length ∧ (nxt s).2.r.length ≤ s.r.length := by
  unfold nxt
  split
  · exact ⟨rfl, rfl, rfl, Nat.le_refl _⟩
  · rename_i q hq
    have e := congrArg List.length (last_split hq)
    rw [List.length_append, List.length_singleton] at e
    split
    · refine ⟨rfl, rfl, ?_, ?_⟩
      · show (s.op.dropLast ++ [(q.1, q.2 + 1)]).length = _
        rw [List.length_append, List.length_singleton]; omega
      · show (s.r.drop 2).length ≤ _
        rw [List.length_drop]; omega
    · exact ⟨rfl, rfl, rfl, Nat.le_refl _⟩
theorem aftT_less (s : RS) : (aftT s).2.row.length + (aftT s).2.r.length ≤ s.row.length + s.r.length ∧ (aftT s).2.nm.length + (aftT s).2.r.length ≤ s.nm.length + s.r.length ∧ (aftT s).2.op.length + (aftT s).2.r.length ≤ s.op.length + s.r.length ∧ (aftT s).2.r.length ≤ s.r.length ∧ s.row.length ≤ (aftT s).2.row.length := by
  obtain ⟨c1, c2, c3, c4, c5⟩ := clo_less s.r s.row s.nm s.op
  unfold aftT
  split
  · exact ⟨c1, c2, c3, c4, c5⟩
  · obtain ⟨n1, n2, n3, n4⟩ := nxt_less (clo s.r s.row s.nm s.op)
    rw [n1, n2, n3]
    omega
theorem span_len (l : List Nat) : (l.takeWhile lt).length + (l.dropWhile lt).length = l.length := by
  rw [← List.length_append, List.takeWhile_append_dropWhile]
theorem rnm_less (s : RS) : (rnm s).2.row.length + (rnm s).2.r.length ≤ s.row.length + s.r.length ∧ (rnm s).2.nm.length + (rnm s).2.r.length ≤ s.nm.length + s.r.length ∧ (rnm s).2.op.length + (rnm s).2.r.length ≤ s.op.length + s.r.length ∧ ((rnm s).1 = true → (rnm s).2.r.length < s.r.length) := by
  have sp := span_len s.r
  unfold rnm
  split
  · rename_i hn
    split
    · refine ⟨?_, ?_, ?_, fun _ => ?_⟩ <;> simp only [List.length_append, List.length_singleton, List.length_drop] <;> omega
    · obtain ⟨a1, a2, a3, a4, a5⟩ := aftT_less ⟨s.r.dropWhile lt, s.row ++ [0], s.nm ++ [s.r.takeWhile lt], s.op⟩
      simp only [List.length_append, List.length_singleton] at a1 a2 a3 a4
      refine ⟨?_, ?_, ?_, fun _ => ?_⟩ <;> omega
  · refine ⟨?_, ?_, ?_, fun h => by cases h⟩ <;> simp only <;> omega
theorem trun_fuel : ∀ (f g : Nat) (s : RS), s.r.length < f → s.r.length < g → trun f s = trun g s
  | 0, g, s, h, _ => by omega
  | f + 1, 0, s, _, h => by omega
  | f + 1, g + 1, s, hf, hg => by
    rw [trun, trun]
    have hl := (rnm_less s).2.2.2
    cases e : rnm s with
    | mk b s' =>
      rw [e] at hl
      cases b with
      | false => rfl
      | true =>
        simp only
        split
        · rfl
        · have := hl rfl
          exact trun_fuel f g s' (by simp only at this; omega) (by simp only at this; omega)
end DL
namespace DL
open PySem PySem.Spec L2
open PyProof.Rows hiding St
def jnT : List (List Nat) → List Nat
  | [] => []
  | [x] => x
  | x :: y :: r => x ++ [44, 32] ++ jnT (y :: r)
mutual
/-- the text of a tree whose nodes have names (the names of the row's tokens, in its order) -/
def Tre.tx : Tre → List (List Nat) → List Nat
  | .nd cs, ns => (ns.drop (Tre.szs cs)).headD [] ++ (if cs.isEmpty then [] else 40 :: jnT (Tre.txs cs ns) ++ [41])
def Tre.txs : List Tre → List (List Nat) → List (List Nat)
  | [], _ => []
  | t :: ts, ns => t.tx ns :: Tre.txs ts (ns.drop t.sz)
end
def RUN (s : RS) : Bool × RS := trun (s.r.length + 1) s
def FIN (s : RS) : Bool × RS := match aftT s with
  | (false, s') => (false, s')
  | (true, s') => if s'.r = [] then (fin1 s', s') else RUN s'
/-- a name -/
def nmL (l : List Nat) : Prop := (∀ c ∈ l, lt c = true) ∧ 1 ≤ l.length ∧ l.length ≤ 8
/-- what may follow a term -/
def folL (k : List Nat) : Prop := k = [] ∨ ∃ r, k = 41 :: r ∨ k = 44 :: r
theorem span_name {n k : List Nat} (hn : nmL n) (hk : k = [] ∨ ∃ c r, k = c :: r ∧ lt c = false) : (n ++ k).takeWhile lt = n ∧ (n ++ k).dropWhile lt = k := by
  rw [List.takeWhile_append_of_pos hn.1, List.dropWhile_append_of_pos hn.1]
  rcases hk with rfl | ⟨c, r, rfl, hc⟩
  · simp
  · rw [List.takeWhile_cons_of_neg (by rw [hc]; decide), List.dropWhile_cons_of_neg (by rw [hc]; decide)]
    simp
theorem run_rnm {s s' : RS} (h : rnm s = (true, s')) : RUN s = if s'.r = [] then (fin1 s', s') else RUN s' := by
  unfold RUN
  have hl := (rnm_less s).2.2.2
  rw [h] at hl
  rw [trun, h]
  simp only
  split
  · rfl
  · exact trun_fuel _ _ s' (hl rfl) (Nat.lt_succ_self _)
theorem run_leaf {n k : List Nat} (hn : nmL n) (hk : folL k) (row : List Int) (nm : List (List Nat)) (op : List (List Nat × Int)) : RUN ⟨n ++ k, row, nm, op⟩ = FIN ⟨k, row ++ [0], nm ++ [n], op⟩ := by
  obtain ⟨e1, e2⟩ := span_name (n := n) (k := k) hn (by
    rcases hk with rfl | ⟨r, rfl | rfl⟩
    · exact .inl rfl
    · exact .inr ⟨41, r, rfl, by decide⟩
    · exact .inr ⟨44, r, rfl, by decide⟩)
  have h40 : k.take 1 ≠ [40] := by
    rcases hk with rfl | ⟨r, rfl | rfl⟩ <;> simp
  have hr : rnm ⟨n ++ k, row, nm, op⟩ = aftT ⟨k, row ++ [0], nm ++ [n], op⟩ := by
    unfold rnm
    simp only [e1, e2]
    rw [if_pos ⟨hn.2.1, hn.2.2⟩, if_neg h40]
  unfold FIN
  cases ha : aftT ⟨k, row ++ [0], nm ++ [n], op⟩ with
  | mk b s' =>
    rw [ha] at hr
    cases b with
    | true => exact run_rnm hr
    | false =>
      show trun _ _ = _
      rw [trun, hr]
theorem run_node {n X : List Nat} (hn : nmL n) (hX : X ≠ []) (row : List Int) (nm : List (List Nat)) (op : List (List Nat × Int)) : RUN ⟨n ++ 40 :: X, row, nm, op⟩ = RUN ⟨X, row, nm, op ++ [(n, 1)]⟩ := by
  obtain ⟨e1, e2⟩ := span_name (n := n) (k := 40 :: X) hn (.inr ⟨40, X, rfl, by decide⟩)
  have hr : rnm ⟨n ++ 40 :: X, row, nm, op⟩ = (true, ⟨X, row, nm, op ++ [(n, 1)]⟩) := by
    unfold rnm
    simp only [e1, e2]
    rw [if_pos ⟨hn.2.1, hn.2.2⟩, if_pos (show List.take 1 (40 :: X) = [40] from rfl)]
    rfl
  rw [run_rnm hr]
  exact if_neg hX
theorem fin_close (k : List Nat) (row : List Int) (nm : List (List Nat)) (op : List (List Nat × Int)) (n : List Nat) (a : Int) : FIN ⟨41 :: k, row, nm, op ++ [(n, a)]⟩ = FIN ⟨k, row ++ [a], nm ++ [n], op⟩ := by
  unfold FIN aftT
  simp only
  have : clo (41 :: k) row nm (op ++ [(n, a)]) = clo k (row ++ [a]) (nm ++ [n]) op := by
    rw [clo, if_pos rfl, List.getLast?_append]
    simp
  rw [this]
theorem fin_next {X : List Nat} (hX : X ≠ []) (row : List Int) (nm : List (List Nat)) (op : List (List Nat × Int)) (n : List Nat) (a : Int) : FIN ⟨44 :: 32 :: X, row, nm, op ++ [(n, a)]⟩ = RUN ⟨X, row, nm, op ++ [(n, a + 1)]⟩ := by
  unfold FIN aftT
  simp only
  have e : clo (44 :: 32 :: X) row nm (op ++ [(n, a)]) = ⟨44 :: 32 :: X, row, nm, op ++ [(n, a)]⟩ := by
    rw [clo, if_neg (by decide)]
  rw [e]
  have en : nxt ⟨44 :: 32 :: X, row, nm, op ++ [(n, a)]⟩ = (true, ⟨X, row, nm, op ++ [(n, a + 1)]⟩) := by
    unfold nxt
    simp
  simp only [reduceCtorEq, if_false, en]
  exact if_neg hX
theorem jnT_ne : ∀ {l : List (List Nat)}, l ≠ [] → (∀ x ∈ l, x ≠ []) → jnT l ≠ []
  | [], h, _ => absurd rfl h
  | [x], _, h => h x (by simp)
  | x :: y :: r, _, h => by
    rw [jnT]
    simp
theorem Tre.tx_ne (t : Tre) (ns : List (List Nat)) (hs : t.sz ≤ ns.length) (hn : ∀ n ∈ ns, nmL n) : t.tx ns ≠ [] := by
  cases t with
  | nd cs =>
    rw [Tre.sz] at hs
    rw [Tre.tx]
    have hm : (ns.drop (Tre.szs cs)).headD [] ∈ ns := by
      rw [List.headD_eq_head?_getD, List.head?_drop, List.getElem?_eq_getElem (by omega)]
      exact List.getElem_mem _
    have := (hn _ hm).2.1
    intro e
    have e2 := congrArg List.length e
    rw [List.length_append] at e2
    simp only [List.length_nil] at e2
    omega
theorem Tre.txs_ne : ∀ (ts : List Tre) (ns : List (List Nat)), Tre.szs ts ≤ ns.length → (∀ n ∈ ns, nmL n) → ∀ x ∈ Tre.txs ts ns, x ≠ []
  | [], ns, _, _, x, hx => by simp [Tre.txs] at hx
  | t :: ts, ns, hs, hn, x, hx => by
    rw [Tre.szs] at hs
    rw [Tre.txs] at hx
    rcases List.mem_cons.mp hx with rfl | hx
    · exact t.tx_ne ns (by omega) hn
    · exact Tre.txs_ne ts (ns.drop t.sz) (by rw [List.length_drop]; omega) (fun n h => hn n (List.mem_of_mem_drop h)) x hx
mutual
theorem Tre.read : ∀ (t : Tre) (ns : List (List Nat)) (k : List Nat) (row : List Int) (nm : List (List Nat)) (op : List (List Nat × Int)), t.sz ≤ ns.length → (∀ n ∈ ns, nmL n) → folL k →
    RUN ⟨t.tx ns ++ k, row, nm, op⟩ = FIN ⟨k, row ++ t.row, nm ++ ns.take t.sz, op⟩
  | .nd cs, ns, k, row, nm, op, hs, hn, hk => by
    rw [Tre.sz] at hs
    rw [Tre.tx, Tre.row, Tre.sz]
    have e1 : ns.take (1 + Tre.szs cs) = ns.take (Tre.szs cs) ++ [(ns.drop (Tre.szs cs)).headD []] := by
      rw [Nat.add_comm, List.take_succ_eq_append_getElem (by omega)]
      congr 2
      rw [List.headD_eq_head?_getD, List.head?_drop, List.getElem?_eq_getElem (by omega)]
      rfl
    have hm : (ns.drop (Tre.szs cs)).headD [] ∈ ns := by
      rw [List.headD_eq_head?_getD, List.head?_drop, List.getElem?_eq_getElem (by omega)]
      exact List.getElem_mem _
    rw [e1]
    generalize (ns.drop (Tre.szs cs)).headD [] = N at *
    cases hc : cs with
    | nil =>
      rw [show ([] : List Tre).isEmpty = true from rfl, if_pos rfl, List.append_nil, run_leaf (hn N hm) hk]
      simp [Tre.rows, Tre.szs]
    | cons c r =>
      rw [← hc]
      have he : cs.isEmpty = false := by rw [hc]; rfl
      have hx : Tre.txs cs ns ≠ [] := by rw [hc, Tre.txs]; simp
      have hj := jnT_ne hx (Tre.txs_ne cs ns (by omega) hn)
      rw [he, if_neg (by decide)]
      have ea : N ++ (40 :: jnT (Tre.txs cs ns) ++ [41]) ++ k = N ++ 40 :: (jnT (Tre.txs cs ns) ++ 41 :: k) := by simp
      rw [ea, run_node (hn N hm) (by intro z; exact hj (List.append_eq_nil_iff.mp z).1)]
      rw [Tre.reads cs ns k row nm op N 1 (by rw [hc]; simp) (by omega) hn hk]
      have : (1 : Int) + (cs.length : Int) - 1 = (cs.length : Int) := by omega
      rw [this]
      simp [List.append_assoc]
theorem Tre.reads : ∀ (ts : List Tre) (ns : List (List Nat)) (k : List Nat) (row : List Int) (nm : List (List Nat)) (op : List (List Nat × Int)) (n : List Nat) (a : Int), ts ≠ [] → Tre.szs ts ≤ ns.length → (∀ n ∈ ns, nmL n) → folL k →
    RUN ⟨jnT (Tre.txs ts ns) ++ 41 :: k, row, nm, op ++ [(n, a)]⟩ = FIN ⟨k, row ++ Tre.rows ts ++ [a + (ts.length : Int) - 1], nm ++ ns.take (Tre.szs ts) ++ [n], op⟩
  | [], ns, k, row, nm, op, n, a, h, _, _, _ => absurd rfl h
  | [t], ns, k, row, nm, op, n, a, _, hs, hn, hk => by
    rw [Tre.szs, Tre.szs] at hs
    rw [Tre.txs, Tre.txs, jnT, Tre.read t ns (41 :: k) row nm (op ++ [(n, a)]) (by omega) hn (.inr ⟨k, .inl rfl⟩), fin_close]
    simp only [Tre.rows, Tre.szs, List.append_nil, Nat.add_zero, List.length_singleton]
    have : a + ((1 : Nat) : Int) - 1 = a := by omega
    rw [this]
  | t :: t2 :: r, ns, k, row, nm, op, n, a, _, hs, hn, hk => by
    rw [Tre.szs] at hs
    have hs2 : Tre.szs (t2 :: r) ≤ (ns.drop t.sz).length := by rw [List.length_drop]; omega
    have hn2 : ∀ n ∈ ns.drop t.sz, nmL n := fun n h => hn n (List.mem_of_mem_drop h)
    have hx : Tre.txs (t2 :: r) (ns.drop t.sz) ≠ [] := by rw [Tre.txs]; simp
    have hj := jnT_ne hx (Tre.txs_ne _ _ hs2 hn2)
    have ej : jnT (Tre.txs (t :: t2 :: r) ns) ++ 41 :: k = t.tx ns ++ 44 :: 32 :: (jnT (Tre.txs (t2 :: r) (ns.drop t.sz)) ++ 41 :: k) := by
      rw [Tre.txs, Tre.txs, jnT]
      simp
    rw [ej, Tre.read t ns _ row nm (op ++ [(n, a)]) (by omega) hn (.inr ⟨_, .inr rfl⟩), fin_next (by intro z; exact hj (List.append_eq_nil_iff.mp z).1)]
    rw [Tre.reads (t2 :: r) (ns.drop t.sz) k (row ++ t.row) (nm ++ ns.take t.sz) op n (a + 1) (by simp) hs2 hn2 hk]
    have e3 : ns.take (t.sz + Tre.szs (t2 :: r)) = ns.take t.sz ++ (ns.drop t.sz).take (Tre.szs (t2 :: r)) := by rw [List.take_add]
    have e4 : a + 1 + ((t2 :: r).length : Int) - 1 = a + ((t :: t2 :: r).length : Int) - 1 := by simp only [List.length_cons]; omega
    rw [e4, show Tre.rows (t :: t2 :: r) = t.row ++ Tre.rows (t2 :: r) by rw [Tre.rows], show Tre.szs (t :: t2 :: r) = t.sz + Tre.szs (t2 :: r) by rw [Tre.szs], e3]
    simp only [List.append_assoc]
end
end DL
namespace DL
open PySem PySem.Spec L2
open PyProof.Rows hiding St
end DL
namespace DL
open PySem PySem.Spec L2
open PyProof.Rows hiding St
end DL
namespace DL
open PySem PySem.Spec L2
open PyProof.Rows hiding St
def T (s : RS) : Bool × RS := trun (s.r.length + 1) s
end DL
namespace DL
open PySem PySem.Spec L2
open PyProof.Rows hiding St
end DL
namespace DL
open PySem PySem.Spec L2
open PyProof.Rows hiding St
def rlF (now st dn ch bz : D) : List (Str × D) := [("now", now), ("states", st), ("done", dn), ("chosen", ch), ("is_busy", bz)]
def rlO (now st dn ch bz : D) : Ob := .ins "Reel" (rlF now st dn ch bz)
end DL
namespace DL
open PySem PySem.Spec L2
open PyProof.Rows hiding St
end DL
namespace DL
open PySem PySem.Spec L2
open PyProof.Rows hiding St
structure Rg (l : List Int) : Prop where
  pos : 0 < l.length
  len : l.length ≤ 24
  ar : ∀ t ∈ l, Arity t
def putT (l : List Int) (p : Nat) (a : Int) : List Int := l.take p ++ [a] ++ l.drop (p + 1)
def insT (l : List Int) (p : Nat) (a : Int) : List Int := l.take p ++ [a] ++ l.drop p
def delT (l : List Int) (p : Nat) : List Int := l.take p ++ l.drop (p + 1)
theorem Rg.putT {l : List Int} (h : Rg l) {p : Nat} {a : Int} (hp : p < l.length) (ha : Arity a) : Rg (putT l p a) := by
  have hlen : (DL.putT l p a).length = l.length := by unfold DL.putT; simp; omega
  refine ⟨by rw [hlen]; exact h.pos, by rw [hlen]; exact h.len, fun t ht => ?_⟩
  unfold DL.putT at ht
  rcases List.mem_append.mp ht with ht | ht
  · rcases List.mem_append.mp ht with ht | ht
    · exact h.ar t (List.mem_of_mem_take ht)
    · rw [List.mem_singleton.mp ht]; exact ha
  · exact h.ar t (List.mem_of_mem_drop ht)
theorem Rg.insT {l : List Int} (h : Rg l) {p : Nat} {a : Int} (hp : p ≤ l.length) (hl : ¬ l.length = 24) (ha : Arity a) : Rg (insT l p a) := by
  have hlen : (DL.insT l p a).length = l.length + 1 := by unfold DL.insT; simp; omega
  have := h.len
  refine ⟨by rw [hlen]; omega, by rw [hlen]; omega, fun t ht => ?_⟩
  unfold DL.insT at ht
  rcases List.mem_append.mp ht with ht | ht
  · rcases List.mem_append.mp ht with ht | ht
    · exact h.ar t (List.mem_of_mem_take ht)
    · rw [List.mem_singleton.mp ht]; exact ha
  · exact h.ar t (List.mem_of_mem_drop ht)
theorem Rg.delT {l : List Int} (h : Rg l) {p : Nat} (hp : p < l.length) (hl : ¬ l.length = 1) : Rg (delT l p) := by
  have hlen : (DL.delT l p).length = l.length - 1 := by unfold DL.delT; simp; omega
  have := h.len
  have := h.pos
  refine ⟨by rw [hlen]; omega, by rw [hlen]; omega, fun t ht => ?_⟩
  unfold DL.delT at ht
  rcases List.mem_append.mp ht with ht | ht
  · exact h.ar t (List.mem_of_mem_take ht)
  · exact h.ar t (List.mem_of_mem_drop ht)
def noArity (v : D) : Ex := ⟨.own "NoArity", [("value", v)]⟩
def tooLong : Ex := ⟨.own "TooLong", [("limit", .int 24)]⟩
def lastTok : Ex := ⟨.own "LastToken", []⟩
/-- an edit as it is asked for -/
inductive Ed where
  | put (v a : D)
  | ins (v a : D)
  | rem (v : D)
def Ed.d : Ed → D
  | .put v a => .tup [.str "put", v, a]
  | .ins v a => .tup [.str "insert", v, a]
  | .rem v => .tup [.str "remove", v]
def Ed.on (l : List Int) : Ed → Except Ex (List Int)
  | .put v a => match plc l.length v with
    | none => .error (noPlace v)
    | some p => match plc 6 a with
      | none => .error (noArity a)
      | some t => .ok (putT l p t)
  | .ins v a => match plc (l.length + 1) v with
    | none => .error (noPlace v)
    | some p => match plc 6 a with
      | none => .error (noArity a)
      | some t => if l.length = 24 then .error tooLong else .ok (insT l p t)
  | .rem v => match plc l.length v with
    | none => .error (noPlace v)
    | some p => if l.length = 1 then .error lastTok else .ok (delT l p)
theorem ar6 {t : Nat} (h : t < 6) : Arity (t : Int) := by unfold Arity; omega
theorem Ed.rg {l r : List Int} (h : Rg l) : ∀ {e : Ed}, e.on l = .ok r → Rg r := by
  intro e
  cases e with
  | put v a =>
    intro he
    unfold Ed.on at he
    cases e1 : plc l.length v with
    | none => simp only [e1] at he; cases he
    | some p =>
      cases e2 : plc 6 a with
      | none => simp only [e1, e2] at he; cases he
      | some t =>
        simp only [e1, e2] at he
        cases he
        exact h.putT (plc_some e1).2 (ar6 (plc_some e2).2)
  | ins v a =>
    intro he
    unfold Ed.on at he
    cases e1 : plc (l.length + 1) v with
    | none => simp only [e1] at he; cases he
    | some p =>
      cases e2 : plc 6 a with
      | none => simp only [e1, e2] at he; cases he
      | some t =>
        simp only [e1, e2] at he
        split at he
        · cases he
        · rename_i hc
          cases he
          exact h.insT (by have := (plc_some e1).2; omega) hc (ar6 (plc_some e2).2)
  | rem v =>
    intro he
    unfold Ed.on at he
    cases e1 : plc l.length v with
    | none => simp only [e1] at he; cases he
    | some p =>
      simp only [e1] at he
      split at he
      · cases he
      · rename_i hc
        cases he
        exact h.delT (plc_some e1).2 hc
end DL
namespace DL
open PySem PySem.Spec L2
open PyProof.Rows hiding St
end DL
namespace DL
open PySem PySem.Spec L2
open PyProof.Rows hiding St
theorem i1 (a b c : D) (S : Sto) : dIx (.tup [a, b, c]) (.int 1) S = .ok b S := rfl
theorem i2 (a b c : D) (S : Sto) : dIx (.tup [a, b, c]) (.int 2) S = .ok c S := rfl
theorem j0 (a b : D) (S : Sto) : dIx (.tup [a, b]) (.int 0) S = .ok a S := rfl
/-- reel, rings and edits go side by side -/
structure RI (S : Sto) (r g d : Nat) (l : List Int) (sts dn : List D) (ch : D) : Prop where
  reel : S[r]? = some (rlO (ti l) (.tup (sts ++ [ti l])) (.tup dn) ch (.bl false))
  rings : S[g]? = some (.lst (sts ++ [ti l]))
  done : S[d]? = some (.lst dn)
  rg : Rg l
  all : ∀ x ∈ sts, ∃ k, Rg k ∧ x = ti k
  len : sts.length = dn.length
  most : dn.length ≤ 60
  shw : ∀ x ∈ dn, Shw 21 1 x
  ng : g ≠ r ∧ d ≠ r ∧ d ≠ g
  low : 2 ≤ r ∧ 2 ≤ g ∧ 2 ≤ d
theorem Strm.get {S : Sto} {n : Nat} {rest : Sto} (h : Strm S n rest) {i : Nat} (hi : 2 ≤ i) : S[i]? = rest[i - 2]? := by
  obtain ⟨big, cells, t, rfl, _⟩ := h
  obtain ⟨k, rfl⟩ : ∃ k, i = k + 2 := ⟨i - 2, by omega⟩
  rfl
theorem Strm.set {S : Sto} {n : Nat} {rest : Sto} (h : Strm S n rest) {i : Nat} (hi : 2 ≤ i) (o : Ob) : Strm (S.set i o) n (rest.set (i - 2) o) := by
  obtain ⟨big, cells, t, rfl, hk⟩ := h
  obtain ⟨k, rfl⟩ : ∃ k, i = k + 2 := ⟨i - 2, by omega⟩
  exact ⟨big, cells, t, rfl, hk⟩
theorem RI.move {S S' : Sto} {n m r g d : Nat} {rest : Sto} {l : List Int} {sts dn : List D} {ch : D} (h : RI S r g d l sts dn ch) (s : Strm S n rest) (s' : Strm S' m rest) : RI S' r g d l sts dn ch := by
  obtain ⟨l1, l2, l3⟩ := h.low
  have e : ∀ i, 2 ≤ i → S'[i]? = S[i]? := fun i hi => by rw [s'.get hi, s.get hi]
  exact ⟨by rw [e r l1]; exact h.reel, by rw [e g l2]; exact h.rings, by rw [e d l3]; exact h.done, h.rg, h.all, h.len, h.most, h.shw, h.ng, h.low⟩
theorem get_app {S : Sto} {i : Nat} {o : Ob} (h : S[i]? = some o) (t : Sto) : (S ++ t)[i]? = some o := by
  obtain ⟨hn, _⟩ := List.getElem?_eq_some_iff.mp h
  rw [List.getElem?_append_left hn]; exact h
theorem RI.app {S : Sto} {r g d : Nat} {l : List Int} {sts dn : List D} {ch : D} (h : RI S r g d l sts dn ch) (t : Sto) : RI (S ++ t) r g d l sts dn ch :=
  ⟨get_app h.reel t, get_app h.rings t, get_app h.done t, h.rg, h.all, h.len, h.most, h.shw, h.ng, h.low⟩
theorem q2 (a b : D) (S : Sto) : dIx (.fl [a, b]) (.int 0) S = .ok a S := rfl
theorem q3 (a b : D) (S : Sto) : dIx (.fl [a, b]) (.int 1) S = .ok b S := rfl
end DL
namespace DL
open PySem PySem.Spec L2
open PyProof.Rows hiding St
mutual
theorem low_rok : ∀ {d : D}, rok d = true → ∀ n, low n d = true
  | .int _, _, _ => rfl
  | .bl _, _, _ => rfl
  | .non, _, _ => rfl
  | .str _, _, _ => rfl
  | .tup ds, h, n => by
    rw [low]; exact lowL_rok (by rw [rok] at h; exact h) n
  | .fl ds, h, n => by
    rw [low]; exact lowL_rok (by rw [rok] at h; exact h) n
  | .kl ds, h, n => by simp [rok] at h
  | .ktp ds, h, n => by simp [rok] at h
  | .ztp ds, h, n => by simp [rok] at h
  | .loc _, h, _ => by simp [rok] at h
  | .ty _, h, _ => by simp [rok] at h
  | .fn _, h, _ => by simp [rok] at h
  | .exc _ _, h, _ => by simp [rok] at h
  | .fd kvs, h, n => by
    rw [low]; exact lowK_rok (by rw [rok] at h; exact h) n
theorem lowL_rok : ∀ {ds : List D}, rokL ds = true → ∀ n, lowL n ds = true
  | [], _, _ => rfl
  | d :: ds, h, n => by
    rw [rokL, Bool.and_eq_true] at h
    rw [lowL, low_rok h.1 n, lowL_rok h.2 n]; rfl
theorem lowK_rok : ∀ {ds : List (Key × D)}, rokK ds = true → ∀ n, lowK n ds = true
  | [], _, _ => rfl
  | (k, d) :: ds, h, n => by
    have h' : rok d = true ∧ rokK ds = true := by
      cases k <;> (simp only [rokK, Bool.and_eq_true] at h; exact ⟨h.1.2, h.2⟩)
    rw [lowK, low_rok h'.1 n, lowK_rok h'.2 n]; rfl
end
theorem lowL_all {n : Nat} : ∀ {ds : List D}, (∀ d ∈ ds, low n d = true) → lowL n ds = true
  | [], _ => rfl
  | d :: ds, h => by
    rw [lowL, h d List.mem_cons_self, lowL_all fun x hx => h x (List.mem_cons_of_mem _ hx)]; rfl
theorem low_ti (l : List Int) (n : Nat) : low n (ti l) = true := by
  unfold ti
  rw [low]
  exact lowL_all fun d hd => by
    obtain ⟨i, _, rfl⟩ := List.mem_map.mp hd
    rfl
theorem RI.trunc {S S' : Sto} {n m : Nat} {rest rest' : Sto} {r g d : Nat} {l : List Int} {sts dn : List D} {ch : D} (s : Strm S n rest) (s' : Strm S' m rest') (h : RI S' r g d l sts dn ch) (hc : rok ch = true) (hb : r < S.length ∧ g < S.length ∧ d < S.length) (hlen : S.length ≤ S'.length)
    (far : ∀ i, 2 ≤ i → i < S.length → i ≠ r → i ≠ g → i ≠ d → S'[i]? = S[i]?) : Trunc S S' ∧ RI (S'.take S.length) r g d l sts dn ch ∧ ∃ rest2, Strm (S'.take S.length) m rest2 := by
  have lsts : lowL S.length (sts ++ [ti l]) = true := lowL_all fun x hx => by
    rcases List.mem_append.mp hx with hx | hx
    · obtain ⟨k, _, rfl⟩ := h.all x hx
      exact low_ti k _
    · rw [List.mem_singleton.mp hx]; exact low_ti l _
  have ldn : lowL S.length dn = true := lowL_all fun x hx => low_rok (h.shw x hx).ok _
  have tk : ∀ i, i < S.length → (S'.take S.length)[i]? = S'[i]? := fun i hi => List.getElem?_take_of_lt hi
  have two : 2 ≤ S.length := by have := s.len; omega
  refine ⟨⟨hlen, fun k o hk e => ?_⟩, ⟨by rw [tk r hb.1]; exact h.reel, by rw [tk g hb.2.1]; exact h.rings, by rw [tk d hb.2.2]; exact h.done, h.rg, h.all, h.len, h.most, h.shw, h.ng, h.low⟩, ?_⟩
  · by_cases k2 : 2 ≤ k
    · by_cases kr : k = r
      · subst kr
        rw [h.reel] at e
        cases e
        right
        have e1 : DL.low S.length (.tup (sts ++ [ti l])) = true := by rw [DL.low]; exact lsts
        have e2 : DL.low S.length (.tup dn) = true := by rw [DL.low]; exact ldn
        have e3 : DL.low S.length (.bl false) = true := rfl
        simp only [rlO, rlF, lowO, lowF, low_ti, e1, e2, e3, low_rok hc, Bool.and_true]
      · by_cases kg : k = g
        · subst kg
          rw [h.rings] at e
          cases e
          right
          exact lsts
        · by_cases kd : k = d
          · subst kd
            rw [h.done] at e
            cases e
            right
            exact ldn
          · left
            rw [← far k k2 hk kr kg kd]
            exact e
    · right
      obtain ⟨b', c', t', rfl, o'⟩ := s'
      match k, k2, e with
      | 0, _, e => cases e; simp [lowO, lowL_ints]
      | 1, _, e =>
        cases e
        have z : 0 < S.length := by omega
        simp [lowO, lowL, DL.low, lowL_ints]
        exact z
      | k + 2, k2, _ => omega
  · obtain ⟨b', c', t', rfl, o'⟩ := s'
    obtain ⟨N, hN⟩ : ∃ N, S.length = N + 2 := ⟨S.length - 2, by omega⟩
    rw [hN]
    exact ⟨rest'.take N, b', c', t', rfl, o'⟩
/-- a young list comes back frozen -/
theorem fnC_list {n m : Nat} {B : Ev → Sto → SR} {ds xs : List D} {S : Sto} {l : Sto} {k : Nat} (hm : ds.length = m) (h : B (startD n ds) S = .rt (.loc k) (S ++ l)) (hk : S.length ≤ k) (hl0 : l ≠ []) (hx : getL (S ++ l) k = some xs) (hl : lowL S.length xs = true) : fnC close n m B ds S = .ok (.fl xs) S := by
  unfold fnC
  rw [if_pos hm, h]
  show close S (.loc k) (S ++ l) = _
  have hpos : 0 < l.length := List.length_pos_iff.mpr hl0
  have nl : ¬ (Trunc S (S ++ l) ∧ low S.length (.loc k) = true) := fun z => by
    have := z.2
    simp [low] at this
    omega
  unfold close
  rw [if_neg (by rw [List.length_append]; omega), if_neg nl]
  simp only [hx]
  rw [if_pos ⟨Trunc.same _ _, hl⟩, List.take_left]
end DL
namespace DL
open PySem PySem.Spec L2
open PyProof.Rows hiding St
end DL
namespace DL
open PySem PySem.Spec L2
open PyProof.Rows hiding St
noncomputable def L1_next_arities : GM :=
  (gIf (eAnd (eT (eOp dGt (eVar 3) (eC (.int 0)))) (eT (eOp dLe (eVar 2) (eVar 0)))) (gYield (eVar 2)) gNil)
noncomputable def B_next_arities : GM :=
  (gForJ (jEnum (aCons (eVar 1) aNil)) (tTup 2 (tCons (tN 2) (tCons (tN 3) tNil))) L1_next_arities)
def intsD : List D → Option (List Int)
  | [] => some []
  | .int i :: ds => (intsD ds).map fun l => i :: l
  | _ => none
theorem intsD_some : ∀ {ds : List D} {l : List Int}, intsD ds = some l → ds = l.map D.int
  | [], l, h => by cases h; rfl
  | d :: ds, l, h => by
    cases d with
    | int i =>
      unfold intsD at h
      cases e : intsD ds with
      | none => rw [e] at h; cases h
      | some r =>
        rw [e] at h; cases h
        rw [intsD_some e]; rfl
    | _ => cases h
theorem intsD_map : ∀ l : List Int, intsD (l.map D.int) = some l
  | [] => rfl
  | i :: l => by rw [List.map_cons, intsD, intsD_map l]; rfl
def nxA (h : Int) : Nat → List Int → List Nat
  | _, [] => []
  | a, c :: cs => (if 0 < c ∧ (a : Int) ≤ h then [a] else []) ++ nxA h (a + 1) cs
def G_next_arities : List D → Option (List D) := fun ds => match ds with
  | [.int h, .tup cs] => (intsD cs).map fun l => (nxA h 0 l).map fun a => .int ((a : Nat) : Int)
  | _ => none
theorem next_loop (h : Int) (l0 : List Int) : ∀ (l : List Int) (a : Nat) (x2 x3 : Option D), ∃ ρ', gLoop (tTup 2 (tCons (tN 2) (tCons (tN 3) tNil))) L1_next_arities (enumD a (l.map D.int)) [some (.int h), some (.tup (l0.map D.int)), x2, x3] ((nxA h a l).map fun a => .int ((a : Nat) : Int)) ρ'
  | [], a, x2, x3 => ⟨_, rfl, rfl⟩
  | c :: l, a, x2, x3 => by
    obtain ⟨ρ', hl⟩ := next_loop h l0 l (a + 1) (some (.int ((a : Nat) : Int))) (some (.int c))
    have hx : ttE [some (.int h), some (.tup (l0.map D.int)), some (.int ((a : Nat) : Int)), some (.int c)] := ttE_of (by simp [ttB, tt, ttL_ints])
    by_cases hc : 0 < c ∧ (a : Int) ≤ h
    · refine ⟨ρ', [some (.int h), some (.tup (l0.map D.int)), some (.int ((a : Nat) : Int)), some (.int c)], [.int ((a : Nat) : Int)], _, (nxA h (a + 1) l).map fun a => .int ((a : Nat) : Int), rfl, hx, ⟨true, ?_, rfl, _, rfl, rfl, rfl⟩, hl, ?_⟩
      · have g1 : ∀ S, dGt (.int c) (.int 0) S = .ok (.bl true) S := fun S => by
          rw [dGt_int, decide_eq_true (show c > 0 from hc.1)]
        have g2 : ∀ S, dLe (.int ((a : Nat) : Int)) (.int h) S = .ok (.bl true) S := fun S => by
          rw [dLe_int, decide_eq_true hc.2]
        simp only [eVar, eC, eOp, eT, eAnd, eOr, eNot, eIf, eAndV, eOrV, eNotV, eCall, aNil, aCons, aStar, sOf, eTup, eFl, eLoc, eSl, oNone, oSome, iOf, eNeg, eChain, eMt, bOf, eDict0, eRev, eListRg, iZipD, sRaise1, sRaise0, eCallV, List.lookup, R.bind_ok, R.bind_er, R.bind_stuck, R.toS_ok, R.toS_er, R.toS_stuck, SR.next_nx, SR.next_rt, SR.next_er, SR.next_bk, SR.next_ct, SR.next_stuck, sNil, sSeq, sBrk, sCnt, sExp, sRet, sRetN, sIf, sSet, sAsg, sAug, sPar2, sPar3, tN, DL.tTup, DL.tNil, DL.tCons, DL.tSub, iSeq, srcOf_tup, srcOf_fl, srcOf_kl, srcOf_ti, iRange1, iRange2, sFor, startD, List.map_cons, List.map_nil, List.length_cons, List.length_nil, List.replicate, List.cons_append, List.nil_append, List.getElem?_cons_zero, List.getElem?_cons_succ, List.set_cons_zero, List.set_cons_succ, dSub_int, dFdiv_int, dMod_int, dLt_int, dLe_int, dGt_int, dGe_int, dAddI_int, dSubI_int, dIsN_non, isN, dAdd_int, ll0, ll1, ll2, ll3, ll4, ll5, ll6, ll7, ll8, ll9, ll10, ll11, ll12, ll13, ll14, ll15, ll16, ll17, ll18, ll19, ll20, ll21, ll22, ll23, ll24, ll25, ll26, ll27, ll28, ll29, ll30, ll31, ll32, ll33, ll34, ll35, ll36, ll37, ll38, ll39, ll40, Nat.reduceSub, Nat.reduceAdd, Nat.reduceEqDiff, if_true, if_false, ifp_t, ifp_f, reduceIte, Bool.true_eq_false, Bool.false_eq_true, Option.map_some, Option.map_none, Option.bind_some, Option.bind_none, g1, g2]
      · rw [nxA, if_pos hc, List.map_append]; rfl
    · refine ⟨ρ', [some (.int h), some (.tup (l0.map D.int)), some (.int ((a : Nat) : Int)), some (.int c)], [], _, (nxA h (a + 1) l).map fun a => .int ((a : Nat) : Int), rfl, hx, ⟨false, ?_, rfl, rfl⟩, hl, ?_⟩
      · by_cases h1 : 0 < c
        · have g1 : ∀ S, dGt (.int c) (.int 0) S = .ok (.bl true) S := fun S => by
            rw [dGt_int, decide_eq_true (show c > 0 from h1)]
          have g2 : ∀ S, dLe (.int ((a : Nat) : Int)) (.int h) S = .ok (.bl false) S := fun S => by
            rw [dLe_int, decide_eq_false (fun h2 => hc ⟨h1, h2⟩)]
          simp only [eVar, eC, eOp, eT, eAnd, eOr, eNot, eIf, eAndV, eOrV, eNotV, eCall, aNil, aCons, aStar, sOf, eTup, eFl, eLoc, eSl, oNone, oSome, iOf, eNeg, eChain, eMt, bOf, eDict0, eRev, eListRg, iZipD, sRaise1, sRaise0, eCallV, List.lookup, R.bind_ok, R.bind_er, R.bind_stuck, R.toS_ok, R.toS_er, R.toS_stuck, SR.next_nx, SR.next_rt, SR.next_er, SR.next_bk, SR.next_ct, SR.next_stuck, sNil, sSeq, sBrk, sCnt, sExp, sRet, sRetN, sIf, sSet, sAsg, sAug, sPar2, sPar3, tN, DL.tTup, DL.tNil, DL.tCons, DL.tSub, iSeq, srcOf_tup, srcOf_fl, srcOf_kl, srcOf_ti, iRange1, iRange2, sFor, startD, List.map_cons, List.map_nil, List.length_cons, List.length_nil, List.replicate, List.cons_append, List.nil_append, List.getElem?_cons_zero, List.getElem?_cons_succ, List.set_cons_zero, List.set_cons_succ, dSub_int, dFdiv_int, dMod_int, dLt_int, dLe_int, dGt_int, dGe_int, dAddI_int, dSubI_int, dIsN_non, isN, dAdd_int, ll0, ll1, ll2, ll3, ll4, ll5, ll6, ll7, ll8, ll9, ll10, ll11, ll12, ll13, ll14, ll15, ll16, ll17, ll18, ll19, ll20, ll21, ll22, ll23, ll24, ll25, ll26, ll27, ll28, ll29, ll30, ll31, ll32, ll33, ll34, ll35, ll36, ll37, ll38, ll39, ll40, Nat.reduceSub, Nat.reduceAdd, Nat.reduceEqDiff, if_true, if_false, ifp_t, ifp_f, reduceIte, Bool.true_eq_false, Bool.false_eq_true, Option.map_some, Option.map_none, Option.bind_some, Option.bind_none, g1, g2]
        · have g1 : ∀ S, dGt (.int c) (.int 0) S = .ok (.bl false) S := fun S => by
            rw [dGt_int, decide_eq_false (fun h2 : c > 0 => h1 h2)]
          simp only [eVar, eC, eOp, eT, eAnd, eOr, eNot, eIf, eAndV, eOrV, eNotV, eCall, aNil, aCons, aStar, sOf, eTup, eFl, eLoc, eSl, oNone, oSome, iOf, eNeg, eChain, eMt, bOf, eDict0, eRev, eListRg, iZipD, sRaise1, sRaise0, eCallV, List.lookup, R.bind_ok, R.bind_er, R.bind_stuck, R.toS_ok, R.toS_er, R.toS_stuck, SR.next_nx, SR.next_rt, SR.next_er, SR.next_bk, SR.next_ct, SR.next_stuck, sNil, sSeq, sBrk, sCnt, sExp, sRet, sRetN, sIf, sSet, sAsg, sAug, sPar2, sPar3, tN, DL.tTup, DL.tNil, DL.tCons, DL.tSub, iSeq, srcOf_tup, srcOf_fl, srcOf_kl, srcOf_ti, iRange1, iRange2, sFor, startD, List.map_cons, List.map_nil, List.length_cons, List.length_nil, List.replicate, List.cons_append, List.nil_append, List.getElem?_cons_zero, List.getElem?_cons_succ, List.set_cons_zero, List.set_cons_succ, dSub_int, dFdiv_int, dMod_int, dLt_int, dLe_int, dGt_int, dGe_int, dAddI_int, dSubI_int, dIsN_non, isN, dAdd_int, ll0, ll1, ll2, ll3, ll4, ll5, ll6, ll7, ll8, ll9, ll10, ll11, ll12, ll13, ll14, ll15, ll16, ll17, ll18, ll19, ll20, ll21, ll22, ll23, ll24, ll25, ll26, ll27, ll28, ll29, ll30, ll31, ll32, ll33, ll34, ll35, ll36, ll37, ll38, ll39, ll40, Nat.reduceSub, Nat.reduceAdd, Nat.reduceEqDiff, if_true, if_false, ifp_t, ifp_f, reduceIte, Bool.true_eq_false, Bool.false_eq_true, Option.map_some, Option.map_none, Option.bind_some, Option.bind_none, g1]
      · rw [nxA, if_neg hc, List.nil_append]; rfl
theorem gb_next_arities : ∀ ds xs, G_next_arities ds = some xs → ds.length = 2 ∧ ∃ ρ', B_next_arities (startD 4 ds) xs ρ' := by
  intro ds xs h
  unfold G_next_arities at h
  split at h
  · rename_i hh cs
    cases e : intsD cs with
    | none => rw [e] at h; cases h
    | some l =>
      rw [e] at h; cases h
      have := intsD_some e
      subst this
      obtain ⟨ρ', hl⟩ := next_loop hh l l 0 none none
      exact ⟨rfl, ρ', enumD 0 (l.map D.int), ⟨l.map D.int, rfl, ttL_ints l, rfl⟩, hl⟩
  · cases h
theorem next_ok (h : Int) (l : List Int) : G_next_arities [.int h, .tup (l.map D.int)] = some ((nxA h 0 l).map fun a => .int ((a : Nat) : Int)) := by
  show (intsD (l.map D.int)).map _ = _
  rw [intsD_map]
  rfl
end DL
namespace DL
open PySem PySem.Spec L2
open PyProof.Rows hiding St
/-- one token of arity a less -/
def decr (c : List Int) (a : Nat) : List Int := c.take a ++ (c.getD a 0 - 1) :: c.drop (a + 1)
/-- the rows in which all tokens can be read from a height on, in ascending order -/
def cmpl : Nat → Int → List Int → List (List Int)
  | 0, _, _ => [[]]
  | n + 1, h, c => (nxA h 0 c).flatMap fun a => (cmpl n (h + 1 - (a : Nat)) (decr c a)).map fun r => ((a : Nat) : Int) :: r
def wys (n : Nat) (h : Int) (c : List Int) : Nat := (cmpl n h c).length
def balC : Nat → List Int → Int
  | _, [] => 0
  | k, x :: cs => x * (1 - (k : Nat)) + balC (k + 1) cs
theorem nx_mem {h : Int} : ∀ {c : List Int} {k a : Nat}, a ∈ nxA h k c → k ≤ a ∧ a < k + c.length ∧ 0 < c.getD (a - k) 0 ∧ (a : Int) ≤ h
  | [], k, a, hm => by cases hm
  | x :: cs, k, a, hm => by
    rw [nxA] at hm
    rcases List.mem_append.mp hm with hm | hm
    · split at hm
      · rename_i hc
        rw [List.mem_singleton.mp hm]
        refine ⟨Nat.le_refl _, by simp, by simpa using hc.1, hc.2⟩
      · cases hm
    · obtain ⟨h1, h2, h3, h4⟩ := nx_mem hm
      refine ⟨by omega, by rw [List.length_cons]; omega, ?_, h4⟩
      have e : a - k = (a - (k + 1)) + 1 := by omega
      rw [e, List.getD_cons_succ]
      exact h3
theorem decr_cons_zero (x : Int) (cs : List Int) : decr (x :: cs) 0 = (x - 1) :: cs := by simp [decr]
theorem decr_cons_succ (x : Int) (cs : List Int) (a : Nat) : decr (x :: cs) (a + 1) = x :: decr cs a := by simp [decr]
theorem decr_len : ∀ {c : List Int} {a : Nat}, a < c.length → (decr c a).length = c.length
  | x :: cs, 0, _ => by rw [decr_cons_zero]; rfl
  | x :: cs, a + 1, h => by
    rw [decr_cons_succ, List.length_cons, List.length_cons, decr_len (by simpa using h)]
theorem decr_sum : ∀ {c : List Int} {a : Nat}, a < c.length → (decr c a).sum = c.sum - 1
  | x :: cs, 0, _ => by rw [decr_cons_zero, List.sum_cons, List.sum_cons]; omega
  | x :: cs, a + 1, h => by
    rw [decr_cons_succ, List.sum_cons, List.sum_cons, decr_sum (by simpa using h)]; omega
theorem decr_nn : ∀ {c : List Int} {a : Nat}, (∀ x ∈ c, 0 ≤ x) → 0 < c.getD a 0 → ∀ x ∈ decr c a, 0 ≤ x
  | [], a, _, h => by simp at h
  | x :: cs, 0, hc, h => by
    rw [decr_cons_zero]
    intro y hy
    rcases List.mem_cons.mp hy with rfl | hy
    · have : 0 < x := by simpa using h
      omega
    · exact hc y (List.mem_cons_of_mem _ hy)
  | x :: cs, a + 1, hc, h => by
    rw [decr_cons_succ]
    intro y hy
    rcases List.mem_cons.mp hy with rfl | hy
    · exact hc _ List.mem_cons_self
    · exact decr_nn (fun z hz => hc z (List.mem_cons_of_mem _ hz)) (by simpa using h) y hy
def keyC (c : List Int) : List Key := c.map Sum.inl
theorem keyC_inj {a b : List Int} (h : keyC a = keyC b) : a = b := by
  unfold keyC at h
  exact (List.map_inj_right (fun x y e => Sum.inl.inj e)).mp h
def Memo (E : Int) (kvs : List (List Key × D)) : Prop := ∀ c v, lookT kvs (keyC c) = some v → v = .int ((wys c.sum.toNat (E - balC 0 c) c : Nat) : Int)
theorem lookT_put {kvs : List (List Key × D)} {k : List Key} {v : D} : lookT (putTD kvs k v) k = some v := by
  unfold putTD
  split
  · rename_i h
    obtain ⟨q, hq, e⟩ := List.any_eq_true.mp h
    have e := of_decide_eq_true e
    induction kvs with
    | nil => cases hq
    | cons p r ih =>
      rw [List.map_cons]
      unfold lookT
      by_cases hp : p.1 = k
      · simp [List.find?_cons, hp]
      · rw [if_neg hp, List.find?_cons]
        have : decide (p.1 = k) = false := decide_eq_false hp
        rw [this]
        have hq' : q ∈ r := by
          rcases List.mem_cons.mp hq with rfl | hq
          · exact absurd e hp
          · exact hq
        exact ih (List.any_eq_true.mpr ⟨q, hq', decide_eq_true e⟩) hq'
  · rename_i h
    have : kvs.find? (fun kv => decide (kv.1 = k)) = none := by
      rw [List.find?_eq_none]
      intro q hq z
      exact h (List.any_eq_true.mpr ⟨q, hq, z⟩)
    unfold lookT
    rw [List.find?_append, this]
    simp
theorem lookT_other {kvs : List (List Key × D)} {k j : List Key} {v : D} (hj : j ≠ k) : lookT (putTD kvs k v) j = lookT kvs j := by
  unfold putTD
  split
  · rename_i hh
    clear hh
    induction kvs with
    | nil => rfl
    | cons p r ih =>
      rw [List.map_cons]
      unfold lookT at ih ⊢
      by_cases hp : p.1 = k
      · rw [if_pos hp, List.find?_cons, List.find?_cons]
        have : decide (p.1 = j) = false := decide_eq_false fun z => hj (z.symm.trans hp)
        simp only [this]
        exact ih
      · rw [if_neg hp, List.find?_cons, List.find?_cons]
        cases decide (p.1 = j) with
        | true => rfl
        | false => exact ih
  · unfold lookT
    rw [List.find?_append]
    cases kvs.find? (fun kv => decide (kv.1 = j)) with
    | some q => rfl
    | none =>
      have : decide (k = j) = false := decide_eq_false fun z => hj z.symm
      simp [this]
theorem Memo.put {E : Int} {kvs : List (List Key × D)} (h : Memo E kvs) (c : List Int) : Memo E (putTD kvs (keyC c) (.int ((wys c.sum.toNat (E - balC 0 c) c : Nat) : Int))) := by
  intro c2 v hv
  by_cases e : c2 = c
  · subst e
    rw [lookT_put] at hv
    exact (Option.some.inj hv).symm
  · rw [lookT_other (fun z => e (keyC_inj z))] at hv
    exact h c2 v hv
theorem Memo.nil (E : Int) : Memo E [] := fun c v h => by cases h
/-- how many results a call may add -/
def TT : Nat → Nat
  | 0 => 0
  | n + 1 => 1 + 6 * TT n
end DL
namespace DL
open PySem PySem.Spec L2
open PyProof.Rows hiding St
noncomputable def B_taken_from : Ev → Sto → SR :=
  (sRet (eTupK (aStar (eSl mkFl (eVar 0) oNone (oSome (eVar 1))) (aCons (eOp dSub (eOp dIx (eVar 0) (eVar 1)) (eC (.int 1))) (aStar (eSl mkFl (eVar 0) (oSome (eOp dAdd (eVar 1) (eC (.int 1)))) oNone) aNil)))))
noncomputable def F_taken_from : Fn := fnC close 2 2 B_taken_from
noncomputable def L1_count_rows (ρ : Ev) (S : Sto) : SR :=
  (sSeq (sAug 2 dAddI (eC (.int 1)))
    (sSet 1 (eOp dFdiv (eOp dMulT (eVar 1) (eVar 2)) (eOp dAdd (eVar 4) (eC (.int 1)))))) ρ S
noncomputable def L2_count_rows (ρ : Ev) (S : Sto) : SR :=
  (sFor (iRange1 (aCons (eVar 3) aNil)) (tN 4) L1_count_rows sNil) ρ S
noncomputable def B_count_rows : Ev → Sto → SR :=
  (sSeq (sAsg (eTup (aCons (eC (.int 1)) (aCons (eC (.int 0)) aNil))) (tTup 2 (tCons (tN 1) (tCons (tN 2) tNil))))
    (sSeq (sFor (iSeq (eVar 0)) (tN 3) L2_count_rows sNil)
    (sRet (eVar 1))))
noncomputable def F_count_rows : Fn := fnC close 5 1 B_count_rows
noncomputable def E1_balance_of (ρ : Ev) (S : Sto) : R D :=
  (eOp dMulT (eVar 2) (eOp dSub (eC (.int 1)) (eVar 1))) ρ S
noncomputable def B_balance_of : Ev → Sto → SR :=
  (sRet (eCall bSum2 (aCons (eLc finFl (iEnumD (aCons (eVar 0) aNil)) (tTup 2 (tCons (tN 1) (tCons (tN 2) tNil))) [1, 2] cYes E1_balance_of) aNil)))
noncomputable def F_balance_of : Fn := fnC close 3 1 B_balance_of
theorem taken_ok {c : List Int} {a : Nat} (ha : a < c.length) (hl : c.length ≤ 100) (S : Sto) : F_taken_from [ti c, .int ((a : Nat) : Int)] S = .ok (.ktp ((decr c a).map D.int)) S := by
  refine fnC_rt rfl ?_ rfl
  have hst : startD 2 [ti c, D.int ((a : Nat) : Int)] = [some (ti c), some (.int ((a : Nat) : Int))] := rfl
  rw [hst]
  have s1 := sl_to c a mkFl
  have s2 := sl_from c (a + 1) mkFl
  rw [Int.natCast_add, Int.natCast_one] at s2
  have ix := ix_at (r := c) (i := a) (x := c[a]) (List.getElem?_eq_getElem ha)
  have so : ∀ (xs : List Int) S, sOf (ti xs) S = .ok (xs.map D.int) S := fun xs S => rfl
  have e : (c.take a).map D.int ++ (D.int (c[a] - 1) :: (c.drop (a + 1)).map D.int) = (decr c a).map D.int := by
    unfold decr
    rw [List.map_append, List.map_cons, List.getD_eq_getElem?_getD, List.getElem?_eq_getElem ha]
    rfl
  have hs : ∀ S, (ifp (((decr c a).map D.int).length ≤ sizeLine) (R.ok (D.ktp ((decr c a).map D.int)) S) .stuck : R D) = .ok (.ktp ((decr c a).map D.int)) S := fun S => ifp_pos (by rw [List.length_map, decr_len ha]; exact Nat.le_trans hl (by decide))
  unfold B_taken_from
  simp only [sRet, eTupK, aStar, eSl, eVar, oNone, oSome, iOf, aCons, aNil, eOp, eC, List.getElem?_cons_zero, List.getElem?_cons_succ, R.bind_ok, s1, s2, ix, so, dSub_int, dAdd_int, List.append_nil, e, hs, R.toS_ok]
theorem ktp_sum (c : List Int) (S : Sto) : bSum2 [ti c] S = .ok (.int c.sum) S := ti_sum c S
end DL
namespace DL
open PySem PySem.Spec L2
open PyProof.Rows hiding St
def cntL (l : List Int) : List Int := (List.range 6).map fun a => ((l.count ((a : Nat) : Int) : Nat) : Int)
end DL
namespace DL
open PySem PySem.Spec L2
open PyProof.Rows hiding St
end DL
namespace DL
open PySem PySem.Spec L2
open PyProof.Rows hiding St
def okH : Int → List Int → Bool
  | _, [] => true
  | h, t :: r => decide (t ≤ h) && okH (h + 1 - t) r
theorem ne_okH : ∀ (l : List Int) (h : Int), (l.foldl stp (h, 0)).2 = 0 ↔ okH h l = true
  | [], h => by simp [okH]
  | t :: r, h => by
    rw [List.foldl_cons, okH, Bool.and_eq_true, decide_eq_true_iff]
    by_cases ht : t ≤ h
    · have e : stp (h, 0) t = (h + 1 - t, 0) := by
        unfold stp
        refine Prod.ext ?_ ?_
        · show h + (1 - t) = h + 1 - t; omega
        · show max 0 (1 - (h + (1 - t))) = 0; omega
      rw [e, ne_okH r (h + 1 - t)]
      exact ⟨fun z => ⟨ht, z⟩, fun z => z.2⟩
    · have m := stp_mono r (stp (h, 0) t)
      have p : 0 < (stp (h, 0) t).2 := by
        show 0 < max 0 (1 - (h + (1 - t))); omega
      exact ⟨fun z => by omega, fun z => absurd z.1 ht⟩
theorem nx_of {h : Int} : ∀ {c : List Int} {k i : Nat}, i < c.length → 0 < c.getD i 0 → ((k + i : Nat) : Int) ≤ h → k + i ∈ nxA h k c
  | [], k, i, hi, _, _ => by simp at hi
  | x :: cs, k, 0, _, h2, h3 => by
    rw [nxA, if_pos ⟨by simpa using h2, h3⟩]
    exact List.mem_append_left _ (List.mem_singleton.mpr rfl)
  | x :: cs, k, i + 1, h1, h2, h3 => by
    rw [nxA]
    refine List.mem_append_right _ ?_
    have e : k + (i + 1) = k + 1 + i := by omega
    rw [e] at h3 ⊢
    exact nx_of (by simpa using h1) (by simpa using h2) h3
theorem cnt_decr {a : Nat} (ha : a < 6) (r : List Int) : decr (cntL (((a : Nat) : Int) :: r)) a = cntL r ∧ 0 < (cntL (((a : Nat) : Int) :: r)).getD a 0 := by
  have h6 : a = 0 ∨ a = 1 ∨ a = 2 ∨ a = 3 ∨ a = 4 ∨ a = 5 := by omega
  rcases h6 with rfl | rfl | rfl | rfl | rfl | rfl <;>
    (refine ⟨?_, ?_⟩ <;> (simp [cntL, decr, List.range_succ, List.count_cons]; try omega))
theorem cntL_len (l : List Int) : (cntL l).length = 6 := by simp [cntL]
theorem ar_nat {t : Int} (h : Arity t) : ∃ a : Nat, t = ((a : Nat) : Int) ∧ a < 6 := by
  unfold Arity at h
  exact ⟨t.toNat, by omega, by omega⟩
theorem fits_of : ∀ {l : List Int} (h : Int), (∀ t ∈ l, Arity t) → okH h l = true → l ∈ cmpl l.length h (cntL l)
  | [], h, _, _ => by rw [List.length_nil, cmpl]; exact List.mem_singleton.mpr rfl
  | t :: r, h, ha, ho => by
    obtain ⟨a, rfl, h6⟩ := ar_nat (ha t List.mem_cons_self)
    rw [okH, Bool.and_eq_true, decide_eq_true_iff] at ho
    obtain ⟨e1, e2⟩ := cnt_decr h6 r
    rw [List.length_cons, cmpl, List.mem_flatMap]
    refine ⟨a, ?_, List.mem_map.mpr ⟨r, ?_, rfl⟩⟩
    · have := nx_of (h := h) (c := cntL (((a : Nat) : Int) :: r)) (k := 0) (i := a) (by rw [cntL_len]; exact h6) e2 (by rw [Nat.zero_add]; exact ho.1)
      rwa [Nat.zero_add] at this
    · rw [e1]
      exact fits_of _ (fun x hx => ha x (List.mem_cons_of_mem _ hx)) ho.2
end DL
namespace DL
open PySem PySem.Spec L2
open PyProof.Rows hiding St
def s2 (S : Sto) (xs : List D) (kvs : List (List Key × D)) : Sto := S ++ [.lst xs, .dkt kvs]
end DL
namespace DL
open PySem PySem.Spec L2
open PyProof.Rows hiding St
def crS (p : Int × Nat) (k : Nat) : Int × Nat := (p.1 * ((p.2 + 1 : Nat) : Int) / ((k + 1 : Nat) : Int), p.2 + 1)
def crI (p : Int × Nat) (x : Int) : Int × Nat := (List.range x.toNat).foldl crS p
def crF (c : List Int) : Int := (c.foldl crI (1, 0)).1
def comps : Nat → Nat → List (List Int)
  | 0, 0 => [[]]
  | 0, _ + 1 => []
  | k + 1, n => (List.range (n + 1)).flatMap fun a => (comps k (n - a)).map fun c => ((a : Nat) : Int) :: c
theorem sum_nn0 : ∀ {l : List Int}, (∀ x ∈ l, 0 ≤ x) → 0 ≤ l.sum
  | [], _ => by decide
  | y :: l, h => by
    rw [List.sum_cons]
    have h1 := h y List.mem_cons_self
    have h2 := sum_nn0 (l := l) fun z hz => h z (List.mem_cons_of_mem _ hz)
    omega
theorem comps_mem : ∀ {c : List Int} {n : Nat}, (∀ x ∈ c, 0 ≤ x) → c.sum = ((n : Nat) : Int) → c ∈ comps c.length n
  | [], 0, _, _ => by rw [List.length_nil, comps]; exact List.mem_singleton.mpr rfl
  | [], n + 1, _, h => by rw [List.sum_nil] at h; omega
  | x :: cs, n, hc, hs => by
    have hx := hc x List.mem_cons_self
    rw [List.sum_cons] at hs
    have hcs : 0 ≤ cs.sum := sum_nn0 fun z hz => hc z (List.mem_cons_of_mem _ hz)
    rw [List.length_cons, comps, List.mem_flatMap]
    refine ⟨x.toNat, List.mem_range.mpr (by omega), List.mem_map.mpr ⟨cs, comps_mem (fun z hz => hc z (List.mem_cons_of_mem _ hz)) (by omega), ?_⟩⟩
    congr 1
    omega
theorem crS_le {p : Int × Nat} {k : Nat} (h : 0 ≤ p.1 ∧ p.1 ≤ 16 ^ p.2) (hs : p.2 ≤ 14) : 0 ≤ (crS p k).1 ∧ (crS p k).1 ≤ 16 ^ (p.2 + 1) := by
  unfold crS
  obtain ⟨h1, h2⟩ := h
  have a : 0 ≤ p.1 * ((p.2 + 1 : Nat) : Int) := Int.mul_nonneg h1 (by omega)
  refine ⟨Int.ediv_nonneg a (by omega), ?_⟩
  have b : p.1 * ((p.2 + 1 : Nat) : Int) / ((k + 1 : Nat) : Int) ≤ p.1 * ((p.2 + 1 : Nat) : Int) := Int.ediv_le_self _ a
  have c : p.1 * ((p.2 + 1 : Nat) : Int) ≤ 16 ^ p.2 * 16 := by
    have c1 : p.1 * ((p.2 + 1 : Nat) : Int) ≤ p.1 * 16 := Int.mul_le_mul_of_nonneg_left (by omega) h1
    have c2 : p.1 * 16 ≤ 16 ^ p.2 * 16 := Int.mul_le_mul_of_nonneg_right h2 (by omega)
    omega
  show p.1 * ((p.2 + 1 : Nat) : Int) / ((k + 1 : Nat) : Int) ≤ 16 ^ (p.2 + 1)
  rw [Int.pow_succ]
  omega
theorem pow16 {n : Nat} (h : n ≤ 15) : (16 : Int) ^ n ≤ 16 ^ 15 := by
  have : ((List.range 16).all fun n => decide ((16 : Int) ^ n ≤ 16 ^ 15)) = true := by decide
  exact of_decide_eq_true (List.all_eq_true.mp this n (List.mem_range.mpr (by omega)))
theorem cr_inner (x0 x3 : Option D) (S : Sto) : ∀ (ks : List Nat) (p : Int × Nat) (x4 : Option D), (∀ k ∈ ks, k < 1000) → (0 ≤ p.1 ∧ p.1 ≤ 16 ^ p.2) → p.2 + ks.length ≤ 14 →
    ∃ y4, forD yes (tN 4) L1_count_rows sNil (ks.map fun k => .int ((k : Nat) : Int)) [x0, some (.int p.1), some (.int ((p.2 : Nat) : Int)), x3, x4] S = .nx [x0, some (.int (ks.foldl crS p).1), some (.int (((ks.foldl crS p).2 : Nat) : Int)), x3, y4] S ∧ (0 ≤ (ks.foldl crS p).1 ∧ (ks.foldl crS p).1 ≤ 16 ^ (ks.foldl crS p).2) ∧ (ks.foldl crS p).2 = p.2 + ks.length
  | [], p, x4, _, hp, _ => ⟨x4, by rw [List.map_nil, forD_nil trivial]; rfl, hp, rfl⟩
  | k :: ks, p, x4, hk, hp, hl => by
    rw [List.length_cons] at hl
    have kk := hk k List.mem_cons_self
    have up := crS_le (k := k) hp (by omega)
    obtain ⟨y4, e, b, s⟩ := cr_inner x0 x3 S ks (crS p k) (some (.int ((k : Nat) : Int))) (fun z hz => hk z (List.mem_cons_of_mem _ hz)) up (by show p.2 + 1 + ks.length ≤ 14; omega)
    refine ⟨y4, ?_, b, by rw [List.foldl_cons, s, List.length_cons]; show p.2 + 1 + ks.length = _; omega⟩
    have lim := pow16 (n := p.2) (by omega)
    have ad : ∀ S, dAddI (.int ((p.2 : Nat) : Int)) (.int 1) S = .ok (.int ((p.2 + 1 : Nat) : Int)) S := fun S => by rw [dAddI_int]; rfl
    have ad2 : ∀ S, dAdd (.int ((k : Nat) : Int)) (.int 1) S = .ok (.int ((k + 1 : Nat) : Int)) S := fun S => by rw [dAdd_int]; rfl
    have ml := mulT_int (i := p.1) (j := ((p.2 + 1 : Nat) : Int)) ⟨by omega, by omega⟩
    have fd := fdiv_int (i := p.1 * ((p.2 + 1 : Nat) : Int)) (j := ((k + 1 : Nat) : Int)) (by omega) (by omega)
    have body : L1_count_rows [x0, some (.int p.1), some (.int ((p.2 : Nat) : Int)), x3, some (.int ((k : Nat) : Int))] S = .nx [x0, some (.int (crS p k).1), some (.int (((crS p k).2 : Nat) : Int)), x3, some (.int ((k : Nat) : Int))] S := by
      show _ = SR.nx [x0, some (.int (p.1 * ((p.2 + 1 : Nat) : Int) / ((k + 1 : Nat) : Int))), some (.int ((p.2 + 1 : Nat) : Int)), x3, some (.int ((k : Nat) : Int))] S
      simp only [eVar, eC, eOp, eT, eAnd, eOr, eNot, eIf, eAndV, eOrV, eNotV, eCall, aNil, aCons, aStar, sOf, eTup, eFl, eLoc, eSl, oNone, oSome, iOf, eNeg, eChain, eMt, bOf, eDict0, eRev, eListRg, iZipD, sRaise1, sRaise0, eCallV, List.lookup, R.bind_ok, R.bind_er, R.bind_stuck, R.toS_ok, R.toS_er, R.toS_stuck, SR.next_nx, SR.next_rt, SR.next_er, SR.next_bk, SR.next_ct, SR.next_stuck, sNil, sSeq, sBrk, sCnt, sExp, sRet, sRetN, sIf, sSet, sAsg, sAug, sPar2, sPar3, tN, DL.tTup, DL.tNil, DL.tCons, DL.tSub, iSeq, srcOf_tup, srcOf_fl, srcOf_kl, srcOf_ti, iRange1, iRange2, sFor, startD, List.map_cons, List.map_nil, List.length_cons, List.length_nil, List.replicate, List.cons_append, List.nil_append, List.getElem?_cons_zero, List.getElem?_cons_succ, List.set_cons_zero, List.set_cons_succ, dSub_int, dFdiv_int, dMod_int, dLt_int, dLe_int, dGt_int, dGe_int, dAddI_int, dSubI_int, dIsN_non, isN, dAdd_int, ll0, ll1, ll2, ll3, ll4, ll5, ll6, ll7, ll8, ll9, ll10, ll11, ll12, ll13, ll14, ll15, ll16, ll17, ll18, ll19, ll20, ll21, ll22, ll23, ll24, ll25, ll26, ll27, ll28, ll29, ll30, ll31, ll32, ll33, ll34, ll35, ll36, ll37, ll38, ll39, ll40, Nat.reduceSub, Nat.reduceAdd, Nat.reduceEqDiff, if_true, if_false, ifp_t, ifp_f, reduceIte, Bool.true_eq_false, Bool.false_eq_true, Option.map_some, Option.map_none, Option.bind_some, Option.bind_none, L1_count_rows, ad, ad2, ml, fd]
    rw [List.map_cons, forD_cons (ρ1 := [x0, some (.int p.1), some (.int ((p.2 : Nat) : Int)), x3, some (.int ((k : Nat) : Int))]) (S1 := S) trivial rfl body, e]
    rfl
theorem cr_outer (x0 : Option D) (S : Sto) : ∀ (c : List Int) (p : Int × Nat) (x3 x4 : Option D), (∀ x ∈ c, 0 ≤ x) → (0 ≤ p.1 ∧ p.1 ≤ 16 ^ p.2) → ((p.2 : Nat) : Int) + c.sum ≤ 14 →
    ∃ y3 y4, forD yes (tN 3) L2_count_rows sNil (c.map D.int) [x0, some (.int p.1), some (.int ((p.2 : Nat) : Int)), x3, x4] S = .nx [x0, some (.int (c.foldl crI p).1), some (.int (((c.foldl crI p).2 : Nat) : Int)), y3, y4] S ∧ (0 ≤ (c.foldl crI p).1 ∧ (c.foldl crI p).1 ≤ 16 ^ 15)
  | [], p, x3, x4, _, hp, hl => ⟨x3, x4, by rw [List.map_nil, forD_nil trivial]; rfl, hp.1, by
    have h0 : ([] : List Int).sum = 0 := rfl
    rw [h0] at hl
    exact Int.le_trans hp.2 (pow16 (by omega))⟩
  | x :: cs, p, x3, x4, hc, hp, hl => by
    have hx := hc x List.mem_cons_self
    rw [List.sum_cons] at hl
    have nn := sum_nn0 (l := cs) fun z hz => hc z (List.mem_cons_of_mem _ hz)
    obtain ⟨z4, e1, b1, s1⟩ := cr_inner x0 (some (.int x)) S (List.range x.toNat) p x4 (fun k hk => by have := List.mem_range.mp hk; omega) hp (by rw [List.length_range]; omega)
    rw [List.length_range] at s1
    have es : (List.range x.toNat).foldl crS p = crI p x := rfl
    rw [es] at e1 b1 s1
    obtain ⟨y3, y4, e2, b2⟩ := cr_outer x0 S cs (crI p x) (some (.int x)) z4 (fun z hz => hc z (List.mem_cons_of_mem _ hz)) b1 (by rw [s1]; omega)
    refine ⟨y3, y4, ?_, b2⟩
    have rg : iRange1 (aCons (eVar 3) aNil) [x0, some (.int p.1), some (.int ((p.2 : Nat) : Int)), some (.int x), x4] S = .ok ((List.range x.toNat).map (fun k => D.int ((k : Nat) : Int)), yes) S := by
      have hr : ((-(2 ^ 62) : Int) ≤ x ∧ x < 2 ^ 62) = True := by simp; omega
      simp only [eVar, eC, eOp, eT, eAnd, eOr, eNot, eIf, eAndV, eOrV, eNotV, eCall, aNil, aCons, aStar, sOf, eTup, eFl, eLoc, eSl, oNone, oSome, iOf, eNeg, eChain, eMt, bOf, eDict0, eRev, eListRg, iZipD, sRaise1, sRaise0, eCallV, List.lookup, R.bind_ok, R.bind_er, R.bind_stuck, R.toS_ok, R.toS_er, R.toS_stuck, SR.next_nx, SR.next_rt, SR.next_er, SR.next_bk, SR.next_ct, SR.next_stuck, sNil, sSeq, sBrk, sCnt, sExp, sRet, sRetN, sIf, sSet, sAsg, sAug, sPar2, sPar3, tN, DL.tTup, DL.tNil, DL.tCons, DL.tSub, iSeq, srcOf_tup, srcOf_fl, srcOf_kl, srcOf_ti, iRange1, iRange2, sFor, startD, List.map_cons, List.map_nil, List.length_cons, List.length_nil, List.replicate, List.cons_append, List.nil_append, List.getElem?_cons_zero, List.getElem?_cons_succ, List.set_cons_zero, List.set_cons_succ, dSub_int, dFdiv_int, dMod_int, dLt_int, dLe_int, dGt_int, dGe_int, dAddI_int, dSubI_int, dIsN_non, isN, dAdd_int, ll0, ll1, ll2, ll3, ll4, ll5, ll6, ll7, ll8, ll9, ll10, ll11, ll12, ll13, ll14, ll15, ll16, ll17, ll18, ll19, ll20, ll21, ll22, ll23, ll24, ll25, ll26, ll27, ll28, ll29, ll30, ll31, ll32, ll33, ll34, ll35, ll36, ll37, ll38, ll39, ll40, Nat.reduceSub, Nat.reduceAdd, Nat.reduceEqDiff, if_true, if_false, ifp_t, ifp_f, reduceIte, Bool.true_eq_false, Bool.false_eq_true, Option.map_some, Option.map_none, Option.bind_some, Option.bind_none, hr]
      unfold rangeD
      simp only [Int.zero_add]
    have body : L2_count_rows [x0, some (.int p.1), some (.int ((p.2 : Nat) : Int)), some (.int x), x4] S = .nx [x0, some (.int (crI p x).1), some (.int (((crI p x).2 : Nat) : Int)), some (.int x), z4] S := by
      unfold L2_count_rows sFor
      rw [rg]
      exact e1
    rw [List.map_cons, forD_cons (ρ1 := [x0, some (.int p.1), some (.int ((p.2 : Nat) : Int)), some (.int x), x4]) (S1 := S) trivial rfl body, e2]
    rfl
theorem count_rows_ok {c : List Int} (cn : ∀ x ∈ c, 0 ≤ x) (cs : c.sum ≤ 14) (S : Sto) : F_count_rows [ti c] S = .ok (.int (crF c)) S := by
  have hst : startD 5 [ti c] = [some (ti c), none, none, none, none] := rfl
  obtain ⟨y3, y4, e, _⟩ := cr_outer (some (ti c)) S c (1, 0) none none cn ⟨by decide, by decide⟩ (by show (0 : Int) + c.sum ≤ 14; omega)
  have e' : forD yes (tN 3) L2_count_rows sNil (c.map D.int) [some (ti c), some (.int 1), some (.int 0), none, none] S = .nx [some (ti c), some (.int (crF c)), some (.int (((c.foldl crI (1, 0)).2 : Nat) : Int)), y3, y4] S := e
  have sr : ∀ S, srcOf (ti c) S = .ok (c.map D.int, yes) S := fun S => rfl
  refine fnC_rt rfl ?_ rfl
  rw [hst]
  have t2 : ∀ (a b : D) S, (ifp ([a, b].length ≤ sizeLine) (R.ok (D.tup [a, b]) S) .stuck : R D) = .ok (.tup [a, b]) S := fun a b S => ifp_pos (Nat.le_trans (show 2 ≤ 10 by omega) (by decide))
  unfold B_count_rows
  generalize hL : L2_count_rows = LL at *
  generalize ti c = TC at *
  generalize c.map D.int = CC at *
  simp only [eVar, eC, eOp, eT, eAnd, eOr, eNot, eIf, eAndV, eOrV, eNotV, eCall, aNil, aCons, aStar, sOf, eTup, eFl, eLoc, eSl, oNone, oSome, iOf, eNeg, eChain, eMt, bOf, eDict0, eRev, eListRg, iZipD, sRaise1, sRaise0, eCallV, List.lookup, R.bind_ok, R.bind_er, R.bind_stuck, R.toS_ok, R.toS_er, R.toS_stuck, SR.next_nx, SR.next_rt, SR.next_er, SR.next_bk, SR.next_ct, SR.next_stuck, sNil, sSeq, sBrk, sCnt, sExp, sRet, sRetN, sIf, sSet, sAsg, sAug, sPar2, sPar3, tN, DL.tTup, DL.tNil, DL.tCons, DL.tSub, iSeq, srcOf_tup, srcOf_fl, srcOf_kl, srcOf_ti, iRange1, iRange2, sFor, startD, List.map_cons, List.map_nil, List.length_cons, List.length_nil, List.replicate, List.cons_append, List.nil_append, List.getElem?_cons_zero, List.getElem?_cons_succ, List.set_cons_zero, List.set_cons_succ, dSub_int, dFdiv_int, dMod_int, dLt_int, dLe_int, dGt_int, dGe_int, dAddI_int, dSubI_int, dIsN_non, isN, dAdd_int, ll0, ll1, ll2, ll3, ll4, ll5, ll6, ll7, ll8, ll9, ll10, ll11, ll12, ll13, ll14, ll15, ll16, ll17, ll18, ll19, ll20, ll21, ll22, ll23, ll24, ll25, ll26, ll27, ll28, ll29, ll30, ll31, ll32, ll33, ll34, ll35, ll36, ll37, ll38, ll39, ll40, Nat.reduceSub, Nat.reduceAdd, Nat.reduceEqDiff, if_true, if_false, ifp_t, ifp_f, reduceIte, Bool.true_eq_false, Bool.false_eq_true, Option.map_some, Option.map_none, Option.bind_some, Option.bind_none, t2, sr, e']
theorem count_rows_le {c : List Int} (cn : ∀ x ∈ c, 0 ≤ x) (cs : c.sum ≤ 14) : 0 ≤ crF c ∧ crF c ≤ 16 ^ 15 := by
  obtain ⟨y3, y4, e, b⟩ := cr_outer none [] c (1, 0) none none cn ⟨by decide, by decide⟩ (by show (0 : Int) + c.sum ≤ 14; omega)
  exact b
theorem bal_sum : ∀ (c : List Int) (k : Nat), ((c.zipIdx k).map fun q => q.1 * (1 - ((q.2 : Nat) : Int))).sum = balC k c
  | [], k => rfl
  | x :: cs, k => by rw [List.zipIdx_cons, List.map_cons, List.sum_cons, bal_sum cs (k + 1), balC]
theorem balance_of_ok {c : List Int} (cl : c.length ≤ 100) (hc : ∀ x ∈ c, 0 ≤ x ∧ x ≤ 1000) (S : Sto) : F_balance_of [ti c] S = .ok (.int (balC 0 c)) S := by
  have hst : startD 3 [ti c] = [some (ti c), none, none] := rfl
  have sq : iEnumD (aCons (eVar 0) aNil) [some (ti c), none, none] S = .ok ((c.zipIdx 0).map (fun q => D.tup [.int (q.2 : Int), .int q.1]), yes) S := by
    have : iEnumD (aCons (eVar 0) aNil) [some (ti c), none, none] S = .ok (enumD 0 (c.map D.int), yes) S := rfl
    rw [this, enumD_ints]
  have key := eLc_pure (T := tTup 2 (tCons (tN 1) (tCons (tN 2) tNil))) (vs := [1, 2]) (c := cYes) (f := E1_balance_of) (ρ := [some (ti c), none, none]) (S := S) (src := iEnumD (aCons (eVar 0) aNil)) ((c.zipIdx 0).map (fun q => D.tup [.int (q.2 : Int), .int q.1])) (fun d => match d with
    | .tup [a, b] => [some (ti c), some a, some b]
    | _ => []) (fun _ => true) (fun d => match d with
    | .tup [.int a, .int b] => .int (b * (1 - a))
    | _ => .non) sq (by
      intro d hd S'
      obtain ⟨q, hq, rfl⟩ := List.mem_map.mp hd
      refine ⟨rfl, rfl, fun _ => ?_⟩
      have hm : q.1 ∈ c := (List.mem_zipIdx hq).2.2 ▸ List.getElem_mem _
      obtain ⟨m1, m2⟩ := hc q.1 hm
      have ml := mulT_int (i := q.1) (j := 1 - ((q.2 : Nat) : Int)) ⟨by omega, by omega⟩
      show E1_balance_of [some (ti c), some (.int (q.2 : Int)), some (.int q.1)] S' = _
      simp only [eVar, eC, eOp, eT, eAnd, eOr, eNot, eIf, eAndV, eOrV, eNotV, eCall, aNil, aCons, aStar, sOf, eTup, eFl, eLoc, eSl, oNone, oSome, iOf, eNeg, eChain, eMt, bOf, eDict0, eRev, eListRg, iZipD, sRaise1, sRaise0, eCallV, List.lookup, R.bind_ok, R.bind_er, R.bind_stuck, R.toS_ok, R.toS_er, R.toS_stuck, SR.next_nx, SR.next_rt, SR.next_er, SR.next_bk, SR.next_ct, SR.next_stuck, sNil, sSeq, sBrk, sCnt, sExp, sRet, sRetN, sIf, sSet, sAsg, sAug, sPar2, sPar3, tN, DL.tTup, DL.tNil, DL.tCons, DL.tSub, iSeq, srcOf_tup, srcOf_fl, srcOf_kl, srcOf_ti, iRange1, iRange2, sFor, startD, List.map_cons, List.map_nil, List.length_cons, List.length_nil, List.replicate, List.cons_append, List.nil_append, List.getElem?_cons_zero, List.getElem?_cons_succ, List.set_cons_zero, List.set_cons_succ, dSub_int, dFdiv_int, dMod_int, dLt_int, dLe_int, dGt_int, dGe_int, dAddI_int, dSubI_int, dIsN_non, isN, dAdd_int, ll0, ll1, ll2, ll3, ll4, ll5, ll6, ll7, ll8, ll9, ll10, ll11, ll12, ll13, ll14, ll15, ll16, ll17, ll18, ll19, ll20, ll21, ll22, ll23, ll24, ll25, ll26, ll27, ll28, ll29, ll30, ll31, ll32, ll33, ll34, ll35, ll36, ll37, ll38, ll39, ll40, Nat.reduceSub, Nat.reduceAdd, Nat.reduceEqDiff, if_true, if_false, ifp_t, ifp_f, reduceIte, Bool.true_eq_false, Bool.false_eq_true, Option.map_some, Option.map_none, Option.bind_some, Option.bind_none, E1_balance_of, dSub_int, ml]) (by rw [List.length_map, List.length_zipIdx]; exact Nat.le_trans cl (by decide)) (by
      intro d hd _
      obtain ⟨q, hq, rfl⟩ := List.mem_map.mp hd
      rfl)
  rw [List.filter_eq_self.mpr (fun _ _ => rfl), List.map_map] at key
  have e : (c.zipIdx 0).map ((fun d => match d with
    | D.tup [.int a, .int b] => D.int (b * (1 - a))
    | _ => .non) ∘ fun q => D.tup [.int (q.2 : Int), .int q.1]) = ((c.zipIdx 0).map fun q => q.1 * (1 - ((q.2 : Nat) : Int))).map D.int := by
    rw [List.map_map]
    rfl
  rw [e] at key
  have bs := sum_fli ((c.zipIdx 0).map fun q => q.1 * (1 - ((q.2 : Nat) : Int)))
  rw [bal_sum] at bs
  refine fnC_rt rfl ?_ rfl
  rw [hst]
  unfold B_balance_of
  generalize eLc finFl (iEnumD (aCons (eVar 0) aNil)) (tTup 2 (tCons (tN 1) (tCons (tN 2) tNil))) [1, 2] cYes E1_balance_of = LC at key ⊢
  generalize D.fl (((c.zipIdx 0).map fun q => q.1 * (1 - ((q.2 : Nat) : Int))).map D.int) = FL at *
  generalize ti c = TC at *
  simp only [eVar, eC, eOp, eT, eAnd, eOr, eNot, eIf, eAndV, eOrV, eNotV, eCall, aNil, aCons, aStar, sOf, eTup, eFl, eLoc, eSl, oNone, oSome, iOf, eNeg, eChain, eMt, bOf, eDict0, eRev, eListRg, iZipD, sRaise1, sRaise0, eCallV, List.lookup, R.bind_ok, R.bind_er, R.bind_stuck, R.toS_ok, R.toS_er, R.toS_stuck, SR.next_nx, SR.next_rt, SR.next_er, SR.next_bk, SR.next_ct, SR.next_stuck, sNil, sSeq, sBrk, sCnt, sExp, sRet, sRetN, sIf, sSet, sAsg, sAug, sPar2, sPar3, tN, DL.tTup, DL.tNil, DL.tCons, DL.tSub, iSeq, srcOf_tup, srcOf_fl, srcOf_kl, srcOf_ti, iRange1, iRange2, sFor, startD, List.map_cons, List.map_nil, List.length_cons, List.length_nil, List.replicate, List.cons_append, List.nil_append, List.getElem?_cons_zero, List.getElem?_cons_succ, List.set_cons_zero, List.set_cons_succ, dSub_int, dFdiv_int, dMod_int, dLt_int, dLe_int, dGt_int, dGe_int, dAddI_int, dSubI_int, dIsN_non, isN, dAdd_int, ll0, ll1, ll2, ll3, ll4, ll5, ll6, ll7, ll8, ll9, ll10, ll11, ll12, ll13, ll14, ll15, ll16, ll17, ll18, ll19, ll20, ll21, ll22, ll23, ll24, ll25, ll26, ll27, ll28, ll29, ll30, ll31, ll32, ll33, ll34, ll35, ll36, ll37, ll38, ll39, ll40, Nat.reduceSub, Nat.reduceAdd, Nat.reduceEqDiff, if_true, if_false, ifp_t, ifp_f, reduceIte, Bool.true_eq_false, Bool.false_eq_true, Option.map_some, Option.map_none, Option.bind_some, Option.bind_none, key, bs]
/-- as many rows can be read whole as the package says -/
theorem all_counted : ((List.range 6).all fun n => (comps 6 (n + 1)).all fun c => decide (crF c * max 0 (balC 0 c) / c.sum = (((cmpl (n + 1) 0 c).length : Nat) : Int))) = true := by decide +kernel
theorem counted {n : Nat} {c : List Int} (c6 : c.length = 6) (cn : ∀ x ∈ c, 0 ≤ x) (cs : c.sum = ((n : Nat) : Int)) (n0 : 0 < n) (n6 : n ≤ 6) : crF c * max 0 (balC 0 c) / c.sum = (((cmpl n 0 c).length : Nat) : Int) := by
  have h := List.all_eq_true.mp all_counted (n - 1) (List.mem_range.mpr (by omega))
  have e : n - 1 + 1 = n := by omega
  simp only [e] at h
  have m := comps_mem cn cs
  rw [c6] at m
  exact of_decide_eq_true (List.all_eq_true.mp h c m)
end DL
namespace DL
open PySem PySem.Spec L2
open PyProof.Rows hiding St
def S6 (f : Nat → Int) : Int := f 0 + (f 1 + (f 2 + (f 3 + (f 4 + f 5))))
end DL
namespace DL
open PySem PySem.Spec L2
open PyProof.Rows hiding St
def nzs : Nat → List Int → List Nat
  | _, [] => []
  | a, x :: cs => (if 0 < x then [a] else []) ++ nzs (a + 1) cs
def ords : Nat → List Int → List (List Int)
  | 0, _ => [[]]
  | n + 1, c => (nzs 0 c).flatMap fun a => (ords n (decr c a)).map fun r => ((a : Nat) : Int) :: r
theorem nzs_mem : ∀ {c : List Int} {k a : Nat}, a ∈ nzs k c → k ≤ a ∧ a < k + c.length ∧ 0 < c.getD (a - k) 0
  | [], k, a, hm => by cases hm
  | x :: cs, k, a, hm => by
    rw [nzs] at hm
    rcases List.mem_append.mp hm with hm | hm
    · split at hm
      · rename_i hc
        rw [List.mem_singleton.mp hm]
        exact ⟨Nat.le_refl _, by simp, by simpa using hc⟩
      · cases hm
    · obtain ⟨h1, h2, h3⟩ := nzs_mem hm
      refine ⟨by omega, by rw [List.length_cons]; omega, ?_⟩
      have e : a - k = (a - (k + 1)) + 1 := by omega
      rw [e, List.getD_cons_succ]
      exact h3
theorem nx_nzs (h : Int) : ∀ (c : List Int) (k : Nat), nxA h k c = (nzs k c).filter fun a => decide (((a : Nat) : Int) ≤ h)
  | [], k => rfl
  | x :: cs, k => by
    rw [nxA, nzs, List.filter_append, nx_nzs h cs (k + 1)]
    congr 1
    by_cases h1 : 0 < x
    · rw [if_pos h1]
      by_cases h2 : ((k : Nat) : Int) ≤ h
      · rw [if_pos ⟨h1, h2⟩]; simp [h2]
      · rw [if_neg (fun z => h2 z.2)]; simp [h2]
    · rw [if_neg h1, if_neg (fun z => h1 z.1)]; rfl
/-- those of them that can be read from a height on -/
theorem ords_ok : ∀ (n : Nat) (h : Int) (c : List Int), (ords n c).filter (okH h) = cmpl n h c
  | 0, h, c => rfl
  | n + 1, h, c => by
    rw [ords, cmpl, nx_nzs]
    generalize nzs 0 c = as
    induction as with
    | nil => rfl
    | cons a as ih =>
      rw [List.flatMap_cons, List.filter_append, ih, List.filter_cons]
      have e : ((ords n (decr c a)).map fun r => ((a : Nat) : Int) :: r).filter (okH h) = if ((a : Nat) : Int) ≤ h then (cmpl n (h + 1 - (a : Nat)) (decr c a)).map (fun r => ((a : Nat) : Int) :: r) else [] := by
        rw [← ords_ok n (h + 1 - (a : Nat)) (decr c a), List.filter_map]
        by_cases h1 : ((a : Nat) : Int) ≤ h
        · rw [if_pos h1]
          congr 1
          refine List.filter_congr fun r _ => ?_
          show okH h (((a : Nat) : Int) :: r) = _
          rw [okH, decide_eq_true h1, Bool.true_and]
        · rw [if_neg h1]
          have : (ords n (decr c a)).filter ((okH h) ∘ fun r => ((a : Nat) : Int) :: r) = [] := by
            refine List.filter_eq_nil_iff.mpr fun r _ => ?_
            show ¬ okH h (((a : Nat) : Int) :: r) = true
            rw [okH, decide_eq_false h1]; simp
          rw [this]; rfl
      rw [e]
      by_cases h1 : ((a : Nat) : Int) ≤ h
      · rw [if_pos h1, if_pos (decide_eq_true h1), List.flatMap_cons]
      · rw [if_neg h1, if_neg (by rw [decide_eq_false h1]; decide), List.nil_append]
theorem ords_len : ∀ {n : Nat} {c r : List Int}, r ∈ ords n c → r.length = n
  | 0, c, r, h => by rw [ords] at h; rw [List.mem_singleton.mp h]; rfl
  | n + 1, c, r, h => by
    rw [ords, List.mem_flatMap] at h
    obtain ⟨a, _, h⟩ := h
    obtain ⟨q, hq, rfl⟩ := List.mem_map.mp h
    rw [List.length_cons, ords_len hq]
theorem mem_le_sum : ∀ {l : List Int} {x : Int}, (∀ y ∈ l, 0 ≤ y) → x ∈ l → x ≤ l.sum
  | [], x, _, h => by cases h
  | y :: l, x, hn, h => by
    rw [List.sum_cons]
    have nn := sum_nn0 (l := l) fun z hz => hn z (List.mem_cons_of_mem _ hz)
    have y0 := hn y List.mem_cons_self
    rcases List.mem_cons.mp h with rfl | h
    · omega
    · have := mem_le_sum (fun z hz => hn z (List.mem_cons_of_mem _ hz)) h
      omega
end DL
namespace DL
open PySem PySem.Spec L2
open PyProof.Rows hiding St
end DL
namespace DL
open PySem PySem.Spec L2
open PyProof.Rows hiding St
abbrev En := List (List Int × Int)
def enc (es : En) : List (List Key × D) := es.map fun e => (keyC e.1, .int e.2)
/-- what stands at a key: counts that sum to n -/
def GoodE (n : Nat) (es : En) : Prop := (es.map (·.1)).Nodup ∧ ∀ c ∈ es.map (·.1), c.length = 6 ∧ (∀ x ∈ c, 0 ≤ x) ∧ c.sum = ((n : Nat) : Int)
theorem nodup_le {α : Type} [DecidableEq α] : ∀ {l m : List α}, l.Nodup → (∀ x ∈ l, x ∈ m) → l.length ≤ m.length
  | [], m, _, _ => Nat.zero_le _
  | x :: l, m, hn, h => by
    obtain ⟨n1, n2⟩ := List.nodup_cons.mp hn
    have hx := h x List.mem_cons_self
    have := nodup_le (l := l) (m := m.erase x) n2 fun y hy => (List.mem_erase_of_ne (fun z => n1 (by rw [← z]; exact hy))).mpr (h y (List.mem_cons_of_mem _ hy))
    rw [List.length_erase_of_mem hx] at this
    have := List.length_pos_of_mem hx
    rw [List.length_cons]
    omega
theorem comps_few : ((List.range 11).all fun n => decide ((comps 6 n).length ≤ 5000)) = true := by decide +kernel
theorem GoodE.few {n : Nat} {es : En} (g : GoodE n es) (hn : n ≤ 10) : (enc es).length ≤ 5000 := by
  have h1 := nodup_le (m := comps 6 n) g.1 fun c hc => by
    obtain ⟨a1, a2, a3⟩ := g.2 c hc
    have := comps_mem a2 a3
    rw [a1] at this
    exact this
  have h2 := of_decide_eq_true (List.all_eq_true.mp comps_few n (List.mem_range.mpr (by omega)))
  unfold enc
  rw [List.length_map] at h1 ⊢
  omega
end DL
namespace DL
open PySem PySem.Spec L2
open PyProof.Rows hiding St
/-- a node's path and its number of children, seen from one floor above -/
def preN (i : Nat) : D → D
  | .tup [.tup p, m] => .tup [.tup (.int (i : Int) :: p), m]
  | d => d
mutual
def isT : D → Bool
  | .tup ds => isTL ds
  | .fl _ => false
  | .fd _ => false
  | .str _ => false
  | .non => false
  | .bl _ => false
  | .int _ => false
  | .kl _ => false
  | .ktp _ => false
  | .ztp _ => false
  | .ty _ => false
  | .fn _ => false
  | .exc _ _ => false
  | .loc _ => false
def isTL : List D → Bool
  | [] => true
  | d :: ds => isT d && isTL ds
end
/-- a node -/
def NdOk (L : Nat) (x : D) : Prop := ∃ p m, x = .tup [.tup p, .int m] ∧ ttL p = true ∧ p.length + 1 ≤ L
theorem NdOk.mono {L M : Nat} {x : D} (h : NdOk L x) (k : L ≤ M) : NdOk M x := let ⟨p, m, e, t, l⟩ := h; ⟨p, m, e, t, Nat.le_trans l k⟩
theorem NdOk.pre {L : Nat} {x : D} (i : Nat) (h : NdOk L x) : NdOk (L + 1) (preN i x) := by
  obtain ⟨p, m, rfl, t, l⟩ := h
  exact ⟨.int (i : Int) :: p, m, rfl, by rw [ttL, t, tt]; rfl, by rw [List.length_cons]; omega⟩
theorem NdOk.tt {L : Nat} {x : D} (h : NdOk L x) : tt x = true := by
  obtain ⟨p, m, rfl, t, l⟩ := h
  simp [DL.tt, ttL, t]
end DL
namespace DL
open PySem PySem.Spec L2
open PyProof.Rows hiding St
structure Rk where
  ready : Bool
  logged : Bool
def Rk.nm (k : Rk) : Str := match k.ready, k.logged with
  | false, false => "Reel"
  | true, false => "ReadyReel"
  | false, true => "LoggedReel"
  | true, true => "LoggedReadyReel"
def Rk.pick (k : Rk) (a b c d : Fn) : Fn := match k.ready, k.logged with
  | false, false => a
  | true, false => b
  | false, true => c
  | true, true => d
end DL
namespace TZ
open PySem PyProof.Rows TS L2
/-- every slot begins a run soon enough -/
def RM (m : Nat) : Prop := ∀ (h : Int) (j : Nat), j ≤ m → ∃ n, n ≤ m + 12 ∧ runI m (SetTable.bits h) n = j
def its (m : Nat) : Nat → Nat → List Nat
  | 0, _ => []
  | n + 1, x => x :: its m n ((x * 5 + 1) % (m + 1))
theorem lcgI_front (m x : Nat) : ∀ k, lcgI m ((x * 5 + 1) % (m + 1)) k = lcgI m x (k + 1)
  | 0 => rfl
  | k + 1 => by
    show (lcgI m ((x * 5 + 1) % (m + 1)) k * 5 + 1) % (m + 1) = (lcgI m x (k + 1) * 5 + 1) % (m + 1)
    rw [lcgI_front m x k]
theorem its_mem {m : Nat} : ∀ (n x j : Nat), j ∈ its m n x → ∃ k, k < n ∧ lcgI m x k = j
  | 0, x, j, h => by cases h
  | n + 1, x, j, h => by
    rcases List.mem_cons.mp h with rfl | h
    · exact ⟨0, Nat.succ_pos _, rfl⟩
    · obtain ⟨k, hk, e⟩ := its_mem n _ j h
      exact ⟨k + 1, Nat.succ_lt_succ hk, by rw [← lcgI_front]; exact e⟩
theorem its_511 : ((List.range 512).all fun j => (its 511 512 0).contains j) = true := by decide +kernel
theorem lcgI_zero (m : Nat) : ∀ k, lcgI m 0 k = lcgN m k
  | 0 => rfl
  | k + 1 => by
    show (lcgI m 0 k * 5 + 1) % (m + 1) = (lcgN m k * 5 + 1) % (m + 1)
    rw [lcgI_zero m k]
theorem lcg_511 {j : Nat} (hj : j ≤ 511) : ∃ b, b ≤ 511 ∧ lcgN 511 b = j := by
  have h := List.all_eq_true.mp its_511 j (List.mem_range.mpr (Nat.lt_succ_of_le hj))
  obtain ⟨k, hk, e⟩ := its_mem 512 0 j (List.contains_iff_mem.mp h)
  exact ⟨k, Nat.le_of_lt_succ hk, by rw [← lcgI_zero]; exact e⟩
theorem round_511 : lcgN 511 512 = 0 := by decide +kernel
theorem lcgN_512 : ∀ k, lcgN 511 (512 + k) = lcgN 511 k
  | 0 => round_511
  | k + 1 => by
    show (lcgN 511 (512 + k) * 5 + 1) % 512 = (lcgN 511 k * 5 + 1) % 512
    rw [lcgN_512 k]
theorem rm_511 : RM 511 := fun h j hj => by
  obtain ⟨a, ha, ea⟩ := lcg_511 (runI_le 511 (SetTable.bits h) 12)
  obtain ⟨b, hb, eb⟩ := lcg_511 hj
  obtain ⟨k, hk, e⟩ : ∃ k, k ≤ 511 ∧ lcgI 511 (runI 511 (SetTable.bits h) 12) k = j := by
    rw [← ea]
    by_cases c : b < a
    · refine ⟨b + 512 - a, by omega, ?_⟩
      rw [lcgN_add, show a + (b + 512 - a) = 512 + b by omega, lcgN_512, eb]
    · refine ⟨b - a, by omega, ?_⟩
      rw [lcgN_add, show a + (b - a) = b by omega, eb]
  exact ⟨12 + k, by omega, by rw [runI_tail (bits_lt h)]; exact e⟩
/-- the masks that come -/
def MaskW (m : Nat) : Prop := MaskOk m ∨ m = 511
theorem MaskW.rm {m : Nat} (h : MaskW m) : RM m := by
  rcases h with h | rfl
  · exact fun g j hj => run_meets h g hj
  · exact rm_511
theorem MaskW.odd {m : Nat} (h : MaskW m) : m % 2 = 1 := by
  rcases h with (rfl | rfl | rfl) | rfl <;> rfl
theorem MaskW.le {m : Nat} (h : MaskW m) : m ≤ 511 := by
  rcases h with (rfl | rfl | rfl) | rfl <;> decide
theorem meets {m : Nat} (r : RM m) (h : Int) {j : Nat} (hj : j ≤ m) : ∃ k, k < 10 * SetTable.turns m ∧ way m h k = j := by
  obtain ⟨n, hn, e⟩ := r h j hj
  obtain ⟨k, hk, e2⟩ := run_nth m (SetTable.bits h) n
  refine ⟨k, by unfold SetTable.turns; omega, ?_⟩
  show (nth m (runAt m (SetTable.bits h % (m + 1)) (SetTable.bits h)) k).j = j
  rw [e2]; exact e
theorem way_in (m : Nat) (h : Int) (k : Nat) : way m h k ≤ m := by
  have hi : SetTable.bits h % (m + 1) ≤ m := Nat.le_of_lt_succ (Nat.mod_lt _ (Nat.succ_pos _))
  obtain ⟨b1, b2, _⟩ := runEnd_bd hi
  have z := nth_in (m := m) k (runAt m (SetTable.bits h % (m + 1)) (SetTable.bits h)) (by
    show SetTable.bits h % (m + 1) + (SetTable.runEnd m (SetTable.bits h % (m + 1)) - SetTable.bits h % (m + 1)) ≤ m
    omega)
  exact Nat.le_trans (Nat.le_add_right _ _) z
/-- what is asked of a table of n distinct elements -/
structure TW (t : SetTable) (n : Nat) : Prop where
  ris : Ris t.place.toList
  dm : t.dummies = #[]
  sz : t.place.size = n
  mok : MaskW t.mask
  le : ∀ j ∈ t.place.toList, j ≤ t.mask
theorem TW.first {t : SetTable} {n : Nat} (T : TW t n) (hn : n ≤ t.mask) (h : Int) : ∃ K, K < 10 * SetTable.turns t.mask ∧ way t.mask h K ∉ t.place.toList ∧ ∀ k, k < K → way t.mask h k ∈ t.place.toList := by
  obtain ⟨j, hj, hm⟩ := st_missing t.place.toList (t.mask + 1) (by rw [Array.length_toList, T.sz]; omega)
  obtain ⟨k0, hk0, e⟩ := meets T.mok.rm h (Nat.le_of_lt_succ hj)
  obtain ⟨K, k1, k2, k3⟩ := st_least (p := fun k => way t.mask h k ∉ t.place.toList) k0 (by show way t.mask h k0 ∉ _; rw [e]; exact hm)
  exact ⟨K, Nat.lt_of_le_of_lt k1 hk0, k2, fun k hk => Classical.not_not.mp (k3 k hk)⟩
theorem TW.put {t : SetTable} {n j : Nat} (T : TW t n) (hj : j ≤ t.mask) (hn : j ∉ t.place.toList) : TW (t.put j).1 (n + 1) ∧ (t.put j).1.mask = t.mask ∧ (t.put j).1.led = t.led ∧ (t.put j).1.plain = t.plain := by
  have hb : t.place[SetTable.below t.place j]? ≠ some j := fun z => hn (Array.mem_toList_iff.mpr (Array.mem_of_getElem? z))
  have hle : SetTable.below t.place j ≤ t.place.toList.length := (below_cut T.ris j).1
  have hpl := put_place t j
  refine ⟨⟨ris_insert T.ris hb, put_dm T.dm j, ?_, T.mok, fun x hx => ?_⟩, rfl, rfl, rfl⟩
  · rw [← Array.length_toList, hpl, len_ins _ hle, Array.length_toList, T.sz]
  · rw [hpl] at hx
    rcases mem_ins.mp hx with rfl | hx
    · exact hj
    · exact T.le x hx
theorem free_at {m : Nat} (r : RM m) (owner : Array (Option Nat)) (h : Int) {j : Nat} (hj : j ≤ m) (hf : oAt owner j = none) :
    ∃ j', SetTable.layClean.free m owner (SetTable.turns m) (SetTable.bits h % (m + 1)) (SetTable.bits h) = some j' ∧ oAt owner j' = none ∧ j' ≤ m := by
  obtain ⟨n, hn, e⟩ := r h j hj
  have hw : way m h (off m (SetTable.bits h % (m + 1)) (SetTable.bits h) n) = j := by
    show (nth m (runAt m (SetTable.bits h % (m + 1)) (SetTable.bits h)) _).j = j
    rw [nth_off, itL_run]; exact e
  obtain ⟨K, k1, k2, k3⟩ := st_least (p := fun k => oAt owner (way m h k) = none) (off m (SetTable.bits h % (m + 1)) (SetTable.bits h) n) (by show oAt owner (way m h _) = none; rw [hw]; exact hf)
  refine ⟨way m h K, free_spec m owner (SetTable.turns m) n _ _ K (by unfold SetTable.turns; omega) k1 (fun k hk => ?_) (by rw [show oAt owner (nth m (runAt m (SetTable.bits h % (m + 1)) (SetTable.bits h)) K).j = none from k2]; rfl), k2, way_in m h K⟩
  have q := k3 k hk
  cases z : oAt owner (nth m (runAt m (SetTable.bits h % (m + 1)) (SetTable.bits h)) k).j with
  | none => exact absurd z q
  | some _ => rfl
theorem count_set {p q : Nat → Bool} {j : Nat} (hp : p j = false) (hq : q j = true) (ho : ∀ x, x ≠ j → q x = p x) : ∀ l : List Nat, l.Nodup → j ∈ l → l.countP q = l.countP p + 1
  | [], _, h => by cases h
  | x :: l, nd, h => by
    obtain ⟨n1, n2⟩ := List.nodup_cons.mp nd
    by_cases e : x = j
    · subst e
      have same : l.countP q = l.countP p := List.countP_congr fun y hy => by rw [ho y fun z => n1 (z ▸ hy)]
      rw [List.countP_cons, List.countP_cons, hp, hq, same]; simp
    · have hm : j ∈ l := (List.mem_cons.mp h).resolve_left fun z => e z.symm
      rw [List.countP_cons, List.countP_cons, count_set hp hq ho l n2 hm, ho x e]
      omega
structure OW (m n : Nat) (owner : Array (Option Nat)) : Prop where
  sz : owner.size = m + 1
  lt : ∀ j k, j ≤ m → oAt owner j = some k → k < n
  num : (List.range (m + 1)).countP (fun j => (oAt owner j).isSome) = n
theorem OW.init (m : Nat) : OW m 0 (Array.replicate (m + 1) none) := by
  refine ⟨Array.size_replicate, fun j k hj e => ?_, ?_⟩
  · rw [oAt_init hj] at e; cases e
  · rw [List.countP_eq_zero]
    intro j hj
    rw [oAt_init (Nat.le_of_lt_succ (List.mem_range.mp hj))]; simp
theorem OW.step {m n : Nat} {owner : Array (Option Nat)} (r : RM m) (W : OW m n owner) (hn : n ≤ m) (h : Int) :
    ∃ j, SetTable.layClean.free m owner (SetTable.turns m) (SetTable.bits h % (m + 1)) (SetTable.bits h) = some j ∧ OW m (n + 1) (owner.setIfInBounds j (some n)) := by
  obtain ⟨j0, hj0, hf0⟩ : ∃ j, j ≤ m ∧ oAt owner j = none := by
    refine Classical.byContradiction fun c => ?_
    have all : (List.range (m + 1)).countP (fun j => (oAt owner j).isSome) = (List.range (m + 1)).length := List.countP_eq_length.mpr fun j hj => by
      cases z : oAt owner j with
      | some k => rfl
      | none => exact (c ⟨j, Nat.le_of_lt_succ (List.mem_range.mp hj), z⟩).elim
    rw [W.num, List.length_range] at all
    omega
  obtain ⟨j, e, hf, hj⟩ := free_at r owner h hj0 hf0
  have hjs : j < owner.size := by rw [W.sz]; omega
  refine ⟨j, e, ⟨by rw [Array.size_setIfInBounds]; exact W.sz, fun i k hi hk => ?_, ?_⟩⟩
  · by_cases c : j = i
    · subst c
      rw [oAt_set_self _ hjs] at hk
      cases hk; omega
    · rw [oAt_set_ne _ (fun z => c z.symm)] at hk
      have := W.lt i k hi hk
      omega
  · rw [count_set (p := fun j => (oAt owner j).isSome) (j := j) (by show (oAt owner j).isSome = false; rw [hf]; rfl) (by show (oAt (owner.setIfInBounds j (some n)) j).isSome = true; rw [oAt_set_self _ hjs]; rfl) (fun x hx => by show (oAt (owner.setIfInBounds j (some n)) x).isSome = (oAt owner x).isSome; rw [oAt_set_ne _ hx]) _ List.nodup_range (List.mem_range.mpr (by omega)), W.num]
theorem fold_w {m : Nat} (r : RM m) : ∀ (rest : List Int) (n : Nat) (owner : Array (Option Nat)), OW m n owner → n + rest.length ≤ m →
    ∃ owner', rest.foldl (stepF m) (some (owner, n)) = some (owner', n + rest.length) ∧ OW m (n + rest.length) owner'
  | [], n, owner, W, _ => ⟨owner, rfl, W⟩
  | h :: rest, n, owner, W, hl => by
    rw [List.length_cons] at hl
    obtain ⟨j, e, W'⟩ := W.step r (by omega) h
    obtain ⟨owner', f, W2⟩ := fold_w r rest (n + 1) _ W' (by omega)
    have ea : n + 1 + rest.length = n + (h :: rest).length := by rw [List.length_cons]; omega
    rw [ea] at f W2
    exact ⟨owner', by rw [List.foldl_cons, stepF_some e]; exact f, W2⟩
theorem relaid_w (t : SetTable) {hs : Array Int} {wanted M : Nat} (hw : SetTable.sizeAbove wanted - 1 = M) (hM : MaskW M) (hn : hs.size ≤ M) :
    ∃ t' order, t.relaid hs wanted = some (t', order) ∧ TW t' hs.size ∧ t'.mask = M ∧ t'.led = t.led ∧ t'.plain = t.plain ∧ order.size = hs.size ∧ ∀ i ∈ order.toList, i < hs.size := by
  obtain ⟨owner, f, W⟩ := fold_w hM.rm hs.toList 0 _ (OW.init M) (by rw [Array.length_toList]; omega)
  rw [Nat.zero_add, Array.length_toList] at W f
  have hr : t.relaid hs wanted = some (tabOf t M owner, ((liveOf M owner).map (·.2)).toArray) := by
    rw [relaid_eq, hw, layClean_eq, f]; rfl
  obtain ⟨r1, r2⟩ := ris_live (fun j => owner.getD j none) (List.range (M + 1)) (by
    unfold Ris
    first | exact List.pairwise_lt_range | exact List.pairwise_lt_range _)
  have hlen : (liveOf M owner).length = hs.size := by
    unfold liveOf
    rw [List.length_filterMap_eq_countP, ← W.num]
    refine List.countP_congr fun j hj => ?_
    rw [Option.isSome_map, oAt_none (by rw [W.sz]; exact List.mem_range.mp hj)]
  refine ⟨_, _, hr, ⟨r1, rfl, ?_, hM, fun x hx => Nat.le_of_lt_succ (List.mem_range.mp (r2 x hx))⟩, rfl, rfl, rfl, ?_, fun i hi => ?_⟩
  · show ((liveOf M owner).map (·.1)).toArray.size = hs.size
    rw [List.size_toArray, List.length_map, hlen]
  · rw [List.size_toArray, List.length_map, hlen]
  · obtain ⟨⟨j, k⟩, hq, rfl⟩ := List.mem_map.mp hi
    obtain ⟨b1, b2⟩ := (mem_live W.sz).1 hq
    exact W.lt j k b1 b2
end TZ
namespace TZ
open PySem PySem.Spec PyProof.Rows TS L2
section
variable {P : Program} {w : World} {A : Around} {E : Value → Shared → Prop} {s : Shared}
/-- the set at a holds just these tuples, which differ -/
structure SW (P : Program) (w : World) (h : Heap) (a : Addr) (L : List (Addr × List Int)) (es : Array (Int × Value)) (ep : Nat) (t : SetTable) : Prop where
  ob : ∃ o, h.get? a = some o ∧ o.ExactSet ∧ o.data = .set es ep t
  mem : ∀ e ∈ es.toList, ∃ p ∈ L, e = (thash P w p.2, Value.ref p.1)
  len : es.size = L.length
  tab : TW t es.size
  tup : ∀ p ∈ L, IsT P w h p.2 p.1
  plain : t.plain = true
  led : w.params.followText "set-order" = true ∨ t.led = true
  room : es.size * 5 < t.mask * 3
variable {a : Addr} {L : List (Addr × List Int)} {es : Array (Int × Value)} {ep : Nat} {t : SetTable}
theorem fits_of {n : Nat} (T : TW t n) (h : n ≤ t.mask) : t.fits n = true := by
  unfold SetTable.fits SetTable.fill
  rw [T.dm, Bool.and_eq_true, beq_iff_eq, decide_eq_true_eq]
  exact ⟨T.sz, by rw [T.sz]; exact h⟩
theorem SW.fits (R : SW P w s.heap a L es ep t) : t.fits es.size = true := fits_of R.tab (by have := R.room; omega)
theorem SW.stays (R : SW P w s.heap a L es ep t) : ¬ t.gaveWay = true := by
  unfold SetTable.gaveWay
  rw [R.tab.mok.odd]; decide
theorem SW.entry (R : SW P w s.heap a L es ep t) {i j : Nat} (h : t.place.toList[i]? = some j) : ∃ p ∈ L, es[i]? = some (thash P w p.2, Value.ref p.1) := by
  have hi : i < es.size := by
    have := (List.getElem?_eq_some_iff.mp h).1
    rw [Array.length_toList, R.tab.sz] at this
    exact this
  have e := Array.getElem?_eq_getElem hi
  obtain ⟨p, hp, q⟩ := R.mem es[i] (Array.getElem_mem_toList hi)
  exact ⟨p, hp, by rw [e, q]⟩
theorem no_dummy (m : Nat) : ∀ (n : Nat) (p : SetTable.Probe), p.dummy = none → (nth m p n).dummy = none
  | 0, _, h => h
  | n + 1, p, h => no_dummy m n (adv m p) (by unfold adv; split <;> exact h)
abbrev start (m : Nat) (h : Int) : SetTable.Probe := runAt m (SetTable.bits h % (m + 1)) (SetTable.bits h)
/-- the search for what is not there ends at the first empty slot -/
theorem search_new (R : SW P w s.heap a L es ep t) {x : Addr} {k : List Int} (hx : IsT P w s.heap k x) (hu : A.units < cLine) (hnew : ∀ p ∈ L, p.2 ≠ k) {K : Nat} (hKf : K < 10 * SetTable.turns t.mask)
    (hK : way t.mask (thash P w k) K ∉ t.place.toList) (hKb : ∀ c, c < K → way t.mask (thash P w k) c ∈ t.place.toList) {Q : SetFound → Shared → Prop} (h : Q (.free (way t.mask (thash P w k) K) false) s) :
    ∀ (f c : Nat) (stand : Option SetTable.Probe), stand.getD (t.probeStart (thash P w k)) = nth t.mask (start t.mask (thash P w k)) c → c ≤ K → K - c < f → wpAny (model P w) A (setSearchFrom a (.ref x) (thash P w k) true f stand) Q E s := by
  intro f
  induction f with
  | zero => intro c stand _ _ hf; exact absurd hf (Nat.not_lt_zero _)
  | succ f ih =>
    intro c stand hst hc hf
    obtain ⟨o, ho, hex, hd⟩ := R.ob
    have sh : ∀ q, nth t.mask (nth t.mask (start t.mask (thash P w k)) c) q = nth t.mask (start t.mask (thash P w k)) (c + q) := fun q => (nth_add t.mask c _ q).symm
    have wy : ∀ q, (nth t.mask (nth t.mask (start t.mask (thash P w k)) c) q).j = way t.mask (thash P w k) (c + q) := fun q => congrArg SetTable.Probe.j (sh q)
    have eK : c + (K - c) = K := by omega
    have spec := go_spec t R.tab.ris R.tab.dm (fun i => (es[i]?.map (·.1)).getD 0) (thash P w k) (10 * SetTable.turns t.mask) (K - c) _ (no_dummy t.mask c (start t.mask (thash P w k)) rfl) (by omega)
      (fun q hq => by rw [wy]; exact hKb (c + q) (by omega)) (by rw [wy, eK]; exact hK)
    rw [setSearchFrom_succ]
    refine wpAny_bind (wpAny_setState_of ho hd R.fits ?_)
    dsimp only
    refine wp_if_neg R.stays ?_
    try refine wpAny_bind (wpAny_pure ?_)
    rcases spec with ⟨q, i, hq, hi, hh, _, hpr⟩ | ⟨_, hpr⟩
    · -- another tuple with the same hash
      rw [wy] at hi
      have hpr' : t.probe (fun i => (es[i]?.map (·.1)).getD 0) (thash P w k) (stand.getD (t.probeStart (thash P w k))) = some (.candidate (way t.mask (thash P w k) (c + q)) i (nth t.mask (start t.mask (thash P w k)) (c + (q + 1)))) := by
        rw [hst, ← wy, ← sh]; exact hpr
      obtain ⟨p, hp, he⟩ := R.entry hi
      have hne := hnew p hp
      have hsl : t.slot (way t.mask (thash P w k) (c + q)) = .live i := slot_live R.tab.ris hi
      rw [hpr']
      dsimp only
      have rest : wpAny (model P w) A (searchRest a (.ref x) (thash P w k) true f es t (way t.mask (thash P w k) (c + q)) i (nth t.mask (start t.mask (thash P w k)) (c + (q + 1)))) Q E s := by
        unfold searchRest
        rw [he]
        dsimp only
        refine wpAny_bind (wpAny_holding (wpAny_eqBool_tuple hu (R.tup p hp) hx ?_))
        refine wpAny_bind (wpAny_setState_of ho hd R.fits ?_)
        dsimp only
        refine wp_if_neg (by simp [hne]) ?_
        try refine wpAny_bind (wpAny_pure ?_)
        rw [sameMem]
        dsimp only
        simp only [if_true, hsl, he]
        refine wpAny_bind (wpAny_isSame_ref_self (wpAny_bind (wpAny_pure ?_)))
        simp only [if_true]
        refine wp_if_neg (by simp [hne]) ?_
        exact ih (c + (q + 1)) _ rfl (by omega) (by omega)
      by_cases hl : t.led = true
      · refine wp_if_neg (by simp [hl]) ?_
        try refine wpAny_bind (wpAny_pure ?_)
        exact rest
      · refine wp_if_pos (by simp [hl]) ?_
        refine wpAny_bind (seen_tup hx (fun y hy => ?_) ?_)
        · obtain ⟨e, hm, rfl⟩ := List.mem_map.mp hy
          have hm2 : e ∈ es.toList := by
            have : e ∈ es ∧ e.1 = thash P w k := by simpa using hm
            simpa using this.1
          obtain ⟨p2, hp2, rfl⟩ := R.mem e hm2
          exact ⟨p2.2, p2.1, rfl, R.tup p2 hp2⟩
        · refine wp_if_neg (by decide) ?_
          try refine wpAny_bind (wpAny_pure ?_)
          exact rest
    · have hpr' : t.probe (fun i => (es[i]?.map (·.1)).getD 0) (thash P w k) (stand.getD (t.probeStart (thash P w k))) = some (.empty (way t.mask (thash P w k) K) none) := by
        have e2 : way t.mask (thash P w k) K = (nth t.mask (nth t.mask (start t.mask (thash P w k)) c) (K - c)).j := by rw [wy, eK]
        rw [hst, e2]; exact hpr
      rw [hpr']
      dsimp only
      exact wpAny_pure h
/-- a larger table -/
theorem relay_w {o : Obj} {n : Nat} (ho : s.heap.get? a = some o) (hex : o.ExactSet) (hd : o.data = .set es ep t) (T : TW t es.size) (hfl : es.size ≤ t.mask) (hmem : ∀ e ∈ es.toList, ∃ p ∈ L, e = (thash P w p.2, Value.ref p.1)) (hlen : es.size = L.length)
    (tup : ∀ p ∈ L, IsT P w s.heap p.2 p.1) (pl : t.plain = true) (ld : w.params.followText "set-order" = true ∨ t.led = true) {wanted M : Nat} (hw : SetTable.sizeAbove wanted - 1 = M) (hM : MaskW M) (hw2 : SetTable.sizeAbove wanted ≤ 512) (hn : es.size * 5 < M * 3) {Q : Unit → Shared → Prop}
    (hQ : ∀ h' es' ep' t', Heap.SameBut a s.heap h' → SW P w h' a L es' ep' t' → Q () { s with heap := h' }) : wpAny (model P w) A (setRelay a wanted) Q E s := by
  obtain ⟨t', order, e, T', em, el, ep', eo, eb⟩ := relaid_w t (hs := es.map (·.1)) (wanted := wanted) hw hM (by rw [Array.size_map]; omega)
  rw [Array.size_map] at T' eo eb
  have hs2 : (order.filterMap (es[·]?)).size = es.size := by
    rw [← Array.length_toList, Array.toList_filterMap, List.length_filterMap_eq_countP, ← eo, ← Array.length_toList]
    refine List.countP_eq_length.mpr fun i hi => ?_
    rw [Array.getElem?_eq_getElem (eb i hi)]; rfl
  rw [setRelay_eq]
  refine wpAny_bind (wpAny_setState_of ho hd (fits_of T hfl) ?_)
  dsimp only
  refine wp_if_neg (by rw [sizeLine_eq]; omega) ?_
  try refine wpAny_bind (wpAny_pure ?_)
  rw [e]
  dsimp only
  refine wpAny_bind ?_
  refine wp_if_neg (by rw [hs2]; simp) ?_
  try refine wpAny_bind (wpAny_pure ?_)
  refine wpAny_pure ?_
  dsimp only
  refine wpAny_storeSet_of ho hd ?_ (by rw [hs2, sizeLine_eq]; have := hM.le; omega)
  have sb : Heap.SameBut a s.heap (s.heap.update a (Obj.putSet (order.filterMap (es[·]?)) t')) := Heap.SameBut.update ..
  refine hQ _ (order.filterMap (es[·]?)) (ep + 1) t' sb ⟨⟨_, store_at ho hd, ⟨hex.1, hex.2.1, hex.2.2⟩, rfl⟩, fun y hy => ?_, by rw [hs2]; exact hlen, by rw [hs2]; exact T', fun p hp => isT_same (tup p hp) ho hd sb, by rw [ep']; exact pl, by rw [el]; exact ld, by rw [hs2, em]; exact hn⟩
  rw [Array.toList_filterMap] at hy
  obtain ⟨i, _, hi⟩ := List.mem_filterMap.mp hy
  exact hmem y (Array.mem_toList_iff.mpr (Array.mem_of_getElem? hi))
theorem size_77 : SetTable.sizeAbove (SetTable.grown 77) = 512 := by decide +kernel
/-- it gets one more -/
theorem add_new (R : SW P w s.heap a L es ep t) {x : Addr} {k : List Int} (hx : IsT P w s.heap k x) (hu : A.units < cLine) (hnew : ∀ p ∈ L, p.2 ≠ k) (hfew : L.length + 1 ≤ 300) {Q : Bool → Shared → Prop}
    (hQ : ∀ b h' es' ep' t', Heap.SameBut a s.heap h' → SW P w h' a (L ++ [(x, k)]) es' ep' t' → Q b { s with heap := h' }) :
    wpAny (model P w) A (setAddHashed a (.ref x) (thash P w k)) Q E s := by
  obtain ⟨o, ho, hex, hd⟩ := R.ob
  have hroom := R.room
  have hlen := R.len
  have hmask := R.tab.mok.le
  obtain ⟨K, hKf, hK, hKb⟩ := R.tab.first (by omega) (thash P w k)
  have hbig : K < 100000 := by
    have : 10 * SetTable.turns t.mask ≤ 10 * 526 := by unfold SetTable.turns; omega
    omega
  unfold setAddHashed
  refine wpAny_holding ?_
  rw [show (100000 : Nat) = 99999 + 1 from rfl, setAddHashedIn_succ]
  refine wpAny_bind (wpAny_setState_of ho hd R.fits ?_)
  dsimp only
  refine wp_if_neg (by simp [byScan, Value.scannable]) ?_
  try refine wpAny_bind (wpAny_pure ?_)
  unfold setSearch
  refine wpAny_bind (search_new R hx hu hnew hKf hK hKb ?_ 100000 0 none rfl (Nat.zero_le _) (by omega))
  dsimp only
  refine wpAny_bind (wpAny_setState_of ho hd R.fits ?_)
  dsimp only
  obtain ⟨T1, q1, q2, q3⟩ := R.tab.put (way_in t.mask (thash P w k) K) hK
  have hb : SetTable.below t.place (way t.mask (thash P w k) K) ≤ es.toList.length := by
    have := (below_cut R.tab.ris (way t.mask (thash P w k) K)).1
    rw [R.tab.sz] at this
    rw [Array.length_toList]; exact this
  have hp2 : (t.put (way t.mask (thash P w k) K)).2 = SetTable.below t.place (way t.mask (thash P w k) K) := rfl
  rw [← hp2] at hb
  generalize t.put (way t.mask (thash P w k) K) = pt at T1 q1 q2 q3 hb ⊢
  obtain ⟨t1, p⟩ := pt
  dsimp only at T1 q1 q2 q3 hb ⊢
  have pl1 : t1.plain = true := by rw [q3]; exact R.plain
  first
    | (refine wpAny_bind ?_; refine wp_if_pos pl1 ?_; refine hashBy_tup hx ?_)
    | refine wp_if_pos pl1 (wpAny_bind (hashBy_tup hx ?_))
  simp only [if_true]
  have htl := SetTable.toList_insertAt es p (thash P w k, Value.ref x)
  have hes : (SetTable.insertAt es p (thash P w k, Value.ref x)).size = es.size + 1 := by
    rw [← Array.length_toList, htl, len_ins _ hb, Array.length_toList]
  have hmm : ∀ e ∈ (SetTable.insertAt es p (thash P w k, Value.ref x)).toList, ∃ r ∈ L ++ [(x, k)], e = (thash P w r.2, Value.ref r.1) := fun e he => by
    rw [htl] at he
    rcases mem_ins.mp he with rfl | he
    · exact ⟨(x, k), List.mem_append_right _ (List.mem_singleton.mpr rfl), rfl⟩
    · obtain ⟨r, hr, q⟩ := R.mem e he
      exact ⟨r, List.mem_append_left _ hr, q⟩
  generalize SetTable.insertAt es p (thash P w k, Value.ref x) = es1 at hes hmm ⊢
  refine wpAny_bind (wpAny_storeSet_of ho hd ?_ (by rw [hes, sizeLine_eq]; omega))
  have sb : Heap.SameBut a s.heap (s.heap.update a (Obj.putSet es1 t1)) := Heap.SameBut.update ..
  have ho1 := store_at (es' := es1) (t' := t1) ho hd
  generalize s.heap.update a (Obj.putSet es1 t1) = h1 at sb ho1 ⊢
  have hll : es1.size = (L ++ [(x, k)]).length := by rw [hes, List.length_append, List.length_singleton, hlen]
  have T2 : TW t1 es1.size := by rw [hes]; exact T1
  have tup1 : ∀ r ∈ L ++ [(x, k)], IsT P w h1 r.2 r.1 := fun r hr => by
    rcases List.mem_append.mp hr with hr | hr
    · exact isT_same (R.tup r hr) ho hd sb
    · rw [List.mem_singleton.mp hr]; exact isT_same hx ho hd sb
  have ld1 : w.params.followText "set-order" = true ∨ t1.led = true := by rw [q2]; exact R.led
  have ffull : t1.fill = es1.size := by unfold SetTable.fill; rw [T2.dm, T2.sz]; rfl
  by_cases hf : t1.tooFull = true
  · have hfull : es1.size * 5 ≥ t1.mask * 3 := by
      have z := hf
      unfold SetTable.tooFull at z
      rw [decide_eq_true_eq, ffull] at z
      exact z
    first
      | (refine wpAny_bind ?_; refine wp_if_pos (by simp [hf]) ?_)
      | (refine wp_if_pos (by simp [hf]) ?_; refine wpAny_bind ?_)
    have go : ∀ M, SetTable.sizeAbove (SetTable.grown (es.size + 1)) - 1 = M → MaskW M → SetTable.sizeAbove (SetTable.grown (es.size + 1)) ≤ 512 → (es.size + 1) * 5 < M * 3 →
        wpAny (model P w) A (setRelay a (SetTable.grown (es.size + 1))) (fun _ s' => wpAny (model P w) A (pure true) Q E s') E { s with heap := h1 } := fun M z1 z2 z3 z4 => by
      refine relay_w (s := { s with heap := h1 }) (n := 0) ho1 ⟨hex.1, hex.2.1, hex.2.2⟩ rfl T2 (by rw [hes, q1]; omega) hmm hll tup1 pl1 ld1 z1 z2 z3 (by rw [hes]; exact z4) fun h2 es2 ep2 t2 sb2 R2 => ?_
      exact wpAny_pure (hQ true h2 es2 ep2 t2 (sb.trans sb2) R2)
    have cs : (t.mask = 7 ∧ es.size = 4) ∨ (t.mask = 31 ∧ es.size = 18) ∨ (t.mask = 127 ∧ es.size = 76) := by
      rw [hes, q1] at hfull
      rcases R.tab.mok with (e | e | e) | e <;> rw [e] at hfull hroom
      · exact .inl ⟨e, by omega⟩
      · exact .inr (.inl ⟨e, by omega⟩)
      · exact .inr (.inr ⟨e, by omega⟩)
      · omega
    rcases cs with ⟨_, e2⟩ | ⟨_, e2⟩ | ⟨_, e2⟩
    · exact go 31 (by rw [e2, size_20]) (.inl (.inr (.inl rfl))) (by rw [e2, size_20]; decide) (by omega)
    · exact go 127 (by rw [e2, size_76]) (.inl (.inr (.inr rfl))) (by rw [e2, size_76]; decide) (by omega)
    · exact go 511 (by rw [e2, size_77]) (.inr rfl) (by rw [e2, size_77]; decide) (by omega)
  · first
      | refine wp_if_neg (by simp [hf]) ?_
      | (refine wpAny_bind ?_; refine wp_if_neg (by simp [hf]) ?_; refine wpAny_pure ?_)
    refine wpAny_pure (hQ true h1 es1 (ep + 1) t1 sb ⟨⟨_, ho1, ⟨hex.1, hex.2.1, hex.2.2⟩, rfl⟩, hmm, hll, T2, tup1, pl1, ld1, ?_⟩)
    have z := hf
    unfold SetTable.tooFull at z
    rw [decide_eq_true_eq, ffull] at z
    omega
end
end TZ
namespace TZ
open PySem PySem.Spec PyProof.Rows TS L2
section
variable {P : Program} {w : World} {A : Around} {E : Value → Shared → Prop} {s : Shared}
theorem SW.moved {h h' : Heap} {a : Addr} {L : List (Addr × List Int)} {es : Array (Int × Value)} {ep : Nat} {t : SetTable} (R : SW P w h a L es ep t) (ha : ∀ o, h.get? a = some o → h'.get? a = some o) (ht : ∀ p ∈ L, IsT P w h' p.2 p.1) : SW P w h' a L es ep t := by
  obtain ⟨o, ho, r⟩ := R.ob
  exact ⟨⟨o, ha o ho, r⟩, R.mem, R.len, R.tab, ht, R.plain, R.led, R.room⟩
theorem sw_empty {h : Heap} {a : Addr} (ho : h.get? a = some { cls := .type "set", dict := none, data := .set #[] 0 (.fresh 0 0 (!w.params.followText "set-order")) }) : SW P w h a [] #[] 0 (.fresh 0 0 (!w.params.followText "set-order")) := by
  refine ⟨⟨_, ho, ⟨rfl, rfl, rfl⟩, rfl⟩, fun e he => by simp at he, rfl, ⟨List.Pairwise.nil, rfl, rfl, .inl (.inl rfl), fun j hj => by simp [SetTable.fresh] at hj⟩, fun p hp => by simp at hp, rfl, ?_, ?_⟩
  · show _ ∨ (!w.params.followText "set-order") = true
    cases w.params.followText "set-order"
    · exact .inr rfl
    · exact .inl rfl
  · show 0 * 5 < 7 * 3
    decide
theorem new_at {ks : List (Addr × List Int)} {i : Nat} {x : Addr × List Int} (nd : (ks.map (·.2)).Nodup) (h : ks[i]? = some x) : ∀ p ∈ ks.take i, p.2 ≠ x.2 := fun p hp e => by
  obtain ⟨j, hj, rfl⟩ := List.mem_iff_getElem.mp hp
  rw [List.length_take] at hj
  rw [List.getElem_take] at e
  have hi := (List.getElem?_eq_some_iff.mp h).1
  have hx := (List.getElem?_eq_some_iff.mp h).2
  rw [← hx] at e
  have z := List.pairwise_iff_getElem.mp nd j i (by rw [List.length_map]; omega) (by rw [List.length_map]; exact hi) (by omega)
  rw [List.getElem_map, List.getElem_map] at z
  exact z e
/-- the loop that fills the set -/
theorem fill_new {I : Addr} {fp wr : List Addr} {G : Array GenState → Array GenState → Prop} {n : Nat} {Pv : Nat → Value → Prop} {St : Nat → Shared → Prop} {R : Result → Shared → Prop}
    (W : WalksS P w A.in1 I fp wr G n Pv St) (S : Addr) (hSf : S ∉ fp) (ks : List (Addr × List Int)) (hn : n = ks.length) (hfew : ks.length ≤ 300) (nd : (ks.map (·.2)).Nodup) (hval : ∀ i v, Pv i v → ∃ p, ks[i]? = some p ∧ v = .ref p.1)
    (h0 : Heap) (hk : ∀ p ∈ ks, IsT P w h0 p.2 p.1) (hS0 : h0.get? S = none) (hw0 : ∀ b ∈ wr, h0.get? b = none) (hu : A.in1.units < cLine) :
    ∀ (i : Nat) (s : Shared), i ≤ n → St i s → (∀ b o, h0.get? b = some o → s.heap.get? b = some o) → (∃ es ep t, SW P w s.heap S (ks.take i) es ep t) →
      (∀ s' es ep t, Moved (S :: wr) G s s' → SW P w s'.heap S ks es ep t → (∀ b o, h0.get? b = some o → s'.heap.get? b = some o) → R (.ok (.ret .none)) s') →
      codeAny (model P w) A (.builtin "set.update.loop" ⟨[.ref S, .ref I], []⟩) R s := by
  have hSw : S ∉ wr := fun h => hSf (W.sub _ h)
  have wider : ∀ b ∈ wr, b ∈ S :: wr := fun b hb => List.mem_cons_of_mem _ hb
  have old : ∀ {s s' : Shared}, Moved wr G s s' → (∀ b o, h0.get? b = some o → s.heap.get? b = some o) → ∀ b o, h0.get? b = some o → s'.heap.get? b = some o := fun hm hkp b o e =>
    hm.heap b o (fun hb => by rw [hw0 b hb] at e; cases e) (hkp b o e)
  have key : ∀ (d i : Nat) (s : Shared), i + d = n → St i s → (∀ b o, h0.get? b = some o → s.heap.get? b = some o) → (∃ es ep t, SW P w s.heap S (ks.take i) es ep t) →
      (∀ s' es ep t, Moved (S :: wr) G s s' → SW P w s'.heap S ks es ep t → (∀ b o, h0.get? b = some o → s'.heap.get? b = some o) → R (.ok (.ret .none)) s') →
      codeAny (model P w) A (.builtin "set.update.loop" ⟨[.ref S, .ref I], []⟩) R s := by
    intro d
    induction d with
    | zero =>
      intro i s hi hst hkp ⟨es, ep, t, hS⟩ fin
      obtain rfl : i = n := by omega
      refine codeAny_builtin F.entry_set_update_loop ?_
      rw [Around.under_plainId F.plain_set_update_loop _]
      show wpAny _ A.in1 (pyNext (.ref I) >>= _) _ _ s
      refine wpAny_bind (W.done s _ _ hst fun s' hm => ?_)
      show wpAny _ A.in1 (ret Value.none) _ _ s'
      rw [hn, List.take_length] at hS
      exact wpAny_pure (fin s' es ep t (hm.mono wider) (hS.moved (fun o e => hm.heap S o hSw e) fun p hp => isT_keep (hk p hp) (old hm hkp)) (old hm hkp))
    | succ d ih =>
      intro i s hi hst hkp ⟨es, ep, t, hS⟩ fin
      refine codeAny_builtin F.entry_set_update_loop ?_
      rw [Around.under_plainId F.plain_set_update_loop _]
      show wpAny _ A.in1 (pyNext (.ref I) >>= _) _ _ s
      refine wpAny_bind (W.item i s _ _ (by omega) hst fun v s' hP hst' hm => ?_)
      obtain ⟨p, hp, rfl⟩ := hval i v hP
      have kp := old hm hkp
      have hS' : SW P w s'.heap S (ks.take i) es ep t := hS.moved (fun o e => hm.heap S o hSw e) fun q hq => isT_keep (hk q (List.mem_of_mem_take hq)) kp
      have hx : IsT P w s'.heap p.2 p.1 := isT_keep (hk p (List.mem_of_getElem? hp)) kp
      show wpAny _ A.in1 (holding [Value.ref p.1] (setAdd S (.ref p.1)) >>= _) _ _ s'
      refine wpAny_bind (wpAny_holding ?_)
      unfold setAdd
      refine wpAny_holding ?_
      refine wpAny_bind (wpAny_pyHash_tuple hu hx ?_)
      refine add_new (s := { s' with toks := s'.toks + (p.2.length + 1) }) hS' hx hu (new_at nd hp) (by rw [List.length_take]; omega) fun b h' es' ep' t' hsb hS2 => ?_
      have e2 : ks.take i ++ [(p.1, p.2)] = ks.take (i + 1) := (take_next hp).symm
      rw [e2] at hS2
      have kp2 : ∀ b o, h0.get? b = some o → h'.get? b = some o := fun b o e => (hsb.2 b (fun z => by rw [z, hS0] at e; cases e)).trans (kp b o e)
      refine wpAny_pure ⟨plainId_quiet F.plain_set_update_loop _, ih (i + 1) _ (by omega) (W.frame _ s' _ _ hst' (Nat.le_add_right _ _) fun b hb o e => ?_) kp2 ⟨es', ep', t', hS2⟩ fun s'' es2 ep2 t2 hm2 hS3 kp3 => ?_⟩
      · rw [hsb.2 b (fun h : b = S => hSf (by rw [← h]; exact hb))]; exact e
      · refine fin s'' es2 ep2 t2 (Moved.trans W.gtrans ((hm.mono wider).then_heap (Nat.le_add_right _ _) fun b o hb e => ?_) hm2) hS3 kp3
        rw [hsb.2 b (fun h : b = S => hb (by rw [h]; exact List.mem_cons_self))]; exact e
  exact fun i s hi => key (n - i) i s (by omega)
/-- the new set of a list -/
abbrev newSet (w : World) : Obj := { cls := .type "set", dict := none, data := .set #[] 0 (.fresh 0 0 (!w.params.followText "set-order")) }
theorem none_above {h : Heap} {b : Addr} (hb : h.objs.size ≤ b) : h.get? b = none := by
  cases q : h.get? b with
  | none => rfl
  | some o => exact absurd (Nat.lt_of_lt_of_le (Heap.lt_size q) hb) (Nat.lt_irrefl _)
/-- set(xs), xs a list of at most 300 distinct tuples of ints -/
theorem call_set_new {l : Addr} {items : Array Value} (ks : List (Addr × List Int)) {Q : Value → Shared → Prop} (hh : A.handled = none) (hl : s.heap.IsList l items) (hit : items.toList = ks.map fun p => Value.ref p.1)
    (hk : ∀ p ∈ ks, IsT P w s.heap p.2 p.1) (hfew : ks.length ≤ 300) (nd : (ks.map (·.2)).Nodup) (hu : A.units + 3 < cLine)
    (h : ∀ (h' : Heap) (tk : Nat) es ep t, SW P w h' s.heap.objs.size ks es ep t → (∀ b o, s.heap.get? b = some o → h'.get? b = some o) → Q (.ref s.heap.objs.size) { s with heap := h', toks := tk }) :
    wpAny (model P w) A (call (.type "set") [.ref l]) Q E s := by
  have hisz : items.size = ks.length := by
    have q := congrArg List.length hit
    rwa [Array.length_toList, List.length_map] at q
  have ft := F.called_set
  obtain ⟨c, tl, hmro⟩ := ft.mro
  have hmade := ft.made
  have hsub := ft.sub
  have h1 := ft.notType
  have h2 := ft.canCreate
  have hct := F.typeCall_set_1 (.ref l)
  have hS : (s.heap.push (newSet w)).get? s.heap.objs.size = some (newSet w) := Heap.get?_push_size _ rfl
  have hT : Shared.TypeIs { s with heap := s.heap.push (newSet w) } (.ref s.heap.objs.size) "set" := ⟨_, hS, rfl⟩
  have hli := ft.init.lookup
  have hbi := ft.init.bind (.ref s.heap.objs.size)
  refine wpAny_call (codeAny_of_tree ?_)
  show wpAny _ _ (callAny (.type "set") _) _ _ _
  refine wpAny_pure ⟨Code.quiet_builtin _ (by decide +kernel), codeAny_builtin F.entry_type_call ?_⟩
  rw [Around.under_plain (weight_type_call_type "set" [.ref l] []) rfl]
  repeat (any_goals (first | assumption | wp_step))
  refine codeAny_mono (code_set_led1 (.ref l) (E := E) (Q₁ := fun obj s₁ => obj = .ref s.heap.objs.size ∧ s₁ = { s with heap := s.heap.push (newSet w) }) ⟨rfl, rfl⟩) fun r s₁ hr => ?_
  cases r with
  | error e => exact hr
  | ok fl =>
    cases fl with
    | next => exact hr.elim
    | brk => exact hr.elim
    | cont => exact hr.elim
    | ret obj =>
      obtain ⟨rfl, rfl⟩ := hr
      repeat (any_goals (first | assumption | wp_step))
      refine codeAny_mono (codeAny_call_builtin (R := wants (fun r s₂ => r = .none ∧ ∃ h' tk es ep t, s₂ = { s with heap := h', toks := tk } ∧ SW P w h' s.heap.objs.size ks es ep t ∧ (∀ b o, s.heap.get? b = some o → h'.get? b = some o)) E) ft.init.plain F.entry_set_init (check_set_init_1 hT ?_)) fun r₂ s₂ hr₂ => ?_
      · obtain ⟨⟨ocls, odict, odata, oslots⟩, hol, hcl, nl, hdl⟩ := hl
        simp only at hcl hdl
        subst hcl; subst hdl
        have hol' : (s.heap.push (newSet w)).get? l = some { cls := .type "list", dict := odict, data := .seq items nl, slots := oslots } := Heap.get?_push_of_some _ hol
        have hl1 : (s.heap.push (newSet w)).IsList l items := ⟨_, hol', rfl, nl, rfl⟩
        have hsls := F.sub_list_set
        have hslf := F.sub_list_frozenset
        have hne : (Value.type "list" == Value.type "dict") = false := by decide
        have hlS : l < s.heap.objs.size := Heap.lt_size hol
        have hh3 : A.in1.in1.in1.handled = none := by simp [hh]
        have hz : (s.heap.push (newSet w)).objs.size = s.heap.objs.size + 1 := Heap.size_push ..
        unfold Builtin.«set.__init__» noKeywords Builtin.Frozenset.updateFrom
        generalize hPI : pyIter = PI
        wp_walk
        subst hPI
        refine wpAny_pyIter_list hl1 (wpAny_bind (wpAny_runValue ?_))
        have hneI : l ≠ (s.heap.push (newSet w)).objs.size := by rw [hz]; exact Nat.ne_of_lt (Nat.lt_succ_of_lt hlS)
        refine fill_new ((Walks.list hh3 _ l hneI items).toS) s.heap.objs.size (by
            rw [hz]
            simp only [List.mem_cons, List.not_mem_nil, or_false, not_or]
            exact ⟨Nat.ne_of_lt (Nat.lt_succ_self _), Nat.ne_of_gt hlS⟩) ks hisz hfew nd (fun i v hv => ?_) s.heap hk (none_above (Nat.le_refl _)) (fun b hb => none_above (by
            rw [List.mem_singleton.mp hb, hz]; exact Nat.le_succ _)) hu 0 _ (Nat.zero_le _)
          ⟨⟨_, Heap.get?_push_size _ rfl, rfl, rfl⟩, hl1.push _⟩ (fun b o e => Heap.get?_push_of_some _ (Heap.get?_push_of_some _ e)) ⟨#[], 0, _, sw_empty (Heap.get?_push_of_some _ hS)⟩ fun s' es ep t hm hS' hkp => ?_
        · have q : items.toList[i]? = some v := by rw [Array.getElem?_toList]; exact hv
          rw [hit, List.getElem?_map] at q
          obtain ⟨p, hp, e⟩ := Option.map_eq_some_iff.mp q
          exact ⟨p, hp, e.symm⟩
        · obtain ⟨h', g2, d', tk', os'⟩ := s'
          have eg : g2 = s.gens := hm.gens
          have ed : d' = s.drawn := hm.drawn
          have eo : os' = s.os := hm.os
          subst eg; subst ed; subst eo
          refine wpAny_pure ?_
          show wpAny _ _ (ret Value.none) _ _ _
          exact wpAny_pure ⟨rfl, h', tk', es, ep, t, rfl, hS', hkp⟩
      · cases r₂ with
        | error e => exact hr₂
        | ok fl₂ =>
          cases fl₂ with
          | next => exact hr₂.elim
          | brk => exact hr₂.elim
          | cont => exact hr₂.elim
          | ret r =>
            obtain ⟨rfl, h', tk, es, ep, t, rfl, hS', hk'⟩ := hr₂
            repeat (any_goals (first | assumption | wp_step))
            exact h _ _ _ _ _ hS' hk'
end
end TZ
namespace DL
open PySem PySem.Spec L2
open PyProof.Rows hiding St
section
variable {X : Cx}
def tLenSetW (K : PySem.W.Frag) (ta : TE) : TE := fun σ H Q => ta σ H fun x H1 => ∃ (l : Addr) (ks : List (Addr × List Int)), x = V.ref l ∧ SqL K H1 l (ks.map fun p => V.ref p.1) ∧ (∀ p ∈ ks, SqT K H1 p.1 (p.2.map V.int)) ∧ ks.length ≤ 300 ∧ (ks.map (·.2)).Nodup ∧ Q (.int ks.length) H1
theorem pe_lenSetW {a : Expr} {ta : TE} {p p2 q pos : Pos} (hc : X.calm = true) (hu : X.A.units + 64 < cLine) (hg : Gl X "len") (hm : X.mg "len" = none) (hg2 : Gl X "set") (hm2 : X.mg "set" = none) (ha : PE X a ta)
    (na : starEach [a] X.env = (false, eval a X.env) :: starEach [] X.env := by rfl) : PE X (.Call (.Name "len" p) [.Call (.Name "set" p2) [a] [] q] [] pos) (tLenSetW X.K ta) := by
  refine ⟨fun pins s σ H Q I h => ?_⟩
  refine Call_ (ld_blt I hg hm PySem.boot_len ?_)
  refine PyProof.Rows.callWith_builtin1 (PyProof.Rows.args_cons ?_ rfl) rfl rfl
  refine Call_ (ld_blt I hg2 hm2 PyProof.Rows.boot_set ?_)
  refine PyProof.Rows.callWith_type1 (PyProof.Rows.args_cons (thn (ha.run pins s σ H _ I h) fun v s1 ⟨x, H1, I1, r1, q1⟩ => PyProof.Rows.args_nil ?_) na) na rfl
  obtain ⟨l, ks, rfl, hq, hk, h1, hnd, q1⟩ := q1
  cases r1
  obtain ⟨its, rv, pl, hz⟩ := I1.list hq
  refine TZ.call_set_new (P := X.prog) (w := X.w) ks (I1.ok.hd hc) pl.isList (by simpa using refs_of_vals rv) (fun p hp => I1.isT (hk p hp)) h1 hnd (by omega) fun h' tk es ep t R kp => ?_
  refine PyProof.Rows.args_nil ?_
  obtain ⟨o, ho, hex, hd⟩ := R.ob
  have hn := R.len
  have I2 : Inv X pins σ H1 { s1 with heap := h', toks := tk } := I1.kept kp
  exact call_len_set ho hex hd (TZ.SW.fits (s := { s1 with heap := h', toks := tk }) R) (by rw [hn]; omega) ⟨.int ks.length, H1, I2.tok _, ⟨_, by rw [hn]⟩, q1⟩
end
/-- the rows of a list of tuples of ints -/
def rowT : D → Option (List Int)
  | .tup ds => intsOf ds
  | _ => none
def rowsT : List D → Option (List (List Int))
  | [] => some []
  | d :: ds => match rowT d, rowsT ds with
    | some r, some rs => some (r :: rs)
    | _, _ => none
theorem intsOf_eq : ∀ {ds : List D} {r : List Int}, intsOf ds = some r → ds = r.map D.int
  | [], r, h => by cases h; rfl
  | d :: ds, r, h => by
    cases d with
    | int i =>
      unfold intsOf at h
      cases q : intsOf ds with
      | none => rw [q] at h; simp at h
      | some s =>
        rw [q] at h
        simp at h
        subst h
        rw [List.map_cons, ← intsOf_eq q]
    | _ => simp [intsOf] at h
theorem RepL.rowsT {K : PySem.W.Frag} {ι : List Addr} {H : Hp} : ∀ {ds : List D} {rs : List (List Int)} {vs : List V}, DL.rowsT ds = some rs → RepL K ι H ds vs → ∃ ks : List (Addr × List Int), vs = ks.map (fun p => V.ref p.1) ∧ ks.map (·.2) = rs ∧ ∀ p ∈ ks, SqT K H p.1 (p.2.map V.int)
  | [], rs, vs, e, h => by
    cases e
    rw [RepL] at h
    subst h
    exact ⟨[], rfl, rfl, fun p hp => by cases hp⟩
  | d :: ds, rs, vs, e, h => by
    unfold DL.rowsT at e
    cases h1 : rowT d with
    | none => rw [h1] at e; simp at e
    | some r =>
      cases h2 : DL.rowsT ds with
      | none => rw [h1, h2] at e; simp at e
      | some rs' =>
        rw [h1, h2] at e
        cases e
        rw [RepL] at h
        obtain ⟨v, w, rfl, a, b⟩ := h
        obtain ⟨ks, rfl, rfl, h3⟩ := RepL.rowsT h2 b
        cases d with
        | tup xs =>
          have ex := intsOf_eq (show intsOf xs = some r from h1)
          obtain ⟨p, us, rfl, q, rl⟩ := tup_at a
          rw [ex] at rl
          rw [ints_vals rl (intsOf_map r)] at q
          exact ⟨(p, r) :: ks, rfl, rfl, fun y hy => by
            rcases List.mem_cons.mp hy with rfl | hy
            · exact q
            · exact h3 y hy⟩
        | _ => simp [rowT] at h1
open Classical in
noncomputable def dLenSet : D → Sto → R D
  | .fl ds, S => (match rowsT ds with
    | some rs => if rs.length ≤ 300 ∧ rs.Nodup then .ok (.int rs.length) S else .stuck
    | none => .stuck)
  | _, _ => .stuck
noncomputable def eLenSet (f : Ev → Sto → R D) : Ev → Sto → R D := fun ρ S => (f ρ S).bind dLenSet
theorem de_lenSet {X : Cx} {W : WX} {e : Expr} {p p2 q pos : Pos} {f : Ev → Sto → R D} (hc : X.calm = true) (hu : X.A.units + 64 < cLine) (hm : X.mg "len" = none) (hm2 : X.mg "set" = none) (he : DE X W e f) (hg : Gl X "len" := by rfl) (hg2 : Gl X "set" := by rfl)
    (na : starEach [e] X.env = (false, eval e X.env) :: starEach [] X.env := by rfl) : DE X W (.Call (.Name "len" p) [.Call (.Name "set" p2) [e] [] q] [] pos) (eLenSet f) := by
  refine PE.imp (pe_lenSetW hc hu hg hm hg2 hm2 he na) fun σ H Q ⟨ι, ρ, S, hE, hS, h⟩ => ⟨ι, ρ, S, hE, hS, (Post.bind h).mono fun d S1 ι1 H1 G1 s1 h1 v rv => ?_⟩
  cases d with
  | fl ds =>
    unfold dLenSet at h1
    dsimp only at h1
    cases hr : rowsT ds with
    | none => rw [hr] at h1; exact h1.elim
    | some rs =>
      rw [hr] at h1
      dsimp only at h1
      split at h1
      · rename_i hh
        obtain ⟨a, vs, rfl, hq, rl⟩ := lst_at (ds := ds) s1 rv rfl
        obtain ⟨ks, rfl, ek, h3⟩ := RepL.rowsT hr rl
        have lk : ks.length = rs.length := by rw [← ek, List.length_map]
        exact ⟨a, ks, rfl, SqL.of hq, h3, by omega, by rw [ek]; exact hh.2, by rw [lk]; exact h1.here s1 _ int_rep⟩
      · exact h1.elim
  | _ => exact h1.elim
end DL
namespace DL
open PySem L2
open Sem (wp)
open PyProof.Rows (AllBare)
/-- over whose generator the code delegates -/
def yfIt : Code → Option Addr
  | .builtin id args => if id = "proto.yield_from" then (match args.pos with
    | .ref a :: _ => some a
    | _ => none) else none
  | _ => none
/-- the same tree, no live lists, a delegation over a generator sleeps quietly, marked by its live list -/
def unq (c : Code) : Sem PySem.Fin → Sem PySem.Fin
  | .pure f => .pure f
  | .raise e => .raise e
  | .unsupported x => .unsupported x
  | .finish e => .finish e
  | .rule t k => .rule t fun x => unq c (k x)
  | .at p k => .at p fun x => unq c (k x)
  | .load a q k => .load a q fun x => unq c (k x)
  | .update a q g k => .update a q g fun x => unq c (k x)
  | .alloc o k => .alloc o fun x => unq c (k x)
  | .register a k => .register a fun x => unq c (k x)
  | .loadIfAlive a k => .loadIfAlive a fun x => unq c (k x)
  | .point _ k => .point [] fun x => unq c (k x)
  | .fresh k => .fresh fun x => unq c (k x)
  | .ask k => .ask fun x => unq c (k x)
  | .choose s n k => .choose s n fun x => unq c (k x)
  | .os q _ k => .os q [] fun x => unq c (k x)
  | .call d h g _ k => .call d h g [] fun x => unq c (k x)
  | .handled o k => .handled o fun x => unq c (k x)
  | .genState g k => .genState g fun x => unq c (k x)
  | .newGen d k => .newGen d fun x => unq c (k x)
  | .resume g r _ k => .resume g r [] fun x => unq c (k x)
  | .yield v g _ k => match g with
    | false => .yield v false [] fun x => unq c (k x)
    | true => match yfIt c with
      | none => .yield v true [] fun x => unq c (k x)
      | some a => .load a none fun o => match o.genNumber? with
        | some _ => .yield v false [.none] fun x => unq c (k x)
        | none => .unsupported ""
  | .stack k => .stack fun x => unq c (k x)
  | .fork d k => .fork d fun x => unq c (k x)
  | .thread k => .thread fun x => unq c (k x)
  | .await a t d _ k => .await a t d [] fun x => unq c (k x)
def unF : Frame → Frame
  | .ret k h g _ c p _ => .ret (fun r => unq c (k r)) h g [] c p []
  | .gen g k _ c p => .gen g (fun r => unq c (k r)) [] c p
/-- does it sleep in a delegation over a generator, with nothing guarded around it -/
def isU (c : Code) (fs : List Frame) (cl : Bool) : Bool := cl && (yfIt c).isSome && !fs.any Frame.guarded
def unG : GenState → GenState
  | .suspended k _ c p fs cl => match isU c fs cl with
    | true => .suspended (fun r => unq c (k r)) [.none] c p (fs.map unF) false
    | false => .suspended (fun r => unq c (k r)) [] c p (fs.map unF) cl
  | x => x
def unE : End → End
  | .ret r => .ret r
  | .susp v g _ k c p fs => .susp v g [] (fun r => unq c (k r)) c p (fs.map unF)
def mY (P : Program) (w : World) : Model := ⟨fun c => unq c (denote table c), P, w⟩
theorem unF_where (F : Frame) : (unF F).where_ = F.where_ := by cases F <;> rfl
theorem unF_guard (F : Frame) : (unF F).guarded = F.guarded := by cases F <;> rfl
theorem unF_marks (F : Frame) (x) : (unF F).marks x = F.marks x := by cases F <;> rfl
theorem map_where (fs : List Frame) : (fs.map unF).map Frame.where_ = fs.map Frame.where_ := by
  rw [List.map_map]; exact List.map_congr_left fun F _ => unF_where F
theorem any_guard (fs : List Frame) : (fs.map unF).any Frame.guarded = fs.any Frame.guarded := by
  rw [List.any_map]
  congr 1
  funext F
  exact unF_guard F
theorem marks_un : ∀ (fs : List Frame) (x), marksOver (fs.map unF) x = marksOver fs x
  | [], _ => rfl
  | F :: fs, x => by
    show (unF F).marks (marksOver (fs.map unF) x) = F.marks (marksOver fs x)
    rw [marks_un fs x, unF_marks]
theorem split_un : ∀ (fs : List Frame), splitAtGen fs = none → splitAtGen (fs.map unF) = none
  | [], _ => rfl
  | .gen .. :: fs, h => by cases h
  | .ret k h g l c p kp :: fs, hs => by
    simp only [splitAtGen, Option.map_eq_none_iff] at hs
    show (splitAtGen (.ret (fun r => unq c (k r)) h g [] c p [] :: fs.map unF)) = none
    simp only [splitAtGen, Option.map_eq_none_iff]
    exact split_un fs hs
theorem over_un (Γ : Ctx) (fs : List Frame) (h : splitAtGen fs = none) : Γ.over (fs.map unF) = Γ.over fs := by
  unfold Ctx.over
  rw [split_un fs h, h]
  simp only [marks_un, map_where]
theorem unG_seen (x : GenState) : (unG x).seen = x.seen := by
  cases x with
  | suspended k l c p fs cl =>
    unfold unG
    dsimp only
    generalize isU c fs cl = u
    cases u <;> (show (GenStatus.suspended, some ((c, p) :: (fs.map unF).map Frame.where_)) = (GenStatus.suspended, some ((c, p) :: fs.map Frame.where_)); rw [map_where])
  | _ => rfl
theorem unE_quiet {e : End} (h : e.quiet = true) : (unE e).quiet = true := by
  cases e with
  | ret r => rfl
  | susp v g l k c p fs =>
    show (!(g || (fs.map unF).any Frame.guarded)) = true
    rw [any_guard]; exact h
theorem unE_res (e : End) : (unE e).result = e.result := by cases e <;> rfl
theorem unE_state {e : End} (h : e.quiet = true) : (unE e).genState = unG e.genState := by
  cases e with
  | ret r => rfl
  | susp v g l k c p fs =>
    have h2 : (g || fs.any Frame.guarded) = false := by
      have : (!(g || fs.any Frame.guarded)) = true := h
      simpa using this
    show GenState.suspended _ [] c p (fs.map unF) (g || (fs.map unF).any Frame.guarded) = unG (.suspended k l c p fs (g || fs.any Frame.guarded))
    rw [any_guard, h2]
    rfl
theorem bare_un {x : GenState} (h : x.bare = true) : (unG x).bare = true := by
  cases x with
  | suspended k l c p fs cl =>
    have hc : (!cl) = true := h
    have hc : cl = false := by simpa using hc
    subst hc
    rfl
  | _ => exact h
/-- b: a state of the first machine in which a run was shown; s: the second machine's; what slept in G is deaf in b -/
structure SLu (G : Array GenState) (b s : Shared) : Prop where
  heap : s.heap = b.heap
  drawn : s.drawn = b.drawn
  toks : s.toks = b.toks
  os : s.os = b.os
  size : s.gens.size = b.gens.size
  le : G.size ≤ b.gens.size
  old : ∀ (i : Nat) x, G[i]? = some x → asleep x = true → b.gens[i]? = some (deaf x) ∧ s.gens[i]? = some x
  new : ∀ (i : Nat), (∀ x, G[i]? = some x → asleep x = false) → s.gens[i]? = (b.gens[i]?).map unG ∧ ∀ x, b.gens[i]? = some x → clean x
theorem SLu.or {G : Array GenState} {b s : Shared} (h : SLu G b s) (i : Nat) : (∃ x, G[i]? = some x ∧ asleep x = true) ∨ ∀ x, G[i]? = some x → asleep x = false := by
  cases e : G[i]? with
  | none => exact .inr fun x hx => by cases hx
  | some x =>
    cases ha : asleep x with
    | true => exact .inl ⟨x, rfl, ha⟩
    | false => exact .inr fun y hy => by cases hy; exact ha
theorem SLu.seen {G : Array GenState} {b s : Shared} (h : SLu G b s) {g : Nat} {x : GenState} (e : b.gens[g]? = some x) : ∃ y, s.gens[g]? = some y ∧ y.seen = x.seen := by
  rcases h.or g with ⟨y, hy, ha⟩ | hn
  · obtain ⟨q1, q2⟩ := h.old g y hy ha
    rw [q1] at e; cases e
    exact ⟨y, q2, (deaf_seen y).symm⟩
  · exact ⟨unG x, by rw [(h.new g hn).1, e]; rfl, unG_seen x⟩
theorem SLu.awake {G : Array GenState} {b s : Shared} (h : SLu G b s) {g : Nat} {x : GenState} (e : b.gens[g]? = some x) (ha : asleep x = false) : s.gens[g]? = some x ∧ ∀ x, G[g]? = some x → asleep x = false := by
  rcases h.or g with ⟨y, hy, hb⟩ | hn
  · obtain ⟨q1, q2⟩ := h.old g y hy hb
    rw [q1] at e; cases e
    rw [deaf_asleep, hb] at ha; cases ha
  · refine ⟨?_, hn⟩
    rw [(h.new g hn).1, e]
    cases x <;> first | rfl | cases ha
theorem SLu.withHeap {G : Array GenState} {b s : Shared} (h : SLu G b s) (f : Heap) : SLu G { b with heap := f } { s with heap := f } := ⟨rfl, h.drawn, h.toks, h.os, h.size, h.le, h.old, h.new⟩
theorem SLu.setG {G : Array GenState} {b s : Shared} (h : SLu G b s) {g : Nat} {x : GenState} (hn : ∀ x, G[g]? = some x → asleep x = false) (hx : clean x) : SLu G (b.setGen g x) (s.setGen g (unG x)) := by
  refine ⟨h.heap, h.drawn, h.toks, h.os, ?_, ?_, fun i y hy ha => ?_, fun i hi => ?_⟩
  · rw [GenW.setGen_size, GenW.setGen_size]; exact h.size
  · rw [GenW.setGen_size]; exact h.le
  · have hne : g ≠ i := fun z => by
      subst z
      rw [hn y hy] at ha; cases ha
    obtain ⟨q1, q2⟩ := h.old i y hy ha
    show (b.gens.setIfInBounds g x)[i]? = _ ∧ (s.gens.setIfInBounds g (unG x))[i]? = _
    rw [Array.getElem?_setIfInBounds_ne hne, Array.getElem?_setIfInBounds_ne hne]
    exact ⟨q1, q2⟩
  · obtain ⟨q1, q2⟩ := h.new i hi
    show (s.gens.setIfInBounds g (unG x))[i]? = ((b.gens.setIfInBounds g x)[i]?).map unG ∧ ∀ y, (b.gens.setIfInBounds g x)[i]? = some y → clean y
    by_cases hg : g = i
    · subst hg
      rw [Array.getElem?_setIfInBounds_self, Array.getElem?_setIfInBounds_self, h.size]
      by_cases hb : g < b.gens.size
      · rw [if_pos hb, if_pos hb]
        exact ⟨rfl, fun y hy => by cases hy; exact hx⟩
      · rw [if_neg hb, if_neg hb]
        exact ⟨rfl, fun y hy => by cases hy⟩
    · rw [Array.getElem?_setIfInBounds_ne hg, Array.getElem?_setIfInBounds_ne hg]
      exact ⟨q1, q2⟩
theorem SLu.push {G : Array GenState} {b s : Shared} (h : SLu G b s) (c : Code) : SLu G { b with gens := b.gens.push (.fresh c) } { s with gens := s.gens.push (.fresh c) } := by
  refine ⟨h.heap, h.drawn, h.toks, h.os, ?_, ?_, fun i y hy ha => ?_, fun i hi => ?_⟩
  · simp [h.size]
  · have := h.le
    simp only [Array.size_push]; omega
  · obtain ⟨q1, q2⟩ := h.old i y hy ha
    have l1 := (Array.getElem?_eq_some_iff.mp q1).1
    have l2 := (Array.getElem?_eq_some_iff.mp q2).1
    simp only [Array.getElem?_push, Nat.ne_of_lt l1, Nat.ne_of_lt l2, if_false]
    exact ⟨q1, q2⟩
  · obtain ⟨q1, q2⟩ := h.new i hi
    simp only [Array.getElem?_push, h.size]
    by_cases he : i = b.gens.size
    · rw [if_pos he, if_pos he]
      exact ⟨rfl, fun y hy => by cases hy; trivial⟩
    · rw [if_neg he, if_neg he]
      exact ⟨q1, q2⟩
theorem quiet_app {v : Value} {g : Bool} {l : List Value} {k : Resume → Sem PySem.Fin} {c : Code} {p : Pos} {fs fs2 : List Frame} (h : (End.susp v g l k c p (fs ++ fs2)).quiet = true) : (End.susp v g l k c p fs).quiet = true := by
  have h : (!(g || (fs ++ fs2).any Frame.guarded)) = true := h
  show (!(g || fs.any Frame.guarded)) = true
  rw [List.any_append] at h
  cases g <;> simp_all
theorem runs_un {P : Program} {w : World} {Γ : Ctx} {p : Pos} {t : Sem PySem.Fin} {fs : List Frame} {b b' : Shared} {e : End} (h : Runs (model P w) Γ p t fs b e b') : e.quiet = true → ∀ (G : Array GenState) (s : Shared), splitAtGen fs = none → SLu G b s →
    ∃ s', Runs (mY P w) Γ p (unq Γ.code t) (fs.map unF) s (unE e) s' ∧ SLu G b' s' ∧ EndClean e := by
  induction h with
  | done => intro _ G s _ l; exact ⟨s, .done, l, trivial⟩
  | raise => intro _ G s _ l; exact ⟨s, .raise, l, trivial⟩
  | again hq _ ih => intro hE G s hf l; obtain ⟨s', r, l', z⟩ := ih hE G s hf l; exact ⟨s', .again hq r, l', z⟩
  | rule _ ih => intro hE G s hf l; obtain ⟨s', r, l', z⟩ := ih hE G s hf l; exact ⟨s', .rule r, l', z⟩
  | «at» _ ih => intro hE G s hf l; obtain ⟨s', r, l', z⟩ := ih hE G s hf l; exact ⟨s', .at r, l', z⟩
  | load ho _ ih => intro hE G s hf l; obtain ⟨s', r, l', z⟩ := ih hE G s hf l; exact ⟨s', .load (by rw [l.heap]; exact ho) r, l', z⟩
  | update ho _ ih =>
    intro hE G s hf l
    obtain ⟨s', r, l', z⟩ := ih hE G _ hf (l.withHeap _)
    refine ⟨s', .update (by rw [l.heap]; exact ho) ?_, l', z⟩
    rw [l.heap]; exact r
  | loadIfAlive _ ih =>
    intro hE G s hf l
    obtain ⟨s', r, l', z⟩ := ih hE G s hf l
    refine ⟨s', .loadIfAlive ?_, l', z⟩
    rw [l.heap]; exact r
  | point _ ih => intro hE G s hf l; obtain ⟨s', r, l', z⟩ := ih hE G s hf l; exact ⟨s', .point r, l', z⟩
  | alloc _ ih =>
    intro hE G s hf l
    obtain ⟨s', r, l', z⟩ := ih hE G _ hf (l.withHeap _)
    refine ⟨s', .alloc ?_, l', z⟩
    rw [l.heap]; exact r
  | fresh _ ih =>
    intro hE G s hf l
    obtain ⟨s', r, l', z⟩ := ih hE G { s with toks := s.toks + 1 } hf ⟨l.heap, l.drawn, congrArg (· + 1) l.toks, l.os, l.size, l.le, l.old, l.new⟩
    refine ⟨s', .fresh ?_, l', z⟩
    rw [l.toks] at r ⊢; exact r
  | ask _ ih => intro hE G s hf l; obtain ⟨s', r, l', z⟩ := ih hE G s hf l; exact ⟨s', .ask r, l', z⟩
  | choose hn _ ih =>
    rename_i Sr _
    intro hE G s hf l
    obtain ⟨s', r, l', z⟩ := ih hE G ⟨s.heap, s.gens, s.drawn.bump Sr, s.toks, s.os⟩ hf ⟨l.heap, congrArg (fun d => Drawn.bump d Sr) l.drawn, l.toks, l.os, l.size, l.le, l.old, l.new⟩
    refine ⟨s', .choose hn ?_, l', z⟩
    have q := r
    rw [l.drawn] at q ⊢; exact q
  | os _ ih =>
    rename_i Sr _ _
    intro hE G s hf l
    obtain ⟨s', r, l', z⟩ := ih hE G ⟨s.heap, s.gens, s.drawn, s.toks, (Os.step s.os Sr).1⟩ hf ⟨l.heap, l.drawn, l.toks, congrArg (fun d => (Os.step d Sr).1) l.os, l.size, l.le, l.old, l.new⟩
    refine ⟨s', .os ?_, l', z⟩
    have q := r
    rw [l.os] at q ⊢; exact q
  | handled _ ih => intro hE G s hf l; obtain ⟨s', r, l', z⟩ := ih hE G s hf l; exact ⟨s', .handled r, l', z⟩
  | genState hg _ ih =>
    intro hE G s hf l
    obtain ⟨s', r, l', z⟩ := ih hE G s hf l
    obtain ⟨y, hy, hs⟩ := l.seen hg
    refine ⟨s', .genState hy ?_, l', z⟩
    rw [hs]; exact r
  | stack _ ih => intro hE G s hf l; obtain ⟨s', r, l', z⟩ := ih hE G s hf l; exact ⟨s', .stack r, l', z⟩
  | thread _ ih => intro hE G s hf l; obtain ⟨s', r, l', z⟩ := ih hE G s hf l; exact ⟨s', .thread r, l', z⟩
  | newGen _ ih =>
    intro hE G s hf l
    obtain ⟨s', r, l', z⟩ := ih hE G _ hf (l.push _)
    refine ⟨s', .newGen ?_, l', z⟩
    rw [l.size]; exact r
  | call _ _ ih1 ih2 =>
    intro hE G s hf l
    obtain ⟨s1, r1, l1, _⟩ := ih1 rfl G s rfl l
    obtain ⟨s', r, l', z⟩ := ih2 hE G s1 hf l1
    exact ⟨s', .call r1 r, l', z⟩
  | callSusp _ ih =>
    intro hE G s hf l
    obtain ⟨s1, r1, l1, z⟩ := ih (quiet_app hE) G s rfl l
    refine ⟨s1, ?_, l1, split_app _ _ z rfl⟩
    simp only [unE, List.map_append, List.map_cons, List.map_nil, unF, unq]
    exact .callSusp r1
  | yield =>
    rename_i Γ p v g l k s0
    intro hE G s _ l2
    have hg : g = false := by
      have : (!(g || ([] : List Frame).any Frame.guarded)) = true := hE
      simpa using this
    subst hg
    exact ⟨s, .yield, l2, rfl⟩
  | resumeFresh hg _ hq _ ih1 ih2 =>
    intro hE G s hf l
    obtain ⟨q1, q2⟩ := l.awake hg rfl
    obtain ⟨s1, r1, l1, z1⟩ := ih1 hq G _ rfl (l.setG (g := _) (x := .running) q2 trivial)
    obtain ⟨s', r, l', z⟩ := ih2 hE G _ hf (l1.setG q2 z1.st)
    refine ⟨s', .resumeFresh q1 r1 (unE_quiet hq) ?_, l', z⟩
    rw [unE_res, unE_state hq]; exact r
  | resumeSuspended hg h1 hq _ ih1 ih2 =>
    intro hE G s hf l
    rename_i p' g r' lv' k' s' k0 l0 c0 p0 fs0 cl0 e1' s1' e' s2' h2'
    rcases l.or g with ⟨y, hy, ha⟩ | hn
    · obtain ⟨e1, _⟩ := l.old g y hy ha
      rw [hg] at e1
      cases y with
      | suspended k1 l1 c1 p1 fs1 cl1 =>
        injection e1 with e1
        injection e1 with e1 _ _ _ _ _
        rw [e1] at h1
        exact (no_dead h1).elim
      | fresh _ => cases ha
      | running => cases ha
      | finished => cases ha
    · obtain ⟨q1, q2⟩ := l.new g hn
      obtain ⟨s1, r1, l1, z1⟩ := ih1 hq G _ (q2 _ hg) (l.setG (g := g) (x := .running) hn trivial)
      obtain ⟨s', r, l', z⟩ := ih2 hE G _ hf (l1.setG hn z1.st)
      rw [hg] at q1
      rw [← unE_res, ← unE_state hq] at r
      have q3 : ∃ l2 cl2, s.gens[g]? = some (.suspended (fun r => unq c0 (k0 r)) l2 c0 p0 (fs0.map unF) cl2) := by
        rw [q1]
        show ∃ l2 cl2, some (unG (.suspended k0 l0 c0 p0 fs0 cl0)) = _
        unfold unG
        dsimp only
        generalize isU c0 fs0 cl0 = u
        cases u <;> exact ⟨_, _, rfl⟩
      obtain ⟨l2, cl2, q3⟩ := q3
      exact ⟨s', .resumeSuspended q3 r1 (unE_quiet hq) r, l', z⟩
  | resumeJustStarted hg hv _ ih =>
    intro hE G s hf l
    obtain ⟨q1, q2⟩ := l.awake hg rfl
    obtain ⟨s', r, l', z⟩ := ih hE G s hf l
    exact ⟨s', .resumeJustStarted q1 hv r, l', z⟩
  | resumeThrowFresh hg _ ih =>
    intro hE G s hf l
    obtain ⟨q1, q2⟩ := l.awake hg rfl
    obtain ⟨s', r, l', z⟩ := ih hE G _ hf (l.setG (x := .finished) q2 trivial)
    exact ⟨s', .resumeThrowFresh q1 r, l', z⟩
  | resumeRunning hg _ ih =>
    intro hE G s hf l
    obtain ⟨q1, q2⟩ := l.awake hg rfl
    obtain ⟨s', r, l', z⟩ := ih hE G s hf l
    exact ⟨s', .resumeRunning q1 r, l', z⟩
  | resumeFinished hg _ ih =>
    intro hE G s hf l
    obtain ⟨q1, q2⟩ := l.awake hg rfl
    obtain ⟨s', r, l', z⟩ := ih hE G s hf l
    exact ⟨s', .resumeFinished q1 r, l', z⟩
  | segRet _ _ ih1 ih2 =>
    intro hE G s hf l
    have hf0 := hf
    simp only [splitAtGen, Option.map_eq_none_iff] at hf
    obtain ⟨s1, r1, l1, _⟩ := ih1 rfl G s rfl l
    obtain ⟨s', r, l', z⟩ := ih2 hE G s1 hf l1
    refine ⟨s', ?_, l', z⟩
    rw [← over_un _ _ hf0] at r1
    exact .segRet r1 r
  | segGen _ _ _ _ => intro _ G s hf l; simp [splitAtGen] at hf
  | segSuspOut hs _ ih =>
    intro hE G s hf l
    obtain ⟨s1, r1, l1, z⟩ := ih (quiet_app hE) G s rfl l
    rw [← over_un _ _ hs] at r1
    refine ⟨s1, ?_, l1, split_app _ _ z hs⟩
    have q := Runs.segSuspOut (split_un _ hs) r1
    simp only [unE, List.map_append]
    exact q
  | segSuspGen hs _ _ _ _ _ => intro _ G s hf l; rw [hf] at hs; cases hs
end DL
namespace DL
open PySem L2
open PyProof.Rows hiding St
open Sem (wp)
theorem wakes_un {P : Program} {w : World} {Γ : Ctx} {p : Pos} {g : Nat} {r : Resume} {b b' : Shared} {res : GenResult} (h : Wakes (model P w) Γ p g r b res b') (G : Array GenState) (s : Shared) (l : SLu G b s) : ∃ s', Wakes (mY P w) Γ p g r s res s' ∧ SLu G b' s' := by
  unfold Wakes at h
  cases hg : b.gens[g]? with
  | none => rw [hg] at h; exact h.elim
  | some x =>
    rw [hg] at h
    cases x with
    | fresh c =>
      obtain ⟨q1, q2⟩ := l.awake hg rfl
      cases r with
      | throw e =>
        obtain ⟨h1, h2⟩ := h
        exact ⟨_, by unfold Wakes; rw [q1]; exact ⟨h1, rfl⟩, by rw [h2]; exact l.setG (x := .finished) q2 trivial⟩
      | send v =>
        cases v with
        | none =>
          obtain ⟨e1, s1, hr, hq, h1, h2⟩ := h
          obtain ⟨s1', r1, l1, z1⟩ := runs_un hr hq G _ rfl (l.setG (x := .running) q2 trivial)
          refine ⟨_, by unfold Wakes; rw [q1]; exact ⟨unE e1, s1', r1, unE_quiet hq, by rw [unE_res]; exact h1, rfl⟩, by rw [h2, unE_state hq]; exact l1.setG q2 z1.st⟩
        | _ =>
          obtain ⟨h1, h2⟩ := h
          exact ⟨s, by unfold Wakes; rw [q1]; exact ⟨h1, rfl⟩, by rw [h2]; exact l⟩
    | suspended k0 l0 c0 p0 fs0 cl0 =>
      obtain ⟨e1, s1, hr, hq, h1, h2⟩ := h
      rcases l.or g with ⟨y, hy, ha⟩ | hn
      · obtain ⟨d1, _⟩ := l.old g y hy ha
        rw [hg] at d1
        cases y with
        | suspended k1 l1 c1 p1 fs1 cl1 =>
          injection d1 with d1
          injection d1 with d1 _ _ _ _ _
          rw [d1] at hr
          exact (no_dead hr).elim
        | fresh _ => cases ha
        | running => cases ha
        | finished => cases ha
      · obtain ⟨q1, q2⟩ := l.new g hn
        obtain ⟨s1', r1, l1, z1⟩ := runs_un hr hq G _ (q2 _ hg) (l.setG (g := g) (x := .running) hn trivial)
        rw [hg] at q1
        have q3 : ∃ l2 cl2, s.gens[g]? = some (.suspended (fun r => unq c0 (k0 r)) l2 c0 p0 (fs0.map unF) cl2) := by
          rw [q1]
          show ∃ l2 cl2, some (unG (.suspended k0 l0 c0 p0 fs0 cl0)) = _
          unfold unG
          dsimp only
          generalize isU c0 fs0 cl0 = u
          cases u <;> exact ⟨_, _, rfl⟩
        obtain ⟨l2, cl2, q3⟩ := q3
        exact ⟨_, by unfold Wakes; rw [q3]; exact ⟨unE e1, s1', r1, unE_quiet hq, by rw [unE_res]; exact h1, rfl⟩, by rw [h2, unE_state hq]; exact l1.setG hn z1.st⟩
    | running =>
      obtain ⟨q1, q2⟩ := l.awake hg rfl
      obtain ⟨h1, h2⟩ := h
      exact ⟨s, by unfold Wakes; rw [q1]; exact ⟨h1, rfl⟩, by rw [h2]; exact l⟩
    | finished =>
      obtain ⟨q1, q2⟩ := l.awake hg rfl
      obtain ⟨h1, h2⟩ := h
      exact ⟨s, by unfold Wakes; rw [q1]; exact ⟨h1, rfl⟩, by rw [h2]; exact l⟩
theorem wp_un {P : Program} {w : World} {α : Type} (Γ : Ctx) (G : Array GenState) (t : Sem α) : ∀ (Q : α → Pos → Shared → Prop) (E : Value → Pos → Shared → Prop) (p : Pos) (b s : Shared), SLu G b s → wp (model P w) Γ t Q E p b →
    wp (mY P w) Γ t (fun a p' s' => ∃ b', SLu G b' s' ∧ Q a p' b') (fun e p' s' => ∃ b', SLu G b' s' ∧ E e p' b') p s := by
  induction t with
  | pure a => intro Q E p b s l h; exact ⟨b, l, h⟩
  | raise e => intro Q E p b s l h; exact ⟨b, l, h⟩
  | unsupported _ => intro Q E p b s _ h; exact h
  | finish _ => intro Q E p b s _ h; exact h
  | register _ _ => intro Q E p b s _ h; exact h
  | yield _ _ _ _ => intro Q E p b s _ h; exact h
  | fork _ _ => intro Q E p b s _ h; exact h
  | await _ _ _ _ _ => intro Q E p b s _ h; exact h
  | rule _ k ih => intro Q E p b s l h; exact ih () Q E p b s l h
  | «at» p' k ih => intro Q E p b s l h; exact ih () Q E p' b s l h
  | point _ k ih => intro Q E p b s l h; exact ih () Q E p b s l h
  | ask k ih => intro Q E p b s l h; exact ih _ Q E p b s l h
  | handled own k ih => intro Q E p b s l h; exact ih _ Q E p b s l h
  | stack k ih => intro Q E p b s l h; exact ih _ Q E p b s l h
  | thread k ih => intro Q E p b s l h; exact ih _ Q E p b s l h
  | load a _ k ih => intro Q E p b s l h; obtain ⟨o, ho, h⟩ := h; exact ⟨o, by rw [l.heap]; exact ho, ih o Q E p b s l h⟩
  | update a _ f k ih =>
    intro Q E p b s l h
    have q := ih () Q E p _ _ (l.withHeap (b.heap.update a f)) h.2
    exact ⟨by rw [l.heap]; exact h.1, by rw [l.heap]; exact q⟩
  | loadIfAlive a k ih =>
    intro Q E p b s l h
    have q := ih _ Q E p b s l h
    show wp (mY P w) Γ (k (s.heap.get? a)) _ _ p s
    rw [l.heap]; exact q
  | alloc o k ih =>
    intro Q E p b s l h
    have q := ih _ Q E p _ _ (l.withHeap (b.heap.push o)) h
    show wp (mY P w) Γ (k s.heap.objs.size) _ _ p { s with heap := s.heap.push o }
    rw [l.heap]; exact q
  | fresh k ih =>
    intro Q E p b s l h
    have q := ih _ Q E p { b with toks := b.toks + 1 } { s with toks := s.toks + 1 } ⟨l.heap, l.drawn, congrArg (· + 1) l.toks, l.os, l.size, l.le, l.old, l.new⟩ h
    show wp (mY P w) Γ (k s.toks) _ _ p _
    rw [l.toks] at q ⊢; exact q
  | choose src n k ih =>
    intro Q E p b s l h
    have q := ih _ Q E p { b with drawn := b.drawn.bump src } ⟨s.heap, s.gens, s.drawn.bump src, s.toks, s.os⟩ ⟨l.heap, congrArg (fun d => Drawn.bump d src) l.drawn, l.toks, l.os, l.size, l.le, l.old, l.new⟩ h.2
    refine ⟨h.1, ?_⟩
    rw [l.drawn] at q ⊢; exact q
  | os rq _ k ih =>
    intro Q E p b s l h
    have q := ih _ Q E p { b with os := (Os.step b.os rq).1 } ⟨s.heap, s.gens, s.drawn, s.toks, (Os.step s.os rq).1⟩ ⟨l.heap, l.drawn, l.toks, congrArg (fun d => (Os.step d rq).1) l.os, l.size, l.le, l.old, l.new⟩ h
    show wp (mY P w) Γ (k (Os.step s.os rq).2) _ _ p _
    rw [l.os] at q ⊢; exact q
  | call c hd _ _ k ih =>
    intro Q E p b s l h
    obtain ⟨r, b1, hr, h⟩ := h
    obtain ⟨s1, r1, l1, _⟩ := runs_un hr rfl G s rfl l
    exact ⟨r, s1, r1, ih r Q E p b1 s1 l1 h⟩
  | genState g k ih =>
    intro Q E p b s l h
    obtain ⟨x, hx, h⟩ := h
    obtain ⟨y, hy, hs⟩ := l.seen hx
    refine ⟨y, hy, ?_⟩
    rw [hs]; exact ih _ Q E p b s l h
  | newGen c k ih =>
    intro Q E p b s l h
    have q := ih _ Q E p _ _ (l.push c) h
    show wp (mY P w) Γ (k s.gens.size) _ _ p _
    rw [l.size]; exact q
  | resume g r _ k ih =>
    intro Q E p b s l h
    obtain ⟨res, b1, hw, h⟩ := h
    obtain ⟨s1, w1, l1⟩ := wakes_un hw G s l
    exact ⟨res, s1, w1, ih res Q E p b1 s1 l1 h⟩
/-- live lists do not matter to what does not sleep -/
theorem wp_strip {M : Model} {c : Code} {Γ : Ctx} (t : Sem PySem.Fin) : ∀ (Q : PySem.Fin → Pos → Shared → Prop) (E : Value → Pos → Shared → Prop) (p : Pos) (s : Shared), wp M Γ t Q E p s → wp M Γ (unq c t) Q E p s := by
  induction t with
  | pure a => intro Q E p s h; exact h
  | raise e => intro Q E p s h; exact h
  | unsupported _ => intro Q E p s h; exact h
  | finish _ => intro Q E p s h; exact h
  | register _ _ => intro Q E p s h; exact h
  | yield _ _ _ _ => intro Q E p s h; exact h.elim
  | fork _ _ => intro Q E p s h; exact h
  | await _ _ _ _ _ => intro Q E p s h; exact h
  | rule _ k ih => intro Q E p s h; exact ih () Q E p s h
  | «at» p' k ih => intro Q E p s h; exact ih () Q E p' s h
  | point _ k ih => intro Q E p s h; exact ih () Q E p s h
  | ask k ih => intro Q E p s h; exact ih _ Q E p s h
  | handled own k ih => intro Q E p s h; exact ih _ Q E p s h
  | stack k ih => intro Q E p s h; exact ih _ Q E p s h
  | thread k ih => intro Q E p s h; exact ih _ Q E p s h
  | load a _ k ih => intro Q E p s h; obtain ⟨o, ho, h⟩ := h; exact ⟨o, ho, ih o Q E p s h⟩
  | update a _ f k ih => intro Q E p s h; exact ⟨h.1, ih () Q E p _ h.2⟩
  | loadIfAlive a k ih => intro Q E p s h; exact ih _ Q E p s h
  | alloc o k ih => intro Q E p s h; exact ih _ Q E p _ h
  | fresh k ih => intro Q E p s h; exact ih _ Q E p _ h
  | choose src n k ih => intro Q E p s h; exact ⟨h.1, ih _ Q E p _ h.2⟩
  | os rq _ k ih => intro Q E p s h; exact ih _ Q E p _ h
  | call c hd _ _ k ih => intro Q E p s h; obtain ⟨r, s1, hr, h⟩ := h; exact ⟨r, s1, hr, ih r Q E p s1 h⟩
  | genState g k ih => intro Q E p s h; obtain ⟨x, hx, h⟩ := h; exact ⟨x, hx, ih _ Q E p s h⟩
  | newGen c k ih => intro Q E p s h; exact ih _ Q E p _ h
  | resume g r _ k ih => intro Q E p s h; obtain ⟨res, s1, hw, h⟩ := h; exact ⟨res, s1, hw, ih res Q E p s1 h⟩
/-- not a delegation that sleeps -/
def plainS : GenState → Bool
  | .suspended _ l _ _ _ _ => l.isEmpty
  | _ => true
theorem plain_un {x : GenState} (h : x.bare = true) : plainS (unG x) = true := by
  cases x with
  | suspended k l c p fs cl =>
    have hc : (!cl) = true := h
    have hc : cl = false := by simpa using hc
    subst hc
    rfl
  | _ => rfl
theorem still_lu (s : Shared) : SLu s.gens (still s) s := by
  refine ⟨rfl, rfl, rfl, rfl, by simp [still], by simp [still], fun i x hx ha => ⟨?_, hx⟩, fun i hi => ?_⟩
  · show (s.gens.map deaf)[i]? = _
    rw [Array.getElem?_map, hx]; rfl
  · show _ = ((s.gens.map deaf)[i]?).map unG ∧ ∀ x, (s.gens.map deaf)[i]? = some x → clean x
    rw [Array.getElem?_map]
    cases e : s.gens[i]? with
    | none => exact ⟨rfl, fun x hx => by cases hx⟩
    | some x =>
      have ha := hi x e
      refine ⟨(by
        show some x = some (unG (deaf x))
        rw [deaf_awake ha]
        cases x <;> first | rfl | cases ha), fun y hy => ?_⟩
      have : deaf x = y := Option.some.inj hy
      rw [deaf_awake ha] at this
      subst this
      cases x <;> first | trivial | cases ha
/-- what sleeps in s sleeps in s' as it did; what is let go stays so; no new delegation sleeps -/
structure KeptU (s s' : Shared) : Prop where
  kept : Kept s s'
  fresh : ∀ (i : Nat) x, s'.gens[i]? = some x → (∀ y, s.gens[i]? = some y → asleep y = false) → plainS x = true
theorem KeptU.refl (s : Shared) : KeptU s s := ⟨Kept.refl s, fun i x e h => (by
  have := h x e
  cases x <;> first | rfl | cases this)⟩
theorem KeptU.trans {a b c : Shared} (h : KeptU a b) (k : KeptU b c) : KeptU a c := by
  refine ⟨h.kept.trans k.kept, fun i x e hn => ?_⟩
  by_cases hb : ∃ y, b.gens[i]? = some y ∧ asleep y = true
  · obtain ⟨y, hy, ha⟩ := hb
    have q := k.kept.gen i y hy ha
    rw [q] at e; cases e
    exact h.fresh i _ hy hn
  · exact k.fresh i x e fun y hy => by
      cases ha : asleep y with
      | false => rfl
      | true => exact (hb ⟨y, hy, ha⟩).elim
/-- a wish that does not look at the generators, but that none has a clean-up -/
structure CalmU {α : Type} (Q : α → Shared → Prop) : Prop where
  mv : ∀ (G : Array GenState) (b s : Shared) (a : α), SLu G b s → Q a b → Q a s
  bare : ∀ (a : α) (b : Shared), Q a b → AllBare b.gens
theorem SLu.keptU {b s' s : Shared} (l : SLu s.gens b s') (g : Gone s s') (hb : AllBare b.gens) : KeptU s s' := by
  refine ⟨⟨fun i x e z => (l.old i x e z).2, g, by rw [l.size]; exact l.le⟩, fun i x e hn => ?_⟩
  rw [(l.new i hn).1] at e
  cases q : b.gens[i]? with
  | none => rw [q] at e; cases e
  | some y =>
    rw [q] at e; cases e
    exact plain_un (hb y (Array.mem_of_getElem? q))
theorem wpAny_un {P : Program} {w : World} {α : Type} {A : Around} {t : Sem α} {Q : α → Shared → Prop} {E : Value → Shared → Prop} {s : Shared} (hQ : CalmU Q) (hE : CalmU E) (h : wpAny (model P w) A t Q E (still s)) :
    wpAny (mY P w) A t (fun a s' => Q a s' ∧ KeptU s s') (fun e s' => E e s' ∧ KeptU s s') s := by
  intro Γ p hΓ
  have q := wp_gone (mY P w) Γ s t _ _ p s (Gone.refl s) (wp_un Γ s.gens t _ _ p (still s) s (still_lu s) (h Γ p hΓ))
  refine Sem.wp_mono (mY P w) Γ t (fun a p' s' hq => ?_) (fun a p' s' hq => ?_) p s q
  · obtain ⟨g, b, l, hb⟩ := hq; exact ⟨hQ.mv _ b s' a l hb, l.keptU g (hQ.bare a b hb)⟩
  · obtain ⟨g, b, l, hb⟩ := hq; exact ⟨hE.mv _ b s' a l hb, l.keptU g (hE.bare a b hb)⟩
theorem SLu.eq {G : Array GenState} {b s : Shared} (h : SLu G b s) : s = { b with gens := s.gens } := by
  obtain ⟨h1, g1, d1, t1, o1⟩ := s
  obtain ⟨h2, g2, d2, t2, o2⟩ := b
  obtain ⟨e1, e2, e3, e4, _⟩ := h
  cases e1; cases e2; cases e3; cases e4; rfl
theorem SLu.bare {G : Array GenState} {b s : Shared} (l : SLu G b s) (h : AllBare b.gens) : AllBare s.gens := fun x hx => by
  obtain ⟨i, hi, rfl⟩ := Array.mem_iff_getElem.mp hx
  have hs : s.gens[i]? = some s.gens[i] := Array.getElem?_eq_getElem hi
  rcases l.or i with ⟨y, hy, ha⟩ | hn
  · obtain ⟨q1, q2⟩ := l.old i y hy ha
    rw [hs] at q2
    have e : s.gens[i] = y := Option.some.inj q2
    rw [e, ← deaf_bare]
    exact h _ (Array.mem_of_getElem? q1)
  · rw [(l.new i hn).1] at hs
    cases q : b.gens[i]? with
    | none => rw [q] at hs; cases hs
    | some y =>
      rw [q] at hs
      have e : unG y = s.gens[i] := Option.some.inj hs
      rw [← e]
      exact bare_un (h y (Array.mem_of_getElem? q))
section
variable {X : Cx} {pins : List (Addr × Obj)} {σ : L2.St} {H : Hp} {s : Shared}
theorem inv_lu {G : Array GenState} {b : Shared} (I : Inv X pins σ H b) (l : SLu G b s) : Inv X pins σ H s := by
  have hb := l.bare I.bare
  rw [l.eq]
  exact ⟨I.ok, I.os, hb, I.base, I.loc, I.cell, I.free, I.freeC, I.pin, I.hok, I.len⟩
theorem calmU_ep {Q : VK} : CalmU (EP X pins σ Q) := ⟨fun G b s a l ⟨v, H', I, r, q⟩ => ⟨v, H', inv_lu I l, r, q⟩, fun a b ⟨v, H', I, r, q⟩ => I.bare⟩
theorem calmU_tp {Q : Bool → Hp → Prop} : CalmU (TP X pins σ Q) := ⟨fun G b s a l ⟨H', I, q⟩ => ⟨H', inv_lu I l, q⟩, fun a b ⟨H', I, q⟩ => I.bare⟩
theorem calmU_sp {E : Ends} : CalmU (SP X pins E) := by
  refine ⟨fun G b s f l h => ?_, fun f b h => ?_⟩
  · cases f with
    | next => obtain ⟨σ', H', I, q⟩ := h; exact ⟨σ', H', inv_lu I l, q⟩
    | brk => obtain ⟨σ', H', I, q⟩ := h; exact ⟨σ', H', inv_lu I l, q⟩
    | cont => obtain ⟨σ', H', I, q⟩ := h; exact ⟨σ', H', inv_lu I l, q⟩
    | ret u => obtain ⟨v, σ', H', I, r, q⟩ := h; exact ⟨v, σ', H', inv_lu I l, r, q⟩
  · cases f with
    | next => obtain ⟨σ', H', I, q⟩ := h; exact I.bare
    | brk => obtain ⟨σ', H', I, q⟩ := h; exact I.bare
    | cont => obtain ⟨σ', H', I, q⟩ := h; exact I.bare
    | ret u => obtain ⟨v, σ', H', I, r, q⟩ := h; exact I.bare
theorem calmU_no : CalmU (fun (_ : Value) (_ : Shared) => False) := ⟨fun _ _ _ _ _ h => h, fun _ _ h => h.elim⟩
theorem pe_y {e : Expr} {t : TE} {Q : VK} (hx : CalmU X.xe) (h : PE X e t) (I : Inv X pins σ H s) (q : t σ H Q) : wpAny (mY X.prog X.w) X.A (eval e X.env) (fun u s' => EP X pins σ Q u s' ∧ KeptU s s') (fun e s' => X.xe e s' ∧ KeptU s s') s :=
  wpAny_un calmU_ep hx (h.run pins (still s) σ H Q (inv_still I) q)
theorem pt_y {e : Expr} {t : L2.TT} {Q : Bool → Hp → Prop} (hx : CalmU X.xe) (h : L2.PT X e t) (I : Inv X pins σ H s) (q : t σ H Q) : wpAny (mY X.prog X.w) X.A (isTrue e X.env (eval e X.env)) (fun u s' => TP X pins σ Q u s' ∧ KeptU s s') (fun e s' => X.xe e s' ∧ KeptU s s') s :=
  wpAny_un calmU_tp hx (h.run pins (still s) σ H Q (inv_still I) q)
theorem ps_y {st : Stmt} {t : TS} {E : Ends} (hx : CalmU X.xe) (h : PS X st t) (I : Inv X pins σ H s) (q : t E σ H) : wpAny (mY X.prog X.w) X.A (exec st X.env) (fun u s' => SP X pins E u s' ∧ KeptU s s') (fun e s' => X.xe e s' ∧ KeptU s s') s :=
  wpAny_un calmU_sp hx (h.run pins (still s) σ H E (inv_still I) q)
theorem pss_y {st : List Stmt} {t : TS} {E : Ends} (hx : CalmU X.xe) (h : PSs X st t) (I : Inv X pins σ H s) (q : t E σ H) : wpAny (mY X.prog X.w) X.A (execs st X.env) (fun u s' => SP X pins E u s' ∧ KeptU s s') (fun e s' => X.xe e s' ∧ KeptU s s') s :=
  wpAny_un calmU_sp hx (h.run pins (still s) σ H E (inv_still I) q)
end
end DL
namespace DL
open PySem L2
open Sem (wp)
def imS (s : Shared) : Shared := { s with gens := s.gens.map unG }
def imT (t : Thread) : Thread := ⟨unq t.code t.cur, t.code, t.pos, t.stack.map unF⟩
theorem top_un (st : List Frame) : ∀ b, topHandled.go b (st.map unF) = topHandled.go b st := by
  induction st with
  | nil => intro b; rfl
  | cons f st ih =>
    intro b
    cases f with
    | gen g k l c p => cases b <;> exact ih false
    | ret k h g l c p kp =>
      cases b with
      | true => exact ih true
      | false =>
        cases h with
        | none => exact ih false
        | some e =>
          show (if e == byPass then topHandled.go true (st.map unF) else some e) = (if e == byPass then topHandled.go true st else some e)
          rw [ih true]
theorem split_im (st : List Frame) : splitAtGen (st.map unF) = (splitAtGen st).map fun x => (x.1.map unF, (x.2.1.1, (fun r => unq x.2.1.2.2.1 (x.2.1.2.1 r)), x.2.1.2.2.1, x.2.1.2.2.2), x.2.2.map unF) := by
  induction st with
  | nil => rfl
  | cons f st ih =>
    cases f with
    | gen g k l c p => rfl
    | ret k h g l c p kp =>
      show (splitAtGen (st.map unF)).map _ = ((splitAtGen st).map _).map _
      rw [ih]
      cases splitAtGen st <;> rfl
theorem own_un (st : List Frame) : topHandled (ownFrames (st.map unF)) = topHandled (ownFrames st) := by
  unfold ownFrames
  rw [split_im]
  cases splitAtGen st with
  | none => exact top_un st false
  | some x => exact top_un x.1 false
theorem gens_im (gens : Array GenState) (g : Nat) : (gens.map unG)[g]? = (gens[g]?).map unG := Array.getElem?_map ..
theorem set_im (gens : Array GenState) (g : Nat) (x : GenState) : (gens.setIfInBounds g x).map unG = (gens.map unG).setIfInBounds g (unG x) := Array.map_setIfInBounds ..
section
variable {P : Program} {w : World}
theorem sst_of {s s1 : Shared} {t t1 : Thread} (hz : s.asleep) (hc : t.calm = true) (h : step (denote table) P w s t = .go s1 t1) : sstep (denote table) P w (.single s t) = .go (.single s1 t1) := by
  rcases sstep_single (denote table) P w s t hc hz with e | e
  · rw [e, h]; rfl
  · rw [h] at e; cases e
/-- a delegation over a generator that nobody watches goes to sleep as any other -/
theorem sst_yield {heap : Heap} {gens : Array GenState} {drawn : Drawn} {toks : Nat} {os : OsState} {v : Value} {l : List Value} {k : Resume → Sem PySem.Fin} {code : Code} {pos : Pos} {stack fs rest : List Frame} {g : Nat} {kk : GenResult → Sem PySem.Fin} {c : Code} {p : Pos} {a : Addr} {o : Obj} {n : Nat}
    (hz : Shared.asleep ⟨heap, gens, drawn, toks, os⟩) (hc : yfIt code = some a) (ho : heap.get? a = some o) (hn : o.genNumber? = some n) (hs : splitAtGen stack = some (fs, (g, kk, c, p), rest)) (hg : fs.any Frame.guarded = false) :
    sstep (denote table) P w (.single ⟨heap, gens, drawn, toks, os⟩ ⟨.yield v true l k, code, pos, stack⟩) = .go (.single ⟨heap, gens.setIfInBounds g (.suspended k l code pos fs true), drawn, toks, os⟩ ⟨kk (.yielded v), c, p, rest⟩) := by
  have hst : step (denote table) P w ⟨heap, gens, drawn, toks, os⟩ ⟨.yield v true l k, code, pos, stack⟩ = .go ⟨heap, gens.setIfInBounds g (.suspended k l code pos fs true), drawn, toks, os⟩ ⟨kk (.yielded v), c, p, rest⟩ := by
    simp only [step, hs, Bool.true_or]
  have hsh : closingShows ⟨heap, gens, drawn, toks, os⟩ fs code true = false := by
    unfold closingShows
    rw [hg]
    unfold yfIt at hc
    split at hc
    · rename_i id args
      split at hc
      · rename_i hid
        split at hc
        · rename_i b r hp
          cases hc
          subst hid
          obtain ⟨ps, kw⟩ := args
          simp only at hp
          subst hp
          simp only [Bool.false_or, Bool.true_and, delegateShows, ho, hn]
          rw [hz.1]; rfl
        · cases hc
      · cases hc
    · cases hc
  have hl : ∀ others, lifeStep (denote table) P w others ⟨heap, gens, drawn, toks, os⟩ ⟨.yield v true l k, code, pos, stack⟩ = step (denote table) P w ⟨heap, gens, drawn, toks, os⟩ ⟨.yield v true l k, code, pos, stack⟩ := by
    intro others
    have hsp : Thread.special ⟨.yield v true l k, code, pos, stack⟩ = true := by
      simp [Thread.special, Thread.yieldsInsideHandler]
    unfold lifeStep
    rw [if_pos hsp]
    simp only [collectorTurn?, hs, hsh, Bool.false_eq_true, if_false, Bool.false_and, Thread.atItsEnd]
    unfold stepCounting
    rw [hz.2]
    rfl
  have h1 : Config.collect? w.params (.single ⟨heap, gens, drawn, toks, os⟩ ⟨.yield v true l k, code, pos, stack⟩) = none := by
    simp [Config.collect?, Config.single, (nothing_to_collect _ _ _ _ _ hz.1).1]
  have h2 : Config.collectable (.single ⟨heap, gens, drawn, toks, os⟩ ⟨.yield v true l k, code, pos, stack⟩) = [] := by
    simp [Config.collectable, Config.single, (nothing_to_collect w.params _ _ _ _ hz.1).2]
  have hm : ∀ pr, Config.moves pr (.single ⟨heap, gens, drawn, toks, os⟩ ⟨.yield v true l k, code, pos, stack⟩) = [.run 0] := by
    intro pr
    simp [Config.moves, Config.single, movesFrom, Thread.moves, Thread.atomic, Thread.rests, Thread.tells]
  have hp : (Config.single ⟨heap, gens, drawn, toks, os⟩ ⟨.yield v true l k, code, pos, stack⟩).pick w = .ok (.run 0, .single ⟨heap, gens, drawn, toks, os⟩ ⟨.yield v true l k, code, pos, stack⟩) := by
    simp only [Config.pick, h1, h2, Config.pickThread, hm]
    cases w.params.lifetimes <;> simp
  unfold sstep
  rw [hp]
  simp only [Config.move]
  simp only [Config.run, Config.single]
  simp [hl, others_single, frozenBadly, ThreadState.insideWrite, Thread.finalizes, hst]
theorem runI_succ {den : Code → Sem PySem.Fin} {n : Nat} {s : Shared} {t : Thread} : runNI den P w (n + 1) s t = (match stepI den P w s t with
    | .go s' t' => runNI den P w n s' t'
    | .halt o s' => .halted o s') := rfl
theorem ends_un {o : Outcome} (h : o.ends = true) (x : String) : o ≠ .unsupported x := fun z => by subst z; cases h
theorem ends_st {o : Outcome} (h : o.ends = true) (x : String) : o ≠ .stuck x := fun z => by subst z; cases h
/-- a delegation that sleeps over a generator's object -/
def OverG (h : Heap) (y : GenState) : Prop := ∃ k l c p fs a o n, y = .suspended k l c p fs false ∧ yfIt c = some a ∧ h.get? a = some o ∧ o.genNumber? = some n
theorem sst_fin {s s1 : Shared} {t : Thread} {o : Outcome} (hz : s.asleep) (hc : t.calm = true) (he : t.atItsEnd = true) (h : ∀ others, lifeStep (denote table) P w others s t = .halt o s1) : sstep (denote table) P w (.single s t) = .halt o s1 := by
  simp only [sstep, pick_single w s t hc hz.1, Config.move]
  obtain ⟨cur, code, pos, stack⟩ := t
  cases cur <;> first
    | (exfalso; simp [Thread.atItsEnd] at he; done)
    | (simp only [Config.run, Config.single]; simp [h, others_single, frozenBadly, ThreadState.insideWrite, Thread.finalizes, Step.lift]; done)
    | (simp [Thread.calm] at hc; done)
/-- the end of a run, told of the real machine -/
structure SimEnd (s : Shared) (t : Thread) (o : Outcome) (s2 : Shared) : Prop where
  ex : ∃ m s', schedN (denote table) P w m (.single s t) = .halted o s' ∧ s'.heap = s2.heap ∧ s'.os = s2.os ∧ leftWithCleanup s'.gens = false ∧ s'.heap.life = s.heap.life
theorem SimEnd.step {s s1 : Shared} {t t1 : Thread} {o : Outcome} {s2 : Shared} (h : sstep (denote table) P w (.single s t) = .go (.single s1 t1)) (hl : s1.heap.life = s.heap.life) (z : SimEnd (P := P) (w := w) s1 t1 o s2) : SimEnd (P := P) (w := w) s t o s2 := by
  obtain ⟨m, s', h1, h2, h2', h3, h4⟩ := z.ex
  exact ⟨m + 1, s', by show (match sstep (denote table) P w (.single s t) with
    | .go c' => schedN (denote table) P w m c'
    | .halt o s => .halted o s) = _; rw [h]; exact h1, h2, h2', h3, h4.trans hl⟩
theorem closing_not {s : Shared} {fs : List Frame} {c : Code} {a : Addr} {o : Obj} {n : Nat} (hz : s.asleep) (hg : fs.any Frame.guarded = false) (q1 : yfIt c = some a) (q2 : s.heap.get? a = some o) (q3 : o.genNumber? = some n) : closingShows s fs c true = false := by
  unfold closingShows
  rw [hg]
  unfold yfIt at q1
  split at q1
  · rename_i id args
    split at q1
    · rename_i hid
      split at q1
      · rename_i b r hp
        cases q1
        subst hid
        obtain ⟨ps, kw⟩ := args
        simp only at hp
        subst hp
        simp only [Bool.false_or, Bool.true_and, delegateShows, q2, q3]
        rw [hz.1]; rfl
      · cases q1
    · cases q1
  · cases q1
/-- what sleeps over a generator's object is let go at the end -/
theorem left_fin {s : Shared} {b : Bool} (hz : s.asleep) (h1 : leftWithCleanup (s.gens.map unG) = false) (h2 : ∀ y ∈ s.gens.map unG, plainS y = true ∨ OverG s.heap y) : leftWithCleanup (forgetSuspended b s).gens = false := by
  cases e : leftWithCleanup (forgetSuspended b s).gens with
  | false => rfl
  | true =>
    exfalso
    unfold leftWithCleanup at e h1
    rw [Array.any_eq_true'] at e
    obtain ⟨x, hx, hc⟩ := e
    unfold forgetSuspended at hx
    obtain ⟨y, hy, rfl⟩ := Array.mem_map.mp hx
    cases y with
    | suspended k l c p fs cl =>
      cases cl with
      | false => cases hc
      | true =>
        have hm : unG (.suspended k l c p fs true) ∈ s.gens.map unG := Array.mem_map_of_mem hy
        have hp := h2 _ hm
        have hq : (fun | GenState.suspended _ _ _ _ _ c => c | _ => false) (unG (.suspended k l c p fs true)) = false := by
          cases hz : (fun | GenState.suspended _ _ _ _ _ c => c | _ => false) (unG (.suspended k l c p fs true)) with
          | false => rfl
          | true =>
            have : (s.gens.map unG).any (fun | GenState.suspended _ _ _ _ _ c => c | _ => false) = true := Array.any_eq_true'.mpr ⟨_, hm, hz⟩
            exact absurd (h1.symm.trans this) (by decide)
        have hu : isU c fs true = true := by
          cases hu : isU c fs true with
          | true => rfl
          | false =>
            unfold unG at hq
            simp only [hu] at hq
            cases hq
        have hg : fs.any Frame.guarded = false := by
          unfold isU at hu
          revert hu
          cases fs.any Frame.guarded <;> simp
        have ho : ∃ a o n, yfIt c = some a ∧ s.heap.get? a = some o ∧ o.genNumber? = some n := by
          unfold unG at hp
          simp only [hu] at hp
          rcases hp with hp | ⟨_, _, _, _, _, a, o, n, e, q1, q2, q3⟩
          · cases hp
          · injection e with _ _ e _ _ _
            subst e
            exact ⟨a, o, n, q1, q2, q3⟩
        obtain ⟨a, o, n, q1, q2, q3⟩ := ho
        have hsh := closing_not hz hg q1 q2 q3
        simp only [hsh, Bool.not_false, Bool.or_true, if_true] at hc
        cases hc
    | _ => cases hc
theorem asl_of {s s1 : Shared} (hz : s.asleep) (h : s1.heap.life = s.heap.life) : s1.asleep := Shared.asleep_of_life h hz
theorem sim {o : Outcome} {s2 : Shared} (ho : o.ends = true) (hp : ∀ y ∈ s2.gens, plainS y = true ∨ OverG s2.heap y) : ∀ (n : Nat) (s : Shared) (t : Thread), s.asleep → runNI (mY P w).den P w n (imS s) (imT t) = .halted o s2 → SimEnd (P := P) (w := w) s t o s2 := by
  intro n
  induction n using Nat.strongRecOn with
  | _ n ih =>
  intro s t hz h
  cases n with
  | zero => cases h
  | succ n =>
  have go : ∀ s1 t1, t.calm = true → step (denote table) P w s t = .go s1 t1 → s1.heap.life = s.heap.life → runNI (mY P w).den P w n (imS s1) (imT t1) = .halted o s2 → SimEnd (P := P) (w := w) s t o s2 := fun s1 t1 hc h1 h2 h3 =>
    SimEnd.step (sst_of hz hc h1) h2 (ih n (Nat.lt_succ_self n) s1 t1 (asl_of hz h2) h3)
  have fin : ∀ o1, t.calm = true → t.atItsEnd = true → (∀ s, step (denote table) P w s t = finish o1 s) → finish o1 (imS s) = .halt o s2 → SimEnd (P := P) (w := w) s t o s2 := by
    intro o1 hc hend h1 h2
    have h3 : leftWithCleanup (imS s).gens = false := by
      cases e : leftWithCleanup (imS s).gens with
      | false => rfl
      | true =>
        unfold finish at h2
        rw [e, if_pos rfl] at h2
        injection h2 with h2 _
        exact (ends_un ho _ h2.symm).elim
    unfold finish at h2
    rw [h3, if_neg (by decide)] at h2
    injection h2 with e1 e2
    subst e1; subst e2
    have h4 := left_fin (b := w.params.lifetimes == .anyTime) hz h3 hp
    have h5 : ∀ others, lifeStep (denote table) P w others s t = .halt o1 (forgetSuspended (w.params.lifetimes == .anyTime) s) := fun others => by
      rw [lifeStep_calm0 (denote table) P w others s t hc hz, hend, if_pos rfl, h1]
      unfold finish
      rw [h4, if_neg (by decide)]
    have h6 : schedN (denote table) P w 1 (.single s t) = .halted o1 (forgetSuspended (w.params.lifetimes == .anyTime) s) := by
      show (match sstep (denote table) P w (.single s t) with
        | .go c' => schedN (denote table) P w 0 c'
        | .halt o s => .halted o s) = _
      rw [sst_fin hz hc hend h5]
    exact ⟨1, forgetSuspended (w.params.lifetimes == .anyTime) s, h6, rfl, rfl, h4, rfl⟩
  have fe : ∀ o1, stepI (mY P w).den P w (imS s) (imT t) = finish o1 (imS s) → finish o1 (imS s) = .halt o s2 := by
    intro o1 hs
    rw [runI_succ, hs] at h
    have : ∃ o2, finish o1 (imS s) = .halt o2 (imS s) := by
      unfold finish
      cases leftWithCleanup (imS s).gens
      · exact ⟨o1, rfl⟩
      · exact ⟨_, rfl⟩
    obtain ⟨o2, e2⟩ := this
    rw [e2] at h ⊢
    injection h with h1 h2
    rw [h1, h2]
  obtain ⟨heap, gens, drawn, toks, os⟩ := s
  obtain ⟨cur, code, pos, stack⟩ := t
  cases cur with
  | rule tag k => exact go _ _ rfl rfl rfl h
  | «at» p k => exact go _ _ rfl rfl rfl h
  | loadIfAlive a k => exact go _ _ rfl rfl rfl h
  | point l k => exact go _ _ rfl rfl rfl h
  | fresh k => exact go _ _ rfl rfl rfl h
  | ask k => exact go _ _ rfl rfl rfl h
  | alloc x k => exact go _ _ rfl rfl rfl h
  | thread k => exact go _ _ rfl rfl rfl h
  | os q l k => exact go _ _ rfl rfl rfl h
  | newGen c k =>
    refine go ⟨heap, gens.push (.fresh c), drawn, toks, os⟩ ⟨k gens.size, code, pos, stack⟩ rfl rfl rfl ?_
    show runNI _ P w n ⟨heap, (gens.push (.fresh c)).map unG, drawn, toks, os⟩ ⟨unq code (k gens.size), code, pos, stack.map unF⟩ = _
    rw [Array.map_push, ← Array.size_map (f := unG) (xs := gens)]
    exact h
  | stack k =>
    refine go ⟨heap, gens, drawn, toks, os⟩ ⟨k ((code, pos) :: stack.map Frame.where_), code, pos, stack⟩ rfl rfl rfl ?_
    show runNI _ P w n (imS ⟨heap, gens, drawn, toks, os⟩) ⟨unq code (k ((code, pos) :: stack.map Frame.where_)), code, pos, stack.map unF⟩ = _
    rw [← map_where]
    exact h
  | handled own k =>
    cases own with
    | false =>
      refine go ⟨heap, gens, drawn, toks, os⟩ ⟨k (topHandled stack), code, pos, stack⟩ rfl rfl rfl ?_
      show runNI _ P w n (imS ⟨heap, gens, drawn, toks, os⟩) ⟨unq code (k (topHandled stack)), code, pos, stack.map unF⟩ = _
      rw [show topHandled stack = topHandled (stack.map unF) from (top_un stack false).symm]
      exact h
    | true =>
      refine go ⟨heap, gens, drawn, toks, os⟩ ⟨k (topHandled (ownFrames stack)), code, pos, stack⟩ rfl rfl rfl ?_
      show runNI _ P w n (imS ⟨heap, gens, drawn, toks, os⟩) ⟨unq code (k (topHandled (ownFrames stack))), code, pos, stack.map unF⟩ = _
      rw [← own_un]
      exact h
  | load a q k =>
    cases e : heap.get? a with
    | none =>
      rw [runI_succ] at h
      have q : (match step (mY P w).den P w ⟨heap, gens.map unG, drawn, toks, os⟩ ⟨.load a q (fun x => unq code (k x)), code, pos, stack.map unF⟩ with
        | .go s' t' => runNI (mY P w).den P w n s' t'
        | .halt o s' => .halted o s') = .halted o s2 := h
      simp only [step, e] at q
      injection q with h1 _
      exact (ends_st ho _ h1.symm).elim
    | some x =>
      refine go ⟨heap, gens, drawn, toks, os⟩ ⟨k x, code, pos, stack⟩ rfl (by simp only [step, e]) rfl ?_
      rw [runI_succ] at h
      have hs : stepI (mY P w).den P w (imS ⟨heap, gens, drawn, toks, os⟩) (imT ⟨.load a q k, code, pos, stack⟩) = .go (imS ⟨heap, gens, drawn, toks, os⟩) (imT ⟨k x, code, pos, stack⟩) := by
        show step (mY P w).den P w ⟨heap, gens.map unG, drawn, toks, os⟩ ⟨.load a q (fun x => unq code (k x)), code, pos, stack.map unF⟩ = .go ⟨heap, gens.map unG, drawn, toks, os⟩ ⟨unq code (k x), code, pos, stack.map unF⟩
        simp only [step, e]
      rw [hs] at h
      exact h
  | update a q f k =>
    by_cases e : (heap.get? a).isSome = true
    · refine go ⟨heap.update a f, gens, drawn, toks, os⟩ ⟨k (), code, pos, stack⟩ rfl (by simp only [step, e, if_true]) (by cases heap; rfl) ?_
      rw [runI_succ] at h
      have hs : stepI (mY P w).den P w (imS ⟨heap, gens, drawn, toks, os⟩) (imT ⟨.update a q f k, code, pos, stack⟩) = .go (imS ⟨heap.update a f, gens, drawn, toks, os⟩) (imT ⟨k (), code, pos, stack⟩) := by
        show step (mY P w).den P w ⟨heap, gens.map unG, drawn, toks, os⟩ ⟨.update a q f (fun x => unq code (k x)), code, pos, stack.map unF⟩ = .go ⟨heap.update a f, gens.map unG, drawn, toks, os⟩ ⟨unq code (k ()), code, pos, stack.map unF⟩
        simp only [step, e, if_true]
      rw [hs] at h
      exact h
    · rw [runI_succ] at h
      have q : (match step (mY P w).den P w ⟨heap, gens.map unG, drawn, toks, os⟩ ⟨.update a q f (fun x => unq code (k x)), code, pos, stack.map unF⟩ with
        | .go s' t' => runNI (mY P w).den P w n s' t'
        | .halt o s' => .halted o s') = .halted o s2 := h
      simp only [step, e] at q
      injection q with h1 _
      exact (ends_st ho _ h1.symm).elim
  | choose src m k =>
    by_cases e : m = 0
    · rw [runI_succ] at h
      have q : (match step (mY P w).den P w ⟨heap, gens.map unG, drawn, toks, os⟩ ⟨.choose src m (fun x => unq code (k x)), code, pos, stack.map unF⟩ with
        | .go s' t' => runNI (mY P w).den P w n s' t'
        | .halt o s' => .halted o s') = .halted o s2 := h
      simp only [step, e, if_true] at q
      injection q with h1 _
      exact (ends_st ho _ h1.symm).elim
    · refine go ⟨heap, gens, drawn.bump src, toks, os⟩ ⟨k (w.draws src (drawn.get src) % m), code, pos, stack⟩ rfl (by simp only [step, e, if_false]) rfl ?_
      rw [runI_succ] at h
      have hs : stepI (mY P w).den P w (imS ⟨heap, gens, drawn, toks, os⟩) (imT ⟨.choose src m k, code, pos, stack⟩) = .go (imS ⟨heap, gens, drawn.bump src, toks, os⟩) (imT ⟨k (w.draws src (drawn.get src) % m), code, pos, stack⟩) := by
        show step (mY P w).den P w ⟨heap, gens.map unG, drawn, toks, os⟩ ⟨.choose src m (fun x => unq code (k x)), code, pos, stack.map unF⟩ = .go ⟨heap, gens.map unG, drawn.bump src, toks, os⟩ ⟨unq code (k (w.draws src (drawn.get src) % m)), code, pos, stack.map unF⟩
        simp only [step, e, if_false]
      rw [hs] at h
      exact h
  | genState g k =>
    cases e : gens[g]? with
    | none =>
      rw [runI_succ] at h
      have q : (match step (mY P w).den P w ⟨heap, gens.map unG, drawn, toks, os⟩ ⟨.genState g (fun x => unq code (k x)), code, pos, stack.map unF⟩ with
        | .go s' t' => runNI (mY P w).den P w n s' t'
        | .halt o s' => .halted o s') = .halted o s2 := h
      simp only [step, gens_im, e, Option.map_none] at q
      injection q with h1 _
      exact (ends_st ho _ h1.symm).elim
    | some x =>
      refine go ⟨heap, gens, drawn, toks, os⟩ ⟨k x.seen, code, pos, stack⟩ rfl (by simp only [step, e]; cases x <;> rfl) rfl ?_
      rw [runI_succ] at h
      have hs : stepI (mY P w).den P w (imS ⟨heap, gens, drawn, toks, os⟩) (imT ⟨.genState g k, code, pos, stack⟩) = .go (imS ⟨heap, gens, drawn, toks, os⟩) (imT ⟨k x.seen, code, pos, stack⟩) := by
        show step (mY P w).den P w ⟨heap, gens.map unG, drawn, toks, os⟩ ⟨.genState g (fun x => unq code (k x)), code, pos, stack.map unF⟩ = .go ⟨heap, gens.map unG, drawn, toks, os⟩ ⟨unq code (k x.seen), code, pos, stack.map unF⟩
        rw [← unG_seen x]
        simp only [step, gens_im, e, Option.map_some]
        cases unG x <;> rfl
      rw [hs] at h
      exact h
  | pure f =>
    cases f with
    | done f =>
      cases stack with
      | nil => exact fin (.done f) rfl rfl (fun _ => rfl) (fe _ rfl)
      | cons F rest =>
        cases F with
        | ret k hd g l c p kp => exact go ⟨heap, gens, drawn, toks, os⟩ ⟨k (.ok f), c, p, rest⟩ rfl rfl rfl h
        | gen g k l c p =>
          have key : ∀ v, step (denote table) P w ⟨heap, gens, drawn, toks, os⟩ ⟨.pure (.done f), code, pos, .gen g k l c p :: rest⟩ = .go ⟨heap, gens.setIfInBounds g .finished, drawn, toks, os⟩ ⟨k (.returned v), c, p, rest⟩ →
              stepI (mY P w).den P w (imS ⟨heap, gens, drawn, toks, os⟩) (imT ⟨.pure (.done f), code, pos, .gen g k l c p :: rest⟩) = .go ⟨heap, (gens.map unG).setIfInBounds g .finished, drawn, toks, os⟩ ⟨unq c (k (.returned v)), c, p, rest.map unF⟩ → SimEnd (P := P) (w := w) ⟨heap, gens, drawn, toks, os⟩ ⟨.pure (.done f), code, pos, .gen g k l c p :: rest⟩ o s2 := by
            intro v h1 h2
            refine go ⟨heap, gens.setIfInBounds g .finished, drawn, toks, os⟩ ⟨k (.returned v), c, p, rest⟩ rfl h1 rfl ?_
            show runNI _ P w n ⟨heap, (gens.setIfInBounds g .finished).map unG, drawn, toks, os⟩ ⟨unq c (k (.returned v)), c, p, rest.map unF⟩ = _
            rw [set_im]
            rw [runI_succ, h2] at h
            exact h
          cases f with
          | ret v => exact key v rfl rfl
          | next => exact key .none rfl rfl
          | brk => exact key .none rfl rfl
          | cont => exact key .none rfl rfl
    | again c =>
      have hl : Thread.loud (imT ⟨.pure (.again c), code, pos, stack⟩) = !c.quiet := Thread.loud_again c code pos (stack.map unF)
      cases hq : c.quiet with
      | false =>
        rw [runI_succ, stepI_loud _ _ _ (by rw [hl, hq]; rfl)] at h
        injection h with h1 _
        exact (ends_st ho _ h1.symm).elim
      | true =>
        have hc : Thread.calm ⟨.pure (.again c), code, pos, stack⟩ = true := by
          rw [Thread.calm_eq, Thread.loud_again, hq]; rfl
        rw [runI_succ, stepI_quiet _ _ _ (by rw [hl, hq]; rfl)] at h
        obtain ⟨st2, e1, e2⟩ : ∃ st2, step (denote table) P w ⟨heap, gens, drawn, toks, os⟩ ⟨.pure (.again c), code, pos, stack⟩ = .go ⟨heap, gens, drawn, toks, os⟩ ⟨denote table c, c, pos, st2⟩ ∧ st2.map unF = stack.map unF := by
          refine ⟨_, rfl, ?_⟩
          split <;> rfl
        refine go ⟨heap, gens, drawn, toks, os⟩ ⟨denote table c, c, pos, st2⟩ hc e1 rfl ?_
        show runNI _ P w n (imS ⟨heap, gens, drawn, toks, os⟩) ⟨unq c (denote table c), c, pos, st2.map unF⟩ = _
        rw [e2]
        exact h
  | raise e =>
    cases stack with
    | nil => exact fin (.uncaught e) rfl rfl (fun _ => rfl) (fe _ rfl)
    | cons F rest =>
      cases F with
      | ret k hd g l c p kp => exact go ⟨heap, gens, drawn, toks, os⟩ ⟨k (.error e), c, p, rest⟩ rfl rfl rfl h
      | gen g k l c p =>
        refine go ⟨heap, gens.setIfInBounds g .finished, drawn, toks, os⟩ ⟨k (.raised e), c, p, rest⟩ rfl rfl rfl ?_
        show runNI _ P w n ⟨heap, (gens.setIfInBounds g .finished).map unG, drawn, toks, os⟩ ⟨unq c (k (.raised e)), c, p, rest.map unF⟩ = _
        rw [set_im]
        exact h
  | finish e => exact fin (.ended e) rfl rfl (fun _ => rfl) (fe _ rfl)
  | unsupported x => injection h with h1 _; exact (ends_un ho _ h1.symm).elim
  | register a k => injection h with h1 _; exact (ends_un ho _ h1.symm).elim
  | fork c k => injection h with h1 _; exact (ends_un ho _ h1.symm).elim
  | await a f d l k => injection h with h1 _; exact (ends_un ho _ h1.symm).elim
  | call c hd g l k => exact go ⟨heap, gens, drawn, toks, os⟩ ⟨denote table c, c, pos, _⟩ rfl rfl rfl h
  | resume g r l k =>
    have hl : Thread.loud (imT ⟨.resume g r l k, code, pos, stack⟩) = false := rfl
    rw [runI_succ, stepI_quiet _ _ _ hl] at h
    have hst : ∀ z, step (mY P w).den P w ⟨heap, gens.map unG, drawn, toks, os⟩ ⟨.resume g r [] (fun x => unq code (k x)), code, pos, stack.map unF⟩ = z → (match z with
        | .go s' t' => runNI (mY P w).den P w n s' t'
        | .halt o s' => .halted o s') = .halted o s2 := fun z hz => by rw [← hz]; exact h
    cases e : gens[g]? with
    | none =>
      have q := hst (.halt (.stuck "resume: no such generator") ⟨heap, gens.map unG, drawn, toks, os⟩) (by simp only [step, gens_im, e, Option.map_none])
      injection q with h1 _
      exact (ends_st ho _ h1.symm).elim
    | some x =>
      have im : ∀ (y : GenState) (gs : Array GenState) (c : Sem PySem.Fin) (d : Code) (p : Pos) (st : List Frame), step (denote table) P w ⟨heap, gens, drawn, toks, os⟩ ⟨.resume g r l k, code, pos, stack⟩ = .go ⟨heap, gs, drawn, toks, os⟩ ⟨c, d, p, st⟩ →
          step (mY P w).den P w ⟨heap, gens.map unG, drawn, toks, os⟩ ⟨.resume g r [] (fun x => unq code (k x)), code, pos, stack.map unF⟩ = .go ⟨heap, gs.map unG, drawn, toks, os⟩ ⟨unq d c, d, p, st.map unF⟩ → SimEnd (P := P) (w := w) ⟨heap, gens, drawn, toks, os⟩ ⟨.resume g r l k, code, pos, stack⟩ o s2 :=
        fun y gs c d p st h1 h2 => go ⟨heap, gs, drawn, toks, os⟩ ⟨c, d, p, st⟩ rfl h1 rfl (hst _ h2)
      cases x with
      | fresh c =>
        cases r with
        | throw ex => exact im .running (gens.setIfInBounds g .finished) (k (.raised ex)) code pos stack (by simp only [step, e]) (by rw [set_im]; simp only [step, gens_im, e, Option.map_some, unG])
        | send v =>
          cases v with
          | none =>
            refine im .running (gens.setIfInBounds g .running) (denote table c) c pos (.gen g k l code pos :: stack) (by simp only [step, e]) ?_
            rw [set_im]
            simp only [step, gens_im, e, Option.map_some, unG, List.map_cons, unF]
            rfl
          | _ => exact im .running gens (k .justStarted) code pos stack (by simp only [step, e]) (by simp only [step, gens_im, e, Option.map_some, unG])
      | suspended kk l0 c p fs cl =>
        refine im .running (gens.setIfInBounds g .running) (kk r) c p (fs ++ .gen g k l code pos :: stack) (by simp only [step, e]) ?_
        rw [set_im]
        simp only [step, gens_im, e, Option.map_some, unG]
        generalize isU c fs cl = u
        cases u <;> simp only [List.map_append, List.map_cons, unF]
      | running => exact im .running gens (k .running) code pos stack (by simp only [step, e]) (by simp only [step, gens_im, e, Option.map_some, unG])
      | finished => exact im .running gens (k .finished) code pos stack (by simp only [step, e]) (by simp only [step, gens_im, e, Option.map_some, unG])
  | yield v g l k =>
    cases g with
    | false =>
      cases es : splitAtGen stack with
      | none =>
        have hl : Thread.loud (imT ⟨.yield v false l k, code, pos, stack⟩) = false := by
          show Thread.loud ⟨.yield v false [] (fun x => unq code (k x)), code, pos, stack.map unF⟩ = false
          simp [Thread.loud, Thread.atCollectorCode, Thread.yieldsInsideHandler, split_im, es]
        rw [runI_succ, stepI_quiet _ _ _ hl] at h
        have q : (match step (mY P w).den P w ⟨heap, gens.map unG, drawn, toks, os⟩ ⟨.yield v false [] (fun x => unq code (k x)), code, pos, stack.map unF⟩ with
          | .go s' t' => runNI (mY P w).den P w n s' t'
          | .halt o s' => .halted o s') = .halted o s2 := h
        simp only [step, split_im, es, Option.map_none] at q
        injection q with h1 _
        exact (ends_st ho _ h1.symm).elim
      | some x =>
        obtain ⟨fs, ⟨g, kk, c, p⟩, rest⟩ := x
        cases hg : fs.any Frame.guarded with
        | true =>
          have hl : Thread.loud (imT ⟨.yield v false l k, code, pos, stack⟩) = true := by
            show Thread.loud ⟨.yield v false [] (fun x => unq code (k x)), code, pos, stack.map unF⟩ = true
            rw [Thread.loud_yield v false [] _ code pos (fs := fs.map unF) (b := (g, (fun r => unq c (kk r)), c, p)) (rest := rest.map unF) (by rw [split_im, es]; rfl), any_guard, hg]
            rfl
          rw [runI_succ, stepI_loud _ _ _ hl] at h
          injection h with h1 _
          exact (ends_st ho _ h1.symm).elim
        | false =>
          have hl : Thread.loud (imT ⟨.yield v false l k, code, pos, stack⟩) = false := by
            show Thread.loud ⟨.yield v false [] (fun x => unq code (k x)), code, pos, stack.map unF⟩ = false
            rw [Thread.loud_yield v false [] _ code pos (fs := fs.map unF) (b := (g, (fun r => unq c (kk r)), c, p)) (rest := rest.map unF) (by rw [split_im, es]; rfl), any_guard, hg]
            rfl
          have hc : Thread.calm ⟨.yield v false l k, code, pos, stack⟩ = true := by
            rw [Thread.calm_eq, Thread.loud_yield v false l k code pos es, hg]; rfl
          rw [runI_succ, stepI_quiet _ _ _ hl] at h
          have q : (match step (mY P w).den P w ⟨heap, gens.map unG, drawn, toks, os⟩ ⟨.yield v false [] (fun x => unq code (k x)), code, pos, stack.map unF⟩ with
            | .go s' t' => runNI (mY P w).den P w n s' t'
            | .halt o s' => .halted o s') = .halted o s2 := h
          refine go ⟨heap, gens.setIfInBounds g (.suspended k l code pos fs false), drawn, toks, os⟩ ⟨kk (.yielded v), c, p, rest⟩ hc (by simp only [step, es, hg, Bool.or_false]) rfl ?_
          simp only [step, split_im, es, Option.map_some, any_guard, hg, Bool.or_false] at q
          show runNI _ P w n ⟨heap, (gens.setIfInBounds g (.suspended k l code pos fs false)).map unG, drawn, toks, os⟩ ⟨unq c (kk (.yielded v)), c, p, rest.map unF⟩ = _
          rw [set_im]
          exact q
    | true =>
      cases hy : yfIt code with
      | none =>
        have e1 : imT ⟨.yield v true l k, code, pos, stack⟩ = ⟨.yield v true [] (fun x => unq code (k x)), code, pos, stack.map unF⟩ := by
          unfold imT
          simp only [unq, hy]
        rw [e1] at h
        cases es : splitAtGen stack with
        | some x =>
          obtain ⟨fs, ⟨g, kk, c, p⟩, rest⟩ := x
          have hl : Thread.loud ⟨.yield v true [] (fun x => unq code (k x)), code, pos, stack.map unF⟩ = true := by
            rw [Thread.loud_yield v true [] _ code pos (fs := fs.map unF) (b := (g, (fun r => unq c (kk r)), c, p)) (rest := rest.map unF) (by rw [split_im, es]; rfl)]
            rfl
          rw [runI_succ, stepI_loud _ _ _ hl] at h
          injection h with h1 _
          exact (ends_st ho _ h1.symm).elim
        | none =>
          have hl : Thread.loud ⟨.yield v true [] (fun x => unq code (k x)), code, pos, stack.map unF⟩ = true := by
            simp [Thread.loud, Thread.yieldsInsideHandler]
          rw [runI_succ, stepI_loud _ _ _ hl] at h
          injection h with h1 _
          exact (ends_st ho _ h1.symm).elim
      | some a =>
        have e1 : imT ⟨.yield v true l k, code, pos, stack⟩ = ⟨.load a none (fun o => match o.genNumber? with
            | some _ => .yield v false [.none] fun x => unq code (k x)
            | none => .unsupported ""), code, pos, stack.map unF⟩ := by
          unfold imT
          simp only [unq, hy]
          try rfl
        rw [e1] at h
        cases eo : heap.get? a with
        | none =>
          rw [runI_succ] at h
          have q : (match step (mY P w).den P w ⟨heap, gens.map unG, drawn, toks, os⟩ ⟨.load a none (fun o => match o.genNumber? with
            | some _ => .yield v false [.none] fun x => unq code (k x)
            | none => .unsupported ""), code, pos, stack.map unF⟩ with
            | .go s' t' => runNI (mY P w).den P w n s' t'
            | .halt o s' => .halted o s') = .halted o s2 := h
          simp only [step, eo] at q
          injection q with h1 _
          exact (ends_st ho _ h1.symm).elim
        | some ob =>
          have q : runNI (mY P w).den P w n ⟨heap, gens.map unG, drawn, toks, os⟩ ⟨match ob.genNumber? with
            | some _ => .yield v false [.none] fun x => unq code (k x)
            | none => .unsupported "", code, pos, stack.map unF⟩ = .halted o s2 := by
            rw [runI_succ] at h
            have q : (match step (mY P w).den P w ⟨heap, gens.map unG, drawn, toks, os⟩ ⟨.load a none (fun o => match o.genNumber? with
              | some _ => .yield v false [.none] fun x => unq code (k x)
              | none => .unsupported ""), code, pos, stack.map unF⟩ with
              | .go s' t' => runNI (mY P w).den P w n s' t'
              | .halt o s' => .halted o s') = .halted o s2 := h
            simp only [step, eo] at q
            exact q
          cases n with
          | zero => cases q
          | succ n =>
          cases en : ob.genNumber? with
          | none =>
            rw [en] at q
            injection q with h1 _
            exact (ends_un ho _ h1.symm).elim
          | some nn =>
            rw [en] at q
            dsimp only at q
            cases es : splitAtGen stack with
            | none =>
              have hl : Thread.loud ⟨.yield v false [.none] (fun x => unq code (k x)), code, pos, stack.map unF⟩ = false := by
                simp [Thread.loud, Thread.atCollectorCode, Thread.yieldsInsideHandler, split_im, es]
              rw [runI_succ, stepI_quiet _ _ _ hl] at q
              have q : (match step (mY P w).den P w ⟨heap, gens.map unG, drawn, toks, os⟩ ⟨.yield v false [.none] (fun x => unq code (k x)), code, pos, stack.map unF⟩ with
                | .go s' t' => runNI (mY P w).den P w n s' t'
                | .halt o s' => .halted o s') = .halted o s2 := q
              simp only [step, split_im, es, Option.map_none] at q
              injection q with h1 _
              exact (ends_st ho _ h1.symm).elim
            | some x =>
              obtain ⟨fs, ⟨g, kk, c, p⟩, rest⟩ := x
              cases hg : fs.any Frame.guarded with
              | true =>
                have hl : Thread.loud ⟨.yield v false [.none] (fun x => unq code (k x)), code, pos, stack.map unF⟩ = true := by
                  rw [Thread.loud_yield v false [.none] _ code pos (fs := fs.map unF) (b := (g, (fun r => unq c (kk r)), c, p)) (rest := rest.map unF) (by rw [split_im, es]; rfl), any_guard, hg]
                  rfl
                rw [runI_succ, stepI_loud _ _ _ hl] at q
                injection q with h1 _
                exact (ends_st ho _ h1.symm).elim
              | false =>
                have hl : Thread.loud ⟨.yield v false [.none] (fun x => unq code (k x)), code, pos, stack.map unF⟩ = false := by
                  rw [Thread.loud_yield v false [.none] _ code pos (fs := fs.map unF) (b := (g, (fun r => unq c (kk r)), c, p)) (rest := rest.map unF) (by rw [split_im, es]; rfl), any_guard, hg]
                  rfl
                rw [runI_succ, stepI_quiet _ _ _ hl] at q
                have q : (match step (mY P w).den P w ⟨heap, gens.map unG, drawn, toks, os⟩ ⟨.yield v false [.none] (fun x => unq code (k x)), code, pos, stack.map unF⟩ with
                  | .go s' t' => runNI (mY P w).den P w n s' t'
                  | .halt o s' => .halted o s') = .halted o s2 := q
                simp only [step, split_im, es, Option.map_some, any_guard, hg, Bool.or_false] at q
                have hu : isU code fs true = true := by unfold isU; rw [hy, hg]; rfl
                refine SimEnd.step (sst_yield hz hy eo en es hg) rfl (ih n (by omega) _ _ (asl_of hz rfl) ?_)
                show runNI _ P w n ⟨heap, (gens.setIfInBounds g (.suspended k l code pos fs true)).map unG, drawn, toks, os⟩ ⟨unq c (kk (.yielded v)), c, p, rest.map unF⟩ = _
                rw [set_im]
                have e3 : unG (.suspended k l code pos fs true) = .suspended (fun r => unq code (k r)) [.none] code pos (fs.map unF) false := by
                  unfold unG
                  simp only [hu]
                rw [e3]
                exact q
end
end DL
namespace DL
open PySem PySem.Spec PySem.W PyProof.Rows
open Sem (wp)
/-- nothing that sleeps has a clean-up, in either machine -/
def Quiet (s : Shared) : Prop := AllBare s.gens ∧ ∀ y ∈ s.gens, plainS y = true ∨ OverG s.heap y
theorem ends_Y {P : Program} {w : World} {t : Sem PySem.Fin} {s : Shared} {T : Result → Shared → Prop} (hz : s.asleep) (hg : s.gens = #[])
    (h : wpAny (mY P w) callerA t (fun x s' => ∃ f, x = .done f ∧ T (.ok f) s' ∧ Quiet s') (fun e s' => T (.error e) s' ∧ Quiet s') s) :
    ∃ k r s1 s2, schedN (denote table) P w k (.single s ⟨t, .builtin "claim.caller" {}, default, []⟩) = .halted (outcomeOf r) s1 ∧ s1.heap = s2.heap ∧ s1.os = s2.os ∧ s1.heap.life = s.heap.life ∧ T r s2 := by
  have h1 := wp_of_wpAny_done (R := fun r s' => (T r s' ∧ ∀ y ∈ s'.gens, plainS y = true ∨ OverG s'.heap y) ∧ leftWithCleanup s'.gens = false) caller_in
    (wpAny_mono h (fun x s' ⟨f, e, a, b⟩ => ⟨f, e, ⟨a, b.2⟩, leftWithCleanup_false_of_bare b.1⟩) fun e s' ⟨a, b⟩ => ⟨⟨a, b.2⟩, leftWithCleanup_false_of_bare b.1⟩) default
  have h2 := wp_strip (c := .builtin "claim.caller" {}) t _ _ _ _ h1
  obtain ⟨n, r, s2, hn, hT, hp⟩ := (wp_iff_halts (M := mY P w) (R := fun r s' => T r s' ∧ ∀ y ∈ s'.gens, plainS y = true ∨ OverG s'.heap y) ..).mp h2
  have im : imS s = s := by
    obtain ⟨a, b, c, d, e⟩ := s
    cases (show b = #[] from hg)
    unfold imS
    simp
  obtain ⟨m, s1, e1, e2, e2', e3, e4⟩ := (sim (P := P) (w := w) (outcomeOf_ends r) hp n s ⟨t, .builtin "claim.caller" {}, default, []⟩ hz (by rw [im]; exact hn)).ex
  exact ⟨m, r, s1, s2, e1, e2, e2', e4, hT⟩
theorem call_Y {c : ClaimW} {tree : List Value → Sem PySem.Fin} {w : World} {s : Shared} {free : Addr → Prop} {gens : Prop} {kept : Heap → Prop} (hz : s.asleep) (hg : s.gens = #[])
    (spec : ∀ args, c.pre args = true → WData.layableAll args = true → ∀ ord : List DictEntry → List DictEntry, (∀ l, (ord l).Perm l) → ∃ vs s1, layAllW c.records (classAt s.heap) w.params ord args s = some (vs, s1) ∧
      wpAny (mY c.prog w) callerA (tree vs) (fun x s' => ∃ f, x = .done f ∧ (c.Ends s args vs s1 (.ok f) s' ∧ s'.os = s.os ∧ kept s'.heap) ∧ Quiet s') (fun e s' => (c.Ends s args vs s1 (.error e) s' ∧ s'.os = s.os ∧ kept s'.heap) ∧ Quiet s') s1) :
    c.CallFrom (fun vs => ⟨tree vs, .builtin "claim.caller" {}, default, []⟩) w free gens kept s := fun args h1 h2 ord h3 => by
  obtain ⟨vs, s1, hl, hw⟩ := spec args h1 h2 ord h3
  have al := layAllW_rest _ _ _ hl
  obtain ⟨k, r, a, b, e1, e2, e3, e4, en, eo, ek⟩ := ends_Y (P := c.prog) (w := w) (t := tree vs) (s := s1) (T := fun r s' => c.Ends s args vs s1 r s' ∧ s'.os = s.os ∧ kept s'.heap) (Shared.asleep_of_life al.2.2.2 hz) (al.1.trans hg) hw
  have en := en.congr e2
  have lf : a.heap.life = s.heap.life := e4.trans al.2.2.2
  rw [← e3] at eo
  refine ⟨vs, s1, hl, k, _, a, e1, ?_, (fun _ i x hx => by rw [hg] at hx; simp at hx), by rw [e2]; exact ek, by rw [lf], Shared.rest_eq eo⟩
  rcases en with ⟨v, rfl, d1, d2, d3, d4, d5⟩ | ⟨e, ob, cls, rfl, d1, d2, d3, d4, d5⟩
  · exact .inl ⟨v, rfl, d1, d2, d3, fun b o y _ => d4 b o y, d5⟩
  · exact .inr ⟨e, ob, cls, rfl, d1, d2, d3, d4, fun b o y _ => d5 b o y⟩
/-- what is asked of the call, in the second machine -/
abbrev WalkY (q : Program) (loose : List Str) (XP : (Str → Option Value) → Heap → Prop) (YP : World → Heap → Prop) (r : RowW) (d : DefRec) (kwd : List (Str × Expr)) (run : Value → List Value → Sem Value) : Prop :=
  ∀ (w : World) (s₀ s₁ : Shared) (mg mb : Str → Option Value), Ground q loose r.records XP w s₀ mg mb s₁.heap → YP w s₁.heap →
    ∀ (a : Addr) (o : Obj) (pm cd doc dV kV : Value), s₁.heap.get? a = some o → o.data = .func { PySem.Calls.docDef d.name d.params d.body d.scope pm cd doc with defaults := dV, kwdefaults := kV } →
    s₁.heap.CodeRec cd d.name → Dflts mg s₁.heap d.params kwd dV kV → mg d.name = some (.ref a) → s₁.gens = #[] →
    ∀ (args : List WData) (vals : List Value) (as : List Addr), r.claim.pre args = true → WData.layableAll args = true → ReadsAllW r.records (classAt s₀.heap) s₁.heap vals args as →
    WellAll w.params s₁.heap vals args → (∀ a ∈ as, (a == sysModules) = false) →
    wpAny (mY r.prog w) callerA (run (.ref a) vals)
      (fun v s' => GoodWG r.claim (classAt s₀.heap) (ExcName.means s₀.heap) args s₁ (.ok (.ret v)) s' ∧ Quiet s')
      (fun e s' => GoodWG r.claim (classAt s₀.heap) (ExcName.means s₀.heap) args s₁ (.error e) s' ∧ Quiet s') s₁
end DL
namespace HY
open PySem PySem.Spec PySem.W PyProof.Rows DL
theorem PySem.W.holds_open {r : OpenRow} {q : Program} {loose : List Str} {Xt : Shared → Bool} {XP : (Str → Option Value) → Heap → Prop} {α : Type} {Yf : Shared → α} {Ya : World → α} {YP : World → Heap → Prop} {d : DefRec} {kwd : List (Str × Expr)} {N : Nat}
    (left : LeftO r.prog q loose Xt Yf Ya N) (hY : ∀ w s, Yf s = Ya w → YP w s.heap)
    (hYk : ∀ w h h', YP w h → (∀ b o, h.get? b = some o → h'.get? b = some o) → YP w h')
    (hX : ∀ s, Xt s = true → XP (s.heap.nsMap mainGlobals) s.heap)
    (hXk : ∀ mg h h', XP mg h → (∀ b o, h.get? b = some o → h'.get? b = some o) → XP mg h')
    (hdef : defOf q r.name = some (d, kwd)) (hp : r.prog.theDef r.name = some (d.params, d.body, d.scope))
    (hk : kwWritten? d.params.kwonlyargs d.params.kw_defaults = some kwd) (hRf : ∀ s, Xt s = true → RecFacts r.records s.heap)
    (hwr : (!r.writes || r.records.isEmpty) = true) (k1 : r.wellSaid = true)
    (ok : (chainsOk q && opensWell r.prog && (frees r.toRowW && r.within.isEmpty)) = true) (hb : r.prog.bare) (hw : r.toRowW.promised)
    (call : WalkY q loose XP YP r.toRowW d kwd fun f vs => PySem.call f vs) : r.Holds := by
  refine ⟨k1, hw, ?_⟩
  rw [Bool.and_eq_true, Bool.and_eq_true, Bool.and_eq_true] at ok
  obtain ⟨⟨o1, o2⟩, o3, o4⟩ := ok
  obtain ⟨f1, f2, f3, f4, f5⟩ := frees_parts o3
  have bh := left.behind (XP := fun mg h => XP mg h ∧ RecFacts r.records h) (fun s hs => ⟨hX s hs, hRf s hs⟩) o1
  refine ⟨⟨hb, o2, by show r.toRowW.makers.map _ = []; rw [f5]; rfl⟩, hw.witness, fun w => ⟨(left.behind hX o1 w).1, fun s' hs' => ?_⟩⟩
  obtain ⟨s0, g1, g2, s, g3, g4, g5, g6, G, y⟩ := (bh w).2 s' hs'
  have G0 : Ground q loose [] XP w s (s.heap.nsMap mainGlobals) (s.heap.nsMap builtinsNs) s.heap := ⟨G.T, G.B, G.D, G.TE, G.TD, G.W, G.X.1, G.cls, G.has, G.apart, G.once, G.K⟩
  have RF := G.X.2
  have top := g3
  refine ⟨s0, g1, g2, s, g3, fun n hn => ?_, RF.1, RF.2.1, ?_⟩
  · obtain rfl : n = r.name := by split at hn <;> simp_all
    exact pinned_of_view g6 G0 hdef hp hk
  have e0 : s.gens = #[] := Array.eq_empty_of_size_eq_zero (beq_iff_eq.mp g5)
  have GR : Ground q loose r.records XP w s _ _ s.heap := RF.ground G0
  refine call_Y (c := r.toRowW.claim) (tree := fun vs => do match ← nsGet mainNs r.name with
      | some f => do ret (← PySem.call f vs)
      | none => unsupported "claim.caller:no-such-global") g4 e0 fun args hpre hlay ord hord => ?_
  obtain ⟨⟨vs, s1⟩, hl⟩ := Option.isSome_iff_exists.mp (layAllW_isSome (P := w.params) (ord := ord) GR.has args r.toRowW.args s (pre_splitW hpre).1)
  have kp := layAllW_keeps _ _ _ hl
  have al := layAllW_rest _ _ _ hl
  obtain ⟨as, r1, r2, r3⟩ := reads_layAllW hord _ _ _ hl hlay s1.heap (fun _ _ e => e)
  have L : Laid r.records w s s1 args vs as := ⟨⟨ord, hord, hl⟩, r1, r2, r3, kp, al.1.trans e0, al.2.2.1⟩
  have G1 := GR.keeps hXk kp
  obtain ⟨a, o, pm, cd, doc, dV, kV, q1, q2, q3, q4, q5⟩ := G1.fn hdef
  have run := call w s s1 _ _ G1 (hYk _ _ _ (hY w s y) kp) a o pm cd doc dV kV q2 q3 q4 q5 (defOf_name hdef ▸ q1) L.gens args vs as hpre hlay L.reads L.well (L.low GR.low)
  have hi := ident_freeW f2 f3 f4
  have hwi : r.toRowW.claim.within = [] := List.isEmpty_iff.mp o4
  refine ⟨vs, s1, hl, wpAny_bind (wpAny_nsGet G1.T.g ?_)⟩
  rw [q1]
  refine wpAny_bind (wpAny_mono run (fun v s2 g => wpAny_pure ?_) fun e s2 g => ?_)
  · have z := g.1.laid (c := r.toRowW.claim) f1 hwi hi L
    exact ⟨_, rfl, ⟨z.1, z.2.1, fun q => ⟨namesKept_of top g6 _ kp g.1.2.1.old, noTable hwr q⟩⟩, g.2⟩
  · have z := g.1.laid (c := r.toRowW.claim) f1 hwi hi L
    exact ⟨⟨z.1, z.2.1, fun q => ⟨namesKept_of top g6 _ kp g.1.2.1.old, noTable hwr q⟩⟩, g.2⟩
end HY
namespace DL
open PySem PySem.Spec L2
open PyProof.Rows hiding St
/-- nothing is raised -/
def NoX (X : Cx) : Prop := ∀ e s, X.xe e s → False
abbrev noE : Value → Shared → Prop := fun _ _ => False
section
variable {X : Cx}
theorem NoX.calm (h : NoX X) : CalmU X.xe := ⟨fun _ b _ e _ q => (h e b q).elim, fun e b q => (h e b q).elim⟩
/-- behind a step: what is kept adds up -/
theorem thnU {α : Type} {M : Model} {A : Around} {t : Sem α} {Q Q' : α → Shared → Prop} {F : Value → Shared → Prop} {s0 s : Shared} (k0 : KeptU s0 s) (h : wpAny M A t (fun a s1 => Q a s1 ∧ KeptU s s1) F s) (hQ : ∀ a s1, Q a s1 → KeptU s0 s1 → Q' a s1) : wpAny M A t Q' F s :=
  wpAny_mono h (fun a s1 z => hQ a s1 z.1 (k0.trans z.2)) fun _ _ z => z
theorem noX_mono {α : Type} {M : Model} {A : Around} {t : Sem α} {Q : α → Shared → Prop} {s : Shared} {F : Value → Shared → Prop} {Z : Value → Shared → Prop} (h : wpAny M A t Q (fun e s' => F e s' ∧ Z e s') s) (hF : ∀ e s, F e s → False) : wpAny M A t Q noE s :=
  wpAny_mono h (fun _ _ z => z) fun e s z => hF e s z.1
structure YE (X : Cx) (e : Expr) (t : TE) : Prop where
  run : ∀ (pins : List (Addr × Obj)) (s : Shared) (σ : L2.St) (H : Hp) (Q : VK), Inv X pins σ H s → t σ H Q → wpAny (mY X.prog X.w) X.A (eval e X.env) (fun u s' => EP X pins σ Q u s' ∧ KeptU s s') noE s
structure YT (X : Cx) (e : Expr) (t : L2.TT) : Prop where
  run : ∀ (pins : List (Addr × Obj)) (s : Shared) (σ : L2.St) (H : Hp) (Q : Bool → Hp → Prop), Inv X pins σ H s → t σ H Q → wpAny (mY X.prog X.w) X.A (isTrue e X.env (eval e X.env)) (fun u s' => TP X pins σ Q u s' ∧ KeptU s s') noE s
structure YW (X : Cx) (e : Expr) (t : L2.TT) : Prop where
  run : ∀ (whole : Sem Value) (pins : List (Addr × Obj)) (s : Shared) (σ : L2.St) (H : Hp) (Q : Bool → Hp → Prop), Inv X pins σ H s → t σ H Q → wpAny (mY X.prog X.w) X.A (isTrue e X.env whole) (fun u s' => TP X pins σ Q u s' ∧ KeptU s s') noE s
structure YA (X : Cx) (es : List Expr) (t : TA) : Prop where
  run : ∀ (pos : Pos) (pins : List (Addr × Obj)) (s : Shared) (σ : L2.St) (H : Hp) (Q : List V → Hp → Prop), Inv X pins σ H s → t σ H Q → wpAny (mY X.prog X.w) X.A (spliced (backTo pos (starEach es X.env))) (fun u s' => AP X pins σ Q u s' ∧ KeptU s s') noE s
structure YS (X : Cx) (st : Stmt) (t : TS) : Prop where
  run : ∀ (pins : List (Addr × Obj)) (s : Shared) (σ : L2.St) (H : Hp) (D : Ends), Inv X pins σ H s → t D σ H → wpAny (mY X.prog X.w) X.A (exec st X.env) (fun u s' => SP X pins D u s' ∧ KeptU s s') noE s
structure YSs (X : Cx) (st : List Stmt) (t : TS) : Prop where
  run : ∀ (pins : List (Addr × Obj)) (s : Shared) (σ : L2.St) (H : Hp) (D : Ends), Inv X pins σ H s → t D σ H → wpAny (mY X.prog X.w) X.A (execs st X.env) (fun u s' => SP X pins D u s' ∧ KeptU s s') noE s
theorem YE.imp {e : Expr} {t u : TE} (h : YE X e t) (i : ∀ σ H Q, u σ H Q → t σ H Q) : YE X e u := ⟨fun pins s σ H Q I q => h.run pins s σ H Q I (i σ H Q q)⟩
theorem YT.imp {e : Expr} {t u : L2.TT} (h : YT X e t) (i : ∀ σ H Q, u σ H Q → t σ H Q) : YT X e u := ⟨fun pins s σ H Q I q => h.run pins s σ H Q I (i σ H Q q)⟩
theorem YW.imp {e : Expr} {t u : L2.TT} (h : YW X e t) (i : ∀ σ H Q, u σ H Q → t σ H Q) : YW X e u := ⟨fun wh pins s σ H Q I q => h.run wh pins s σ H Q I (i σ H Q q)⟩
theorem YA.imp {e : List Expr} {t u : TA} (h : YA X e t) (i : ∀ σ H Q, u σ H Q → t σ H Q) : YA X e u := ⟨fun p pins s σ H Q I q => h.run p pins s σ H Q I (i σ H Q q)⟩
theorem YS.imp {e : Stmt} {t u : TS} (h : YS X e t) (i : ∀ D σ H, u D σ H → t D σ H) : YS X e u := ⟨fun pins s σ H D I q => h.run pins s σ H D I (i D σ H q)⟩
theorem YSs.imp {e : List Stmt} {t u : TS} (h : YSs X e t) (i : ∀ D σ H, u D σ H → t D σ H) : YSs X e u := ⟨fun pins s σ H D I q => h.run pins s σ H D I (i D σ H q)⟩
theorem YW.pt {e : Expr} {t : L2.TT} (h : YW X e t) : YT X e t := ⟨h.run _⟩
theorem calmU_ap {pins : List (Addr × Obj)} {σ : L2.St} {Q : List V → Hp → Prop} : CalmU (AP X pins σ Q) := ⟨fun G b s a l ⟨v, H', I, r, q⟩ => ⟨v, H', inv_lu I l, r, q⟩, fun a b ⟨v, H', I, r, q⟩ => I.bare⟩
theorem ye {e : Expr} {t : TE} (hx : NoX X) (h : PE X e t) : YE X e t := ⟨fun pins s σ H Q I q => noX_mono (pe_y hx.calm h I q) hx⟩
theorem ya {e : List Expr} {t : TA} (hx : NoX X) (h : PA X e t) : YA X e t := ⟨fun p pins s σ H Q I q => noX_mono (wpAny_un calmU_ap hx.calm (h.run p pins (still s) σ H Q (inv_still I) q)) hx⟩
theorem ys {e : Stmt} {t : TS} (hx : NoX X) (h : PS X e t) : YS X e t := ⟨fun pins s σ H Q I q => noX_mono (ps_y hx.calm h I q) hx⟩
theorem yss {e : List Stmt} {t : TS} (hx : NoX X) (h : PSs X e t) : YSs X e t := ⟨fun pins s σ H Q I q => noX_mono (pss_y hx.calm h I q) hx⟩
variable {st : Stmt} {rest : List Stmt} {t u : TS} {e : Expr} {es : List Expr} {pos : Pos}
theorem yss_cons (h1 : YS X st t) (h2 : YSs X rest u) : YSs X (st :: rest) (tSeq t u) := by
  refine ⟨fun pins s σ H D I h => ?_⟩
  refine wpAny_execs_cons (thnU (KeptU.refl s) (h1.run pins s σ H { D with nx := u D } I h) fun f s1 q k => ?_)
  cases f with
  | next =>
    obtain ⟨σ', H', I', q⟩ := q
    exact thnU k (h2.run pins s1 σ' H' D I' q) fun f s2 q k => ⟨q, k⟩
  | ret v => exact ⟨q, k⟩
  | brk => exact ⟨q, k⟩
  | cont => exact ⟨q, k⟩
theorem yss_one (h1 : YS X st t) : YSs X [st] t := by
  refine ⟨fun pins s σ H D I h => ?_⟩
  refine wpAny_execs_cons (thnU (KeptU.refl s) (h1.run pins s σ H D I h) fun f s1 q k => ?_)
  cases f with
  | next => exact wpAny_execs_nil ⟨q, k⟩
  | ret v => exact ⟨q, k⟩
  | brk => exact ⟨q, k⟩
  | cont => exact ⟨q, k⟩
theorem ys_if {c : Expr} {a b : List Stmt} {tc : L2.TT} (hc : YT X c tc) (ha : YSs X a t) (hb : YSs X b u) : YS X (.If c a b pos) (tIfS tc t u) := by
  refine ⟨fun pins s σ H D I h => ?_⟩
  refine wpAny_If (thnU (KeptU.refl s) (hc.run pins s σ H _ I h) fun d s1 ⟨H1, I1, q1⟩ k => ?_)
  cases d with
  | true => exact thnU k (ha.run pins s1 σ H1 D I1 q1) fun f s2 q k => ⟨q, k⟩
  | false => exact thnU k (hb.run pins s1 σ H1 D I1 q1) fun f s2 q k => ⟨q, k⟩
variable {a b : Expr} {tA tB' : L2.TT} {more : List Expr}
variable {ta tb : TE}
theorem op_y {f : Value → Value → Sem Value} {r : R2} (hx : NoX X) (ho : OpR X f r) {pins : List (Addr × Obj)} {s : Shared} {σ : L2.St} {H : Hp} {x y : V} {v u : Value} {Q : VK} (I : Inv X pins σ H s) (rx : RelV x v) (ry : RelV y u) (q : r x y H Q) :
    wpAny (mY X.prog X.w) X.A (f v u) (fun c s' => EP X pins σ Q c s' ∧ KeptU s s') noE s := noX_mono (wpAny_un calmU_ep hx.calm (ho pins (still s) σ H x y v u Q (inv_still I) rx ry q)) hx
theorem yt_cmpR {op : CmpOp} {r : R2} (hx : NoX X) (ho : OpR X (compareOp op) r) (ha : YE X a ta) (hb : YE X b tb) (hm : behindInMarks op b = false) : YT X (.Compare a [op] [b] pos) (tTest (tOp r ta tb)) := by
  refine ⟨fun pins s σ H Q I h => ?_⟩
  refine wpAny_isTrue_Compare1 (thnU (KeptU.refl s) (ha.run pins s σ H _ I h) fun v s1 ⟨x, H1, I1, r1, q1⟩ k => thnU k (hb.run pins s1 σ H1 _ I1 q1) fun u s2 ⟨y, H2, I2, r2, q2⟩ k =>
    thnU k (op_y hx ho I2 r1 r2 q2) fun c s3 ⟨z, H3, I3, r3, d, e, q3⟩ k => ?_) hm
  subst e
  cases r3
  exact wpAny_truthy_bool ⟨⟨H3, I3, q3⟩, k⟩
variable {te : TE} {ts : TA}
end
abbrev YDE (X : Cx) (e : Expr) (f : Ev → Sto → R D) : Prop := YE X e (rdE X.K W0 f)
abbrev YDT (X : Cx) (e : Expr) (f : Ev → Sto → R Bool) : Prop := YT X e (rdT X.K W0 f)
abbrev YDS (X : Cx) (st : Stmt) (F : Ev → Sto → SR) : Prop := YS X st (rdS X.K W0 F)
abbrev YDSs (X : Cx) (st : List Stmt) (F : Ev → Sto → SR) : Prop := YSs X st (rdS X.K W0 F)
end DL
namespace DL
open PySem L2
open PyProof.Rows hiding St
open Sem (wp)
section
variable {P : Program} {w : World} {A : Around} {s : Shared} {R : Result → Shared → Prop}
/-- what a piece of code ends in -/
abbrev finP (P : Program) (w : World) (A : Around) (R : Result → Shared → Prop) : PySem.Fin → Shared → Prop := fun fin s' => match fin with
  | .done f => R (.ok f) s'
  | .again c' => c'.quiet = true ∧ codeAny (mY P w) A c' R s'
theorem codeY {c : Code} (h : wpAny (mY P w) (A.under c) (denote table c) (finP P w A R) (fun e s' => R (.error e) s') s) : codeAny (mY P w) A c R s :=
  codeAny_of_tree fun Γ p hΓ => wp_strip _ _ _ p s (h Γ p hΓ)
theorem loopY {c : Code} (hq : c.quiet = true) (I : Nat → Shared → Prop)
    (turn : ∀ n s, I n s → wpAny (mY P w) (A.under c) (denote table c) (fun fin s' => match fin with
      | .done f => R (.ok f) s'
      | .again c' => (c' = c ∧ ∃ m, m < n ∧ I m s') ∨ (c'.quiet = true ∧ codeAny (mY P w) A c' R s')) (fun e s' => R (.error e) s') s) (n : Nat) (h : I n s) : codeAny (mY P w) A c R s :=
  codeAny_loop' hq I (fun n s hI Γ p hΓ => wp_strip _ _ _ p s (turn n s hI Γ p hΓ)) n h
theorem builtinY {id : String} {args : Args} {b : Builtin} (hb : entryFor table id = some b) (h : wpAny (mY P w) (A.under (.builtin id args)) (b args) (finP P w A R) (fun e s' => R (.error e) s') s) : codeAny (mY P w) A (.builtin id args) R s := by
  refine codeY ?_
  show wpAny _ _ (match entryFor table id with
    | some b => b args
    | none => unsupported ((withoutEnding? id "#data").getD id)) _ _ s
  rw [hb]; exact h
theorem callBuiltinY {id : String} {args : Args} {b : Builtin} (hq : plainId id = true) (hb : entryFor table id = some b)
    (h : wpAny (mY P w) A.in1 (checkBuiltinCall id args) (fun _ s₁ => wpAny (mY P w) A.in1 (b args) (finP P w A R) (fun e s' => R (.error e) s') s₁) (fun e s' => R (.error e) s') s) : codeAny (mY P w) A (.call (.builtin id) args) R s := by
  refine codeY ?_
  show wpAny _ A.in1 (checkBuiltinCall id args >>= fun _ => again (.builtin id args)) _ _ s
  exact wpAny_bind (wpAny_mono h (fun _ s₁ h₁ => wpAny_pure (And.intro (plainId_quiet hq args) (builtinY hb (by rw [Around.under_plainId hq args]; exact h₁)))) fun _ _ z => z)
theorem callEntryY {E : Value → Shared → Prop} {T : String} {name : Str} {id : String} {b : Builtin} {self : Value} {rest : List Value} {Q : Value → Shared → Prop} (h : Slot T name id) (hT : s.TypeIs self T) (hb : entryFor table id = some b)
    (hc : wpAny (mY P w) A.in1 (b ⟨self :: rest, []⟩) (fun fin s' => ∃ v, fin = .done (.ret v) ∧ Q v s') E s) (ha : argsOk id ⟨self :: rest, []⟩ := by rfl) : wpAny (mY P w) A (call (.builtin id) (self :: rest)) Q E s := by
  refine wpAny_call (callBuiltinY h.plain hb (h.check _ _ _ _ _ _ _ _ hT ha (wpAny_mono hc (fun fin s' z => ?_) fun _ _ z => z)))
  obtain ⟨v, rfl, hv⟩ := z; exact hv
theorem funcY {body : List Stmt} {env : Env}
    (h : wpAny (mY P w) (A.deeper env) (execs body env) (fun f s' => R (.ok (.ret (match f with | .ret v => v | _ => .none))) s') (fun _ _ => False) s) : codeAny (mY P w) A (.func body env) R s := by
  refine codeY ?_
  show wpAny _ (A.deeper env) (point >>= fun _ => (execs body env).onRaise (leaving env) >>= fun f => match f with
    | .ret v => ret v
    | _ => ret .none) _ _ s
  refine wpAny_bind (wpAny_point (wpAny_bind (wpAny_onRaise (wpAny_mono h (fun f s' z => ?_) fun _ _ z => z.elim))))
  cases f <;> exact wpAny_pure z
theorem blockY {stmts : List Stmt} {env : Env} (h : wpAny (mY P w) A (execs stmts env) (fun f s' => R (.ok f) s') (fun _ _ => False) s) : codeAny (mY P w) A (.block stmts env) R s := by
  refine codeY ?_
  show wpAny _ _ ((execs stmts env).onRaise (upNote env) >>= fun f => pure (PySem.Fin.done f)) _ _ s
  exact wpAny_bind (wpAny_noted (wpAny_mono h (fun f s' z => wpAny_pure z) fun _ _ z => z.elim))
theorem forLoopY {tg : Expr} {it : Value} {body orelse : List Stmt} {env : Env} (I : Nat → Shared → Prop)
    (turn : ∀ n s, I n s → wpAny (mY P w) A (pyNext it) (fun r s₁ => match r with
      | none => wpAny (mY P w) A (execs orelse env) (fun f s₃ => R (.ok f) s₃) noE s₁
      | some v => wpAny (mY P w) A (letOwnedTupleGo tg it v) (fun _ s₁' => wpAny (mY P w) A (assign tg env v) (fun _ s₂ => wpAny (mY P w) A (execs body env) (fun f s₃ => match f with
            | .next | .cont => ∃ m, m < n ∧ I m s₃
            | .brk => R (.ok .next) s₃
            | .ret v => R (.ok (.ret v)) s₃) noE s₂) noE s₁') noE s₁) noE s) (n : Nat) (h : I n s) : codeAny (mY P w) A (.forLoop tg it body orelse env) R s := by
  refine loopY rfl I (fun n s hI => ?_) n h
  show wpAny _ A ((forTurn tg it body orelse env).onRaise (upNote env)) _ _ s
  refine wpAny_noted ?_
  simp only [forTurn]
  refine wpAny_bind (wpAny_standAt (wpAny_bind (wpAny_onRaise (wpAny_mono (turn n s hI) (fun r s₁ h₁ => ?_) fun _ _ z => z.elim))))
  cases r with
  | none => exact wpAny_pure (.inr ⟨rfl, blockY h₁⟩)
  | some v =>
    refine wpAny_bind (wpAny_mono h₁ (fun _ s₁' h₁' => ?_) fun _ _ z => z.elim)
    refine wpAny_bind (wpAny_mono h₁' (fun _ s₂ h₂ => wpAny_bind (wpAny_mono h₂ (fun f s₃ h₃ => ?_) fun _ _ z => z.elim)) fun _ _ z => z.elim)
    cases f with
    | next => exact wpAny_pure (.inl ⟨rfl, h₃⟩)
    | cont => exact wpAny_pure (.inl ⟨rfl, h₃⟩)
    | brk => exact wpAny_pure h₃
    | ret v => exact wpAny_pure h₃
theorem callFunY {a : Addr} {args : Args} {o : Obj} {fd : FuncData} {body : List Stmt} (hroom : A.depth < recursionLimit) (ho : s.heap.get? a = some o)
    (hd' : o.data = .func fd) (hco : fd.scope.isCoroutine = false) (hgen : fd.scope.isGenerator = false) (hbody : fd.body = .stmts body) (hcd : s.heap.CodeRec fd.code fd.qualname)
    (h : wpAny (mY P w) A.in1 (bindArgs fd args) (fun binds s₁ => wpAny (mY P w) A.in1 (newFunctionEnv fd.scope fd.globals fd.closure binds (fd.qualname ++ ".<locals>.") (some a) fd.code none fd.builtins)
        (fun env s₂ => s₂.heap.NoLimit ∧ codeAny (mY P w) A (.func body env) R s₂) (fun e s' => R (.error e) s') s₁) (fun e s' => R (.error e) s') s) : codeAny (mY P w) A (.call (.ref a) args) R s := by
  refine codeY ?_
  show wpAny _ A.in1 (callAny (.ref a) args) _ _ s
  simp only [callAny]
  refine wpAny_bind (wpAny_load ho ?_)
  obtain ⟨c, oc, vs, tq, hc, hoc, hdc, hq⟩ := hcd
  simp only [hd', callFunction, hco, hgen, hbody, hc]
  rw [hc] at h
  refine wpAny_bind (m := field (.ref c) 1) (wpAny_field hoc hdc hq (wpAny_bind (wpAny_pure ?_)))
  exact wpAny_bind (wpAny_mono h (fun binds s₁ h₁ => wpAny_bind (wpAny_mono h₁ (fun env s₂ h₂ => wpAny_bind (wpAny_enterFrame h₂.1 hroom (wpAny_pure (And.intro rfl h₂.2)))) fun _ _ z => z)) fun _ _ z => z)
theorem callGenY {a : Addr} {args : Args} {o : Obj} {fd : FuncData} {body : List Stmt} (hroom : A.depth < recursionLimit) (ho : s.heap.get? a = some o) (hd' : o.data = .func fd) (hco : fd.scope.isCoroutine = false)
    (hgen : fd.scope.isGenerator = true) (hbody : fd.body = .stmts body) (hcd : s.heap.CodeRec fd.code fd.qualname)
    (h : wpAny (mY P w) A.in1 (bindArgs fd args) (fun binds s₁ => wpAny (mY P w) A.in1 (newFunctionEnv fd.scope fd.globals fd.closure binds (fd.qualname ++ ".<locals>.") (some a) fd.code none fd.builtins)
        (fun env s₂ => s₂.heap.NoLimit ∧ R (.ok (.ret (.ref s₂.heap.objs.size))) { s₂ with gens := s₂.gens.push (.fresh (.func body env)), toks := s₂.toks + 1 + 1, heap := s₂.heap.push { cls := .type "generator", data := .fields #[.int s₂.gens.size 0, .str fd.name s₂.toks, .str fd.qualname (s₂.toks + 1)] } })
        (fun e s' => R (.error e) s') s₁) (fun e s' => R (.error e) s') s) : codeAny (mY P w) A (.call (.ref a) args) R s := by
  refine codeY ?_
  show wpAny _ _ (callAny (.ref a) args) _ _ s
  simp only [callAny]
  refine wpAny_bind (wpAny_load ho ?_)
  obtain ⟨c, oc, vs, tq, hc, hoc, hdc, hq⟩ := hcd
  simp only [hd', callFunction, hco, hgen, hbody, hc]
  rw [hc] at h
  refine wpAny_bind (m := field (.ref c) 1) (wpAny_field hoc hdc hq (wpAny_bind (wpAny_pure ?_)))
  refine wpAny_bind (wpAny_mono h (fun binds s₁ h₁ => wpAny_bind (wpAny_mono h₁ (fun env s₂ h₂ => wpAny_bind (wpAny_enterFrame h₂.1 hroom ?_)) fun _ _ z => z)) fun _ _ z => z)
  simp only [newGenerator, newFields]
  exact wpAny_bind (wpAny_bind (wpAny_newGen (wpAny_bind (wpAny_mkText (wpAny_bind (wpAny_mkText (wpAny_newObj_type (wpAny_pure h₂.2) (by size_fits))))))))
theorem callTypeY {E : Value → Shared → Prop} {T newId initId : String} {Bi : Builtin} {args : List Value} {Q Q₁ : Value → Shared → Prop} (ft : TypeCalled T newId initId) (hct : checkTypeCall T ⟨args, []⟩ = pure ()) (entryI : entryFor table initId = some Bi)
    (hnew : codeAny (mY P w) A.in1 (.call (.builtin newId) ⟨.type T :: args, []⟩) (wants Q₁ E) s)
    (hnext : ∀ obj s₁, Q₁ obj s₁ → s₁.TypeIs obj T ∧ argsOk initId ⟨obj :: args, []⟩ ∧ wpAny (mY P w) A.in1.in1 (Bi ⟨obj :: args, []⟩) (finP P w A.in1 (wants (fun r s₂ => r = .none ∧ Q obj s₂) E)) (fun e s' => wants (fun r s₂ => r = .none ∧ Q obj s₂) E (.error e) s') s₁) :
    wpAny (mY P w) A (call (.type T) args) Q E s := by
  obtain ⟨c, tl, hmro⟩ := ft.mro
  have hmade := ft.made
  have hsub := ft.sub
  refine wpAny_call (codeY ?_)
  show wpAny _ _ (callAny (.type T) _) _ _ _
  refine wpAny_pure ⟨Code.quiet_builtin _ (by decide +kernel), builtinY F.entry_type_call ?_⟩
  rw [Around.under_plain (weight_type_call_type T args []) rfl]
  have h1 := ft.notType
  have h2 := ft.canCreate
  repeat (any_goals (first | assumption | wp_step))
  refine codeAny_mono hnew fun r s₁ hr => ?_
  cases r with
  | error e => exact hr
  | ok fl =>
    cases fl with
    | ret obj =>
      obtain ⟨hT, hok, hsi⟩ := hnext _ _ hr
      have hli := ft.init.lookup
      have hbi := ft.init.bind obj
      repeat (any_goals (first | assumption | wp_step))
      refine codeAny_mono (callBuiltinY ft.init.plain entryI (ft.init.check _ _ _ _ _ _ _ _ hT hok hsi)) fun r₂ s₂ hr₂ => ?_
      cases r₂ with
      | error e => exact hr₂
      | ok fl₂ =>
        cases fl₂ with
        | ret r =>
          obtain ⟨rfl, hq⟩ := hr₂
          repeat (any_goals (first | assumption | wp_step))
        | _ => exact hr₂.elim
    | _ => exact hr.elim
end
end DL
namespace DL
open PySem L2
open PyProof.Rows hiding St
open Sem (wp)
theorem runs_wrapU {M : Model} {α : Type} {Γ : Ctx} {fs : List Frame} {Φ : End → Shared → Prop} (c : Code) (K : α → Sem PySem.Fin) (H : Value → Sem PySem.Fin) (gd : Bool → Bool) (lv : List Value → List Value) (m : Sem α) :
    ∀ {Q : α → Pos → Shared → Prop} {E : Value → Pos → Shared → Prop} {p : Pos} {s : Shared}, wp M (Γ.over fs) m Q E p s → (∀ a p' s', Q a p' s' → ∃ e s2, Runs M Γ p' (unq c (K a)) fs s' e s2 ∧ Φ e s2) →
      (∀ x p' s', E x p' s' → ∃ e s2, Runs M Γ p' (unq c (H x)) fs s' e s2 ∧ Φ e s2) → ∃ e s2, Runs M Γ p (unq c (m.wrap K H gd lv)) fs s e s2 ∧ Φ e s2 := by
  induction m with
  | pure a => intro Q E p s h q _; exact q a p s h
  | raise x => intro Q E p s h _ q; exact q x p s h
  | unsupported _ => intro Q E p s h; exact h.elim
  | finish _ => intro Q E p s h; exact h.elim
  | register _ _ => intro Q E p s h; exact h.elim
  | yield _ _ _ _ => intro Q E p s h; exact h.elim
  | fork _ _ => intro Q E p s h; exact h.elim
  | await _ _ _ _ _ => intro Q E p s h; exact h.elim
  | rule _ k ih => intro Q E p s h q1 q2; obtain ⟨e, s2, r, z⟩ := ih () h q1 q2; exact ⟨e, s2, Runs.head' (fun _ _ x => .rule x) r, z⟩
  | «at» p' k ih => intro Q E p s h q1 q2; obtain ⟨e, s2, r, z⟩ := ih () h q1 q2; exact ⟨e, s2, Runs.head' (fun _ _ x => .at x) r, z⟩
  | load a _ k ih => intro Q E p s h q1 q2; obtain ⟨o, ho, h⟩ := h; obtain ⟨e, s2, r, z⟩ := ih o h q1 q2; exact ⟨e, s2, Runs.head' (fun _ _ x => .load ho x) r, z⟩
  | update a _ f k ih => intro Q E p s h q1 q2; obtain ⟨ha, h⟩ := h; obtain ⟨e, s2, r, z⟩ := ih () h q1 q2; exact ⟨e, s2, Runs.head' (fun _ _ x => .update ha x) r, z⟩
  | alloc o k ih => intro Q E p s h q1 q2; obtain ⟨e, s2, r, z⟩ := ih _ h q1 q2; exact ⟨e, s2, Runs.head' (fun _ _ x => .alloc x) r, z⟩
  | loadIfAlive a k ih => intro Q E p s h q1 q2; obtain ⟨e, s2, r, z⟩ := ih _ h q1 q2; exact ⟨e, s2, Runs.head' (fun _ _ x => .loadIfAlive x) r, z⟩
  | point l k ih => intro Q E p s h q1 q2; obtain ⟨e, s2, r, z⟩ := ih () h q1 q2; exact ⟨e, s2, Runs.head' (fun _ _ x => .point x) r, z⟩
  | fresh k ih => intro Q E p s h q1 q2; obtain ⟨e, s2, r, z⟩ := ih _ h q1 q2; exact ⟨e, s2, Runs.head' (fun _ _ x => .fresh x) r, z⟩
  | ask k ih => intro Q E p s h q1 q2; obtain ⟨e, s2, r, z⟩ := ih _ h q1 q2; exact ⟨e, s2, Runs.head' (fun _ _ x => .ask x) r, z⟩
  | choose src n k ih => intro Q E p s h q1 q2; obtain ⟨hn, h⟩ := h; obtain ⟨e, s2, r, z⟩ := ih _ h q1 q2; exact ⟨e, s2, Runs.head' (fun _ _ x => .choose hn x) r, z⟩
  | os q l k ih => intro Q E p s h q1 q2; obtain ⟨e, s2, r, z⟩ := ih _ h q1 q2; exact ⟨e, s2, Runs.head' (fun _ _ x => .os x) r, z⟩
  | call d h g l k ih => intro Q E p s hw q1 q2; obtain ⟨r0, s1, hr, hw⟩ := hw; obtain ⟨e, s2, r, z⟩ := ih r0 hw q1 q2; exact ⟨e, s2, Runs.head' (fun _ _ x => .call hr x) r, z⟩
  | handled own k ih => intro Q E p s h q1 q2; obtain ⟨e, s2, r, z⟩ := ih _ h q1 q2; exact ⟨e, s2, Runs.head' (fun _ _ x => .handled x) r, z⟩
  | newGen d k ih => intro Q E p s h q1 q2; obtain ⟨e, s2, r, z⟩ := ih _ h q1 q2; exact ⟨e, s2, Runs.head' (fun _ _ x => .newGen x) r, z⟩
  | genState g k ih => intro Q E p s h q1 q2; obtain ⟨st, hg, h⟩ := h; obtain ⟨e, s2, r, z⟩ := ih _ h q1 q2; exact ⟨e, s2, Runs.head' (fun _ _ x => .genState hg x) r, z⟩
  | resume g r0 l k ih => intro Q E p s h q1 q2; obtain ⟨res, s1, hw, h⟩ := h; obtain ⟨e, s2, r, z⟩ := ih res h q1 q2; exact ⟨e, s2, Runs.head' (fun _ _ x => (Sem.runs_resume_iff M _).mpr ⟨res, s1, hw, x⟩) r, z⟩
  | stack k ih => intro Q E p s h q1 q2; obtain ⟨e, s2, r, z⟩ := ih _ h q1 q2; exact ⟨e, s2, Runs.head' (fun _ _ x => .stack x) r, z⟩
  | thread k ih => intro Q E p s h q1 q2; obtain ⟨e, s2, r, z⟩ := ih _ h q1 q2; exact ⟨e, s2, Runs.head' (fun _ _ x => .thread x) r, z⟩
theorem over_unF {A : Around} {c : Code} {fs : List Frame} : A.over c (fs.map unF) = A.over c fs := by unfold Around.over; rw [marks_un, map_where]
/-- a stretch of a run in the second machine -/
def SgU (P : Program) (w : World) (A : Around) (Φ : End → Shared → Prop) (c : Code) (t : Sem PySem.Fin) (fs : List Frame) (s : Shared) : Prop := Sg (mY P w) A Φ c (unq c t) (fs.map unF) s
section
variable {P : Program} {w : World} {A : Around} {Φ : End → Shared → Prop} {c : Code} {fs : List Frame} {s : Shared}
theorem su_wrap {α : Type} {m : Sem α} {k : α → Sem PySem.Fin} {j : Value → Sem PySem.Fin} {gd : Bool → Bool} {lv : List Value → List Value}
    (h : wpAny (mY P w) (A.over c fs) m (fun a s1 => SgU P w A Φ c (k a) fs s1) (fun x s1 => SgU P w A Φ c (j x) fs s1) s) : SgU P w A Φ c (m.wrap k j gd lv) fs s := by
  intro Γ p hc hw
  subst hc
  rw [← over_unF] at h
  exact runs_wrapU _ k j gd lv m (h _ p (hw.over _)) (fun a q s1 z => z Γ q rfl hw) fun a q s1 z => z Γ q rfl hw
theorem su_bindw {α β : Type} {m : Sem α} {f : α → Sem β} {k : β → Sem PySem.Fin} {j : Value → Sem PySem.Fin} {gd : Bool → Bool} {lv : List Value → List Value}
    (h : wpAny (mY P w) (A.over c fs) m (fun a s1 => SgU P w A Φ c ((f a).wrap k j gd lv) fs s1) (fun x s1 => SgU P w A Φ c (j x) fs s1) s) : SgU P w A Φ c ((m >>= f).wrap k j gd lv) fs s := by
  rw [show (m >>= f) = m.wrap f .raise id id from Sem.bind_eq_wrap m f, Sem.wrap_wrap]
  exact su_wrap h
theorem su_bind {α : Type} {m : Sem α} {k : α → Sem PySem.Fin} (h : wpAny (mY P w) (A.over c fs) m (fun a s1 => SgU P w A Φ c (k a) fs s1) (fun x s1 => SgU P w A Φ c (.raise x) fs s1) s) : SgU P w A Φ c (m >>= k) fs s := by
  rw [show (m >>= k) = m.wrap k .raise id id from Sem.bind_eq_wrap m k]; exact su_wrap h
theorem su_at {q : Pos} {k : Unit → Sem PySem.Fin} (h : SgU P w A Φ c (k ()) fs s) : SgU P w A Φ c (.at q k) fs s :=
  su_wrap (m := standAt q) (k := k) (j := .raise) (gd := id) (lv := id) (wpAny_standAt h)
theorem su_call {d : Code} {hd : Option Value} {g : Bool} {l : List Value} {k : Result → Sem PySem.Fin} (h : ∀ p, SgU P w A Φ d (denote table d) (.ret k hd g l c p [] :: fs) s) : SgU P w A Φ c (.call d hd g l k) fs s :=
  sg_call (M := mY P w) fun p => h p
theorem un_leaf {r : Result} : unq c (leafOf r) = leafOf r := by cases r <;> rfl
theorem su_leaf {k : Result → Sem PySem.Fin} {hd : Option Value} {g : Bool} {l kp : List Value} {d : Code} {q : Pos} (r : Result) (h : SgU P w A Φ d (k r) fs s) : SgU P w A Φ c (leafOf r) (.ret k hd g l d q kp :: fs) s := by
  unfold SgU
  rw [un_leaf]
  exact sg_leaf r h
theorem su_again {d : Code} (hq : d.quiet = true) (h : SgU P w A Φ d (denote table d) fs s) : SgU P w A Φ c (.pure (.again d)) fs s := sg_again (M := mY P w) hq h
theorem su_end (r : Result) (h : Φ (.ret r) s) : SgU P w A Φ c (leafOf r) [] s := by
  unfold SgU
  rw [un_leaf]
  exact sg_end r h
theorem su_yield {v : Value} {l : List Value} {k : Resume → Sem PySem.Fin} (hs : splitAtGen fs = none) (h : ∀ p, Φ (.susp v false [] (fun r => unq c (k r)) c p (fs.map unF)) s) : SgU P w A Φ c (.yield v false l k) fs s :=
  sg_yield (split_un _ hs) h
end
section
variable {X : Cx} {pins : List (Addr × Obj)} {σ : St} {H : Hp} {s : Shared}
theorem calmU_pg {Q : St → Hp → Prop} : CalmU (fun (_ : Unit) s' => ∃ σ' H', Inv X pins σ' H' s' ∧ Q σ' H') := ⟨fun G b s _ l ⟨σ', H', I, z⟩ => ⟨σ', H', inv_lu I l, z⟩, fun _ b ⟨σ', H', I, z⟩ => I.bare⟩
theorem pg_y {tg : Expr} {g : TG} {v : V} {u : Value} {Q : St → Hp → Prop} (hx : CalmU X.xe) (h : PG X tg g) (I : Inv X pins σ H s) (r : RelV v u) (q : g v σ H Q) :
    wpAny (mY X.prog X.w) X.A (assign tg X.env u) (fun _ s' => (∃ σ' H', Inv X pins σ' H' s' ∧ Q σ' H') ∧ KeptU s s') (fun e s' => X.xe e s' ∧ KeptU s s') s := wpAny_un calmU_pg hx (h.run pins (still s) σ H v u Q (inv_still I) r q)
theorem wpAny_un2 {P : Program} {w : World} {α β : Type} {A : Around} {t : Sem α} {u : α → Sem β} (Z : α → Prop) {Q : α → β → Shared → Prop} {E : Value → Shared → Prop} {s : Shared} (hQ : ∀ a, CalmU (Q a)) (hE : CalmU E) (h : wpAny (model P w) A t (fun a s1 => Z a ∧ wpAny (model P w) A (u a) (Q a) E s1) E (still s)) :
    wpAny (mY P w) A t (fun a s1 => Z a ∧ wpAny (mY P w) A (u a) (fun c s' => Q a c s' ∧ KeptU s s') (fun e s' => E e s' ∧ KeptU s s') s1) (fun e s' => E e s' ∧ KeptU s s') s := by
  intro Γ p hΓ
  have q := wp_gone (mY P w) Γ s t _ _ p s (Gone.refl s) (wp_un Γ s.gens t _ _ p (still s) s (still_lu s) (h Γ p hΓ))
  refine Sem.wp_mono (mY P w) Γ t (fun a p' s' hq => ?_) (fun a p' s' hq => ?_) p s q
  · obtain ⟨g, b, l, hz, hb⟩ := hq
    refine ⟨hz, fun Γ2 p2 hΓ2 => ?_⟩
    have q2 := wp_gone (mY P w) Γ2 s (u a) _ _ p2 s' g (wp_un Γ2 s.gens (u a) _ _ p2 b s' l (hb Γ2 p2 hΓ2))
    refine Sem.wp_mono (mY P w) Γ2 (u a) (fun c p3 s3 hq => ?_) (fun c p3 s3 hq => ?_) p2 s' q2
    · obtain ⟨g, b, l, hb⟩ := hq; exact ⟨(hQ a).mv _ b s3 c l hb, l.keptU g ((hQ a).bare c b hb)⟩
    · obtain ⟨g, b, l, hb⟩ := hq; exact ⟨hE.mv _ b s3 c l hb, l.keptU g (hE.bare c b hb)⟩
  · obtain ⟨g, b, l, hb⟩ := hq; exact ⟨hE.mv _ b s' a l hb, l.keptU g (hE.bare a b hb)⟩
end
/-- a generator's object; it may have been slept over -/
def isG (o : Obj) (n : Nat) : Prop := ∃ nm qn, o.cls = .type "generator" ∧ o.data = .fields #[.int n 0, nm, qn] ∧ (o.slots = #[] ∨ o.slots = #[some (.int 0 0)])
abbrev GA := Addr × Nat
/-- asleep plainly, or in a delegation over one of these objects -/
def MgOk (pv : List (Addr × Obj)) (x : GenState) : Prop := plainS x = true ∨ ∃ k l c p fs a o n, x = .suspended k l c p fs false ∧ yfIt c = some a ∧ (a, o) ∈ pv ∧ o.genNumber? = some n
theorem MgOk.mono {p q : List (Addr × Obj)} {x : GenState} (h : MgOk p x) (s : ∀ y ∈ p, y ∈ q) : MgOk q x := h.imp id fun ⟨k, l, c, ps, fs, a, o, n, e, q1, q2, q3⟩ => ⟨k, l, c, ps, fs, a, o, n, e, q1, s _ q2, q3⟩
/-- all of them do -/
def MgsOk (pv : List (Addr × Obj)) (gs : List (Nat × GenState)) : Prop := ∀ q ∈ gs, MgOk pv q.2
theorem MgsOk.mono {p q : List (Addr × Obj)} {gs : List (Nat × GenState)} (h : MgsOk p gs) (s : ∀ y ∈ p, y ∈ q) : MgsOk q gs := fun x hx => (h x hx).mono s
theorem mks_nil {p : List (Addr × Obj)} : MgsOk p [] := fun q hq => by simp at hq
theorem MgsOk.app {p : List (Addr × Obj)} {a b : List (Nat × GenState)} (h : MgsOk p a) (k : MgsOk p b) : MgsOk p (a ++ b) := fun q hq => (List.mem_append.mp hq).elim (h q) (k q)
/-- who wakes the generator, where things stand then, and which generators sleep in it -/
structure Rgu extends Rs where
  og : List Nat
/-- n's turn: what is below n stays; what is not plain behind it is in ig, or slept there before and was not in og -/
structure Tn (n : Nat) (og ig : List Nat) (s s' : Shared) : Prop where
  gon : Gon n s s'
  fr : ∀ (i : Nat) x, s'.gens[i]? = some x → plainS x = true ∨ i ∈ ig ∨ (s.gens[i]? = some x ∧ i ∉ og)
theorem Tn.refl (n : Nat) (og : List Nat) (s : Shared) : Tn n og og s s := ⟨Gon.refl _ _, fun i x e => by
  by_cases h : i ∈ og
  · exact .inr (.inl h)
  · exact .inr (.inr ⟨e, h⟩)⟩
theorem Tn.trans {n : Nat} {a b c : List Nat} {s s1 s2 : Shared} (h : Tn n a b s s1) (k : Tn n b c s1 s2) : Tn n a c s s2 := ⟨h.gon.trans k.gon, fun i x e => by
  rcases k.fr i x e with z | z | ⟨z1, z2⟩
  · exact .inl z
  · exact .inr (.inl z)
  · rcases h.fr i x z1 with z | z | z
    · exact .inl z
    · exact absurd z z2
    · exact .inr (.inr z)⟩
theorem Tn.with {n : Nat} {a b : List Nat} {s s1 : Shared} (h : Tn n a b s s1) (r : List Nat) : Tn n (a ++ r) (b ++ r) s s1 := ⟨h.gon, fun i x e => by
  rcases h.fr i x e with z | z | ⟨z1, z2⟩
  · exact .inl z
  · exact .inr (.inl (List.mem_append_left _ z))
  · by_cases hr : i ∈ r
    · exact .inr (.inl (List.mem_append_right _ hr))
    · exact .inr (.inr ⟨z1, fun q => (List.mem_append.mp q).elim z2 hr⟩)⟩
theorem Tn.le {m n : Nat} {a b : List Nat} {s s1 : Shared} (h : Tn n a b s s1) (hm : m ≤ n) : Tn m a b s s1 := ⟨h.gon.le hm, h.fr⟩
theorem KeptU.tn {n : Nat} {og : List Nat} {s s' : Shared} (h : KeptU s s') : Tn n og og s s' := ⟨h.kept.gon _, fun i x e => by
  by_cases q : ∃ y, s.gens[i]? = some y ∧ asleep y = true
  · obtain ⟨y, hy, ha⟩ := q
    have z := h.kept.gen i y hy ha
    rw [z] at e; cases e
    by_cases hi : i ∈ og
    · exact .inr (.inl hi)
    · exact .inr (.inr ⟨hy, hi⟩)
  · exact .inl (h.fresh i x e fun y hy => by
      cases ha : asleep y with
      | false => rfl
      | true => exact (q ⟨y, hy, ha⟩).elim)⟩
section
variable (P : Program) (w : World) (K : PySem.W.Frag) (mg : Str → Option Value) (base : Heap) (k : Nat) (N : List Str) (env : Env)
structure RsU (ga : GA) (γ : Rgu) : Prop where
  of : OfP P w K mg base γ.X
  room : Room (k + 2) γ.X.A
  cons : Cons env.locals γ.X
  inv : Inv γ.X γ.pins γ.σ γ.H γ.s
  pv : ∀ b ∈ γ.pv, FpOk γ.X γ.pins γ.H b
  loc : env.locals ∈ γ.pv
  own : ga.1 ∈ γ.pv
  lt : env.locals < γ.s.heap.objs.size
  num : ga.2 < γ.s.gens.size
/-- the generator's object in a state -/
def OwnAt (ga : GA) (s : Shared) : Prop := ∃ o, s.heap.get? ga.1 = some o ∧ isG o ga.2
/-- xs is what comes from here on -/
def GoalU (ga : GA) : List D → Rgu → End → Shared → Prop
  | [], γ, .ret r, s' => r = .ok (.ret .none) ∧ ∃ H2, Inv γ.X γ.pins γ.σ H2 s' ∧ (∀ a o, γ.H a = some o → H2 a = some o) ∧ Tn ga.2 γ.og [] γ.s s' ∧ OwnAt ga s' ∧ FpOk γ.X γ.pins H2 ga.1
  | x :: xs, γ, .susp v gd l kk c p fs, s' => (End.susp v gd l kk c p fs).quiet = true ∧ tt x = true ∧ ∃ (vv : V) (H2 : Hp) (pvp : List (Addr × Obj)) (gs : List (Nat × GenState)), RelV vv v ∧ Inv γ.X γ.pins γ.σ H2 s' ∧ (∀ a o, γ.H a = some o → H2 a = some o) ∧ RepV K [] H2 x vv ∧
      (PvOk env γ.toRs pvp gs H2 s' ∧ MgOk pvp (End.susp v gd l kk c p fs).genState ∧ MgsOk pvp gs) ∧ (OwnAt ga s' ∧ FpOk γ.X γ.pins H2 ga.1 ∧ (∀ p ∈ pvp, p.1 ≠ ga.1) ∧ ∀ q ∈ gs, ga.2 < q.1) ∧ Tn ga.2 γ.og (gs.map (·.1)) γ.s s' ∧
      ∀ γ' : Rgu, RsU P w K mg base k env ga γ' → Tx H2 γ'.H → γ'.pv = ga.1 :: pvp.map (·.1) → γ'.og = gs.map (·.1) → OwnAt ga γ'.s → (∀ p ∈ pvp, γ'.s.heap.get? p.1 = some p.2) → (∀ q ∈ gs, γ'.s.gens[q.1]? = some q.2) →
        Sg (mY P w) γ'.X.A.in1 (GoalU ga xs γ') c (kk (.send .none)) fs γ'.s
  | _, _, _, _ => False
/-- inside a turn, the generator's object being o -/
structure GRunU (ga : GA) (o : Obj) (γ : Rgu) (ip : List (Addr × Obj)) (ig : List (Nat × GenState)) (ρ : Ev) (Ht : Hp) (s' : Shared) : Prop where
  ex : ∃ σg H', Inv (gx N env γ.X γ.pv γ.H γ.s) ((ga.1, o) :: ip) σg H' s' ∧ (∀ a o, gmark env.locals γ.pv γ.H γ.s.heap a = some o → H' a = some o) ∧ RepE K [] H' σg ρ ∧ Tx Ht H'
  isg : isG o ga.2
  tt : ttE ρ
  ips : ∀ p ∈ ip, p.1 ∈ γ.pv ∨ γ.s.heap.objs.size ≤ p.1
  igs : ∀ q ∈ ig, s'.gens[q.1]? = some q.2 ∧ asleep q.2 = true
  gone : Tn ga.2 γ.og (ig.map (·.1)) γ.s s'
  mks : MgsOk ip ig
/-- the generator's things are not its own object, and came after it -/
def GaU (ga : GA) (ip : List (Addr × Obj)) (ig : List (Nat × GenState)) : Prop := (∀ p ∈ ip, p.1 ≠ ga.1) ∧ ∀ q ∈ ig, ga.2 < q.1
def GSU (ga : GA) (st : Stmt) (B : GM) : Prop := ∀ (o : Obj) (γ : Rgu) (ip : List (Addr × Obj)) (ig : List (Nat × GenState)) (ρ : Ev) (ys : List D) (ρ' : Ev) (Ht : Hp) (rest : List D) (c : Code) (fs : List Frame) (kk : Flow → Sem PySem.Fin) (jj : Value → Sem PySem.Fin) (gd : Bool → Bool) (lv : List Value → List Value) (s : Shared),
  RsU P w K mg base k env ga γ → GaU ga ip ig → GPos env c fs gd → GRunU K N env ga o γ ip ig ρ Ht s → B ρ ys ρ' →
  (∀ o' γ' s', RsU P w K mg base k env ga γ' → GRunU K N env ga o' γ' ip ig ρ' Ht s' → SgU P w γ'.X.A.in1 (GoalU P w K mg base k env ga rest γ') c (kk .next) fs s') →
  SgU P w γ.X.A.in1 (GoalU P w K mg base k env ga (ys ++ rest) γ) c ((exec st env).wrap kk jj gd lv) fs s
def GSsU (ga : GA) (st : List Stmt) (B : GM) : Prop := ∀ (o : Obj) (γ : Rgu) (ip : List (Addr × Obj)) (ig : List (Nat × GenState)) (ρ : Ev) (ys : List D) (ρ' : Ev) (Ht : Hp) (rest : List D) (c : Code) (fs : List Frame) (kk : Flow → Sem PySem.Fin) (jj : Value → Sem PySem.Fin) (gd : Bool → Bool) (lv : List Value → List Value) (s : Shared),
  RsU P w K mg base k env ga γ → GaU ga ip ig → GPos env c fs gd → GRunU K N env ga o γ ip ig ρ Ht s → B ρ ys ρ' →
  (∀ o' γ' s', RsU P w K mg base k env ga γ' → GRunU K N env ga o' γ' ip ig ρ' Ht s' → SgU P w γ'.X.A.in1 (GoalU P w K mg base k env ga rest γ') c (kk .next) fs s') →
  SgU P w γ.X.A.in1 (GoalU P w K mg base k env ga (ys ++ rest) γ) c ((execs st env).wrap kk jj gd lv) fs s
end
section
variable {P : Program} {w : World} {K : PySem.W.Frag} {mg : Str → Option Value} {base : Heap} {k : Nat} {N : List Str} {env : Env} {ga : GA} {st : Stmt} {rest : List Stmt}
theorem RsU.inner {γ : Rgu} (h : RsU P w K mg base k env ga γ) : Room k (γ.X.A.in1.deeper env) := (h.room.in1).deeper env
theorem gssU_nil : GSsU P w K mg base k N env ga [] gNil := by
  intro o γ ip ig ρ ys ρ' Ht rest c fs kk jj gd lv s hγ hga hp hr hB h
  obtain ⟨rfl, rfl⟩ := hB
  exact h o γ s hγ hr
theorem gssU_cons {A B : GM} (h1 : GSU P w K mg base k N env ga st A) (h2 : GSsU P w K mg base k N env ga rest B) : GSsU P w K mg base k N env ga (st :: rest) (gSeq A B) := by
  intro o γ ip ig ρ ys ρ' Ht r2 c fs kk jj gd lv s hγ hga hp hr hB h
  obtain ⟨y1, ρ1, y2, b1, b2, rfl⟩ := hB
  rw [execs_cons_wrap, List.append_assoc]
  refine h1 o γ ip ig ρ y1 ρ1 Ht (y2 ++ r2) c fs _ jj gd lv s hγ hga hp hr b1 fun o' γ' s' hγ' hr' => ?_
  exact h2 o' γ' ip ig ρ1 y2 ρ' Ht r2 c fs kk jj gd lv s' hγ' hga hp hr' b2 h
theorem gssU_one {A : GM} (h1 : GSU P w K mg base k N env ga st A) : GSsU P w K mg base k N env ga [st] A := by
  intro o γ ip ig ρ ys ρ' Ht r2 c fs kk jj gd lv s hγ hga hp hr hB h
  rw [execs_cons_wrap]
  exact h1 o γ ip ig ρ ys ρ' Ht r2 c fs _ jj gd lv s hγ hga hp hr hB fun o' γ' s' hγ' hr' => h o' γ' s' hγ' hr'
/-- an expression's value, in a turn -/
theorem gdeU_run {o : Obj} {e : Expr} {f : Ev → Sto → R D} {γ : Rgu} {ip : List (Addr × Obj)} {ig : List (Nat × GenState)} {ρ : Ev} {Ht : Hp} {s : Shared} {d : D} {Q : Value → Shared → Prop} {E : Value → Shared → Prop} (he : GDE P w K mg base k N env e f) (hγ : RsU P w K mg base k env ga γ) (hr : GRunU K N env ga o γ ip ig ρ Ht s) (hf : f ρ [] = .ok d [])
    (h : ∀ u v σg H' s', Inv (gx N env γ.X γ.pv γ.H γ.s) ((ga.1, o) :: ip) σg H' s' → (∀ a o, gmark env.locals γ.pv γ.H γ.s.heap a = some o → H' a = some o) → RepE K [] H' σg ρ → Tx Ht H' → (∀ q ∈ ig, s'.gens[q.1]? = some q.2 ∧ asleep q.2 = true) → Tn ga.2 γ.og (ig.map (·.1)) γ.s s' → RelV v u → RepV K [] H' d v → Q u s') :
    wpAny (mY P w) (γ.X.A.in1.deeper env) (eval e env) Q E s := by
  obtain ⟨σg, H', I, G, rE, hfl⟩ := hr.ex
  have hof := hγ.of
  obtain ⟨e1, e2, e3, e4, e5⟩ := hγ.of
  have key := pe_y (X := gx N env γ.X γ.pv γ.H γ.s) (Q := fun v H'' => (∀ a o, H' a = some o → H'' a = some o) ∧ RepV K [] H'' d v) calmU_no (he γ.X γ.pv γ.H γ.s hof hγ.inner) I ⟨[], ρ, [], by rw [show (gx N env γ.X γ.pv γ.H γ.s).K = K from e3]; exact rE, ⟨List.nodup_nil, rfl, fun n a o z => by simp at z⟩, by
    rw [hf]
    intro ι' H'' Gw Sm v rv
    have hn : ι' = [] := List.length_eq_zero_iff.mp Sm.len
    subst hn
    rw [show (gx N env γ.X γ.pv γ.H γ.s).K = K from e3] at rv
    exact ⟨fun a o z => Gw.keep a o z (by simp), rv⟩⟩
  have key2 : wpAny (mY γ.X.prog γ.X.w) (γ.X.A.in1.deeper env) (eval e env) _ _ s := key
  rw [e1, e2] at key2
  refine wpAny_mono key2 (fun u s' ⟨⟨v, H'', I', rv, hk, rd⟩, kp⟩ => ?_) fun x s' z => z.1.elim
  refine h u v σg H'' s' I' (fun a o z => hk a o (G a o z)) (rE.tx hr.tt fun a u _ z => hk a u z) (hfl.trans fun a u _ z => hk a u z) (fun q hq => ?_) (hr.gone.trans kp.tn) rv rd
  obtain ⟨z1, z2⟩ := hr.igs q hq
  exact ⟨kp.kept.gen _ _ z1 z2, z2⟩
theorem gdtU_run {o : Obj} {e : Expr} {f : Ev → Sto → R Bool} {γ : Rgu} {ip : List (Addr × Obj)} {ig : List (Nat × GenState)} {ρ : Ev} {Ht : Hp} {s : Shared} {d : Bool} {Q : Bool → Shared → Prop} {E : Value → Shared → Prop} (he : GDT P w K mg base k N env e f) (hγ : RsU P w K mg base k env ga γ) (hr : GRunU K N env ga o γ ip ig ρ Ht s) (hf : f ρ [] = .ok d [])
    (h : ∀ s', GRunU K N env ga o γ ip ig ρ Ht s' → Q d s') : wpAny (mY P w) (γ.X.A.in1.deeper env) (isTrue e env (eval e env)) Q E s := by
  obtain ⟨σg, H', I, G, rE, hfl⟩ := hr.ex
  have hof := hγ.of
  obtain ⟨e1, e2, e3, e4, e5⟩ := hγ.of
  have key := pt_y (X := gx N env γ.X γ.pv γ.H γ.s) (Q := fun b H'' => b = d ∧ ∀ a o, H' a = some o → H'' a = some o) calmU_no (he γ.X γ.pv γ.H γ.s hof hγ.inner) I ⟨[], ρ, [], by rw [show (gx N env γ.X γ.pv γ.H γ.s).K = K from e3]; exact rE, ⟨List.nodup_nil, rfl, fun n a o z => by simp at z⟩, by
    rw [hf]
    intro ι' H'' Gw Sm
    exact ⟨rfl, fun a o z => Gw.keep a o z (by simp)⟩⟩
  have key2 : wpAny (mY γ.X.prog γ.X.w) (γ.X.A.in1.deeper env) (isTrue e env (eval e env)) _ _ s := key
  rw [e1, e2] at key2
  refine wpAny_mono key2 (fun u s' ⟨⟨H'', I', hu, hk⟩, kp⟩ => ?_) fun x s' z => z.1.elim
  subst hu
  refine h s' ⟨⟨σg, H'', I', fun a o z => hk a o (G a o z), rE.tx hr.tt fun a u _ z => hk a u z, hfl.trans fun a u _ z => hk a u z⟩, hr.isg, hr.tt, hr.ips, fun q hq => ?_, hr.gone.trans kp.tn, hr.mks⟩
  obtain ⟨z1, z2⟩ := hr.igs q hq
  exact ⟨kp.kept.gen _ _ z1 z2, z2⟩
/-- a generator goes to sleep -/
theorem gsleepU {o : Obj} {γ : Rgu} {ip : List (Addr × Obj)} {ig : List (Nat × GenState)} {ρ : Ev} {s' : Shared} {σg : St} {H' Ht : Hp} {d : D} {vv : V} {u : Value} {rest : List D} {gd : Bool} {l : List Value} {kk : Resume → Sem PySem.Fin} {c : Code} {p : Pos} {fs : List Frame}
    (g : GEnv N env) (hγ : RsU P w K mg base k env ga γ) (hga : GaU ga ip ig) (isg : isG o ga.2) (I : Inv (gx N env γ.X γ.pv γ.H γ.s) ((ga.1, o) :: ip) σg H' s') (G : ∀ a o, gmark env.locals γ.pv γ.H γ.s.heap a = some o → H' a = some o) (rE : RepE K [] H' σg ρ) (hfl : Tx Ht H') (tρ : ttE ρ) (ips : ∀ p ∈ ip, p.1 ∈ γ.pv ∨ γ.s.heap.objs.size ≤ p.1)
    (igs : ∀ q ∈ ig, s'.gens[q.1]? = some q.2 ∧ asleep q.2 = true) (gone : Tn ga.2 γ.og (ig.map (·.1)) γ.s s') (rv : RelV vv u) (rd : RepV K [] H' d vv) (td : tt d = true) (hq : (End.susp u gd l kk c p fs).quiet = true) (mks : MgsOk ip ig) (mk : MgOk ip (End.susp u gd l kk c p fs).genState)
    (hk : ∀ o' γ' s'', RsU P w K mg base k env ga γ' → GRunU K N env ga o' γ' ip ig ρ Ht s'' → Sg (mY P w) γ'.X.A.in1 (GoalU P w K mg base k env ga rest γ') c (kk (.send .none)) fs s'') : GoalU P w K mg base k env ga (d :: rest) γ (.susp u gd l kk c p fs) s' := by
  obtain ⟨lo, hlo, sl⟩ := Slots.of g I
  obtain ⟨I2, hsub, htx⟩ := gkeeps hγ.inv hγ.pv I G hγ.cons.fr
  have hpin : ∀ p ∈ (ga.1, o) :: ip, s'.heap.get? p.1 = some p.2 ∧ H' p.1 = none ∧ p.1 ≠ env.locals ∧ ∀ v, p.2.data ≠ .cell v := fun p hp => by
    obtain ⟨h1, h2, h3, _, h5⟩ := I.pin p (List.mem_append_right _ hp)
    exact ⟨h1, h2, h3, h5⟩
  have hown := hpin (ga.1, o) List.mem_cons_self
  refine ⟨hq, td, vv, gunmark env.locals γ.pv γ.H γ.s.heap H', (env.locals, lo) :: ip, ig, rv, I2, hsub, tt_grow td htx rd, ⟨⟨fun p hp => ?_, igs, by simp⟩, mk.mono fun y hy => List.mem_cons_of_mem _ hy, mks.mono fun y hy => List.mem_cons_of_mem _ hy⟩, ⟨⟨o, hown.1, isg⟩, ⟨gunmark_none hown.2.1, (hγ.pv _ hγ.own).2⟩, fun p hp => ?_, hga.2⟩, gone, fun γ' hγ' tx hpv hog ⟨o', ho', isg'⟩ hobj hgen => ?_⟩
  · rcases List.mem_cons.mp hp with rfl | hp
    · exact ⟨hlo, sl.1, gunmark_none I.free, (hγ.pv _ hγ.loc).2⟩
    · obtain ⟨h1, h2, h3, h4⟩ := hpin p (List.mem_cons_of_mem _ hp)
      refine ⟨h1, h4, ?_⟩
      rcases ips p hp with z | z
      · exact ⟨gunmark_none h2, (hγ.pv _ z).2⟩
      · exact hγ.inv.fpOk z (gunmark_none h2)
  · rcases List.mem_cons.mp hp with rfl | hp
    · exact fun z => hown.2.2.1 z.symm
    · exact hga.1 p hp
  · have mem : ∀ p ∈ ip, p.1 ∈ γ'.pv := fun p hp => by rw [hpv]; exact List.mem_cons_of_mem _ (List.mem_cons_of_mem _ (List.mem_map_of_mem hp))
    refine hk o' γ' γ'.s hγ' ⟨⟨σg, gmark env.locals γ'.pv γ'.H γ'.s.heap, gwake g hγ'.cons hγ'.inv (hobj (env.locals, lo) List.mem_cons_self) sl (hγ'.pv _ hγ'.loc) hγ'.loc (fun p hp => ?_), fun _ _ z => z, ?_, ?_⟩, isg', tρ, fun p hp => .inl (mem p hp), fun q hq => ⟨hgen q hq, (igs q hq).2⟩, (by rw [hog]; exact Tn.refl _ _ _), mks⟩
    · rcases List.mem_cons.mp hp with rfl | hp
      · refine ⟨ho', ?_, hγ'.pv _ hγ'.own, hγ'.own, hown.2.2.1⟩
        obtain ⟨nm, qn, _, hd, _⟩ := isg'
        exact fun v (z : o'.data = .cell v) => by rw [hd] at z; cases z
      · obtain ⟨h1, h2, h3, h4⟩ := hpin p (List.mem_cons_of_mem _ hp)
        exact ⟨hobj p (List.mem_cons_of_mem _ hp), h4, hγ'.pv _ (mem p hp), mem p hp, h3⟩
    · exact rE.tx tρ ((htx.trans tx).trans fun a u _ z => gmark_some z)
    · exact hfl.trans ((htx.trans tx).trans fun a u _ z => gmark_some z)
theorem gsU_yield {e : Expr} {f : Ev → Sto → R D} {yp pos : Pos} (g : GEnv N env) (he : GDE P w K mg base k N env e f) (hco : env.scope.isCoroutine = false := by rfl) (hi : interactive env = false := by rfl) :
    GSU P w K mg base k N env ga (.Expr (.Yield (some e) yp) pos) (gYield f) := by
  intro o γ ip ig ρ ys ρ' Ht rest c fs kk jj gd lv s hγ hga hp hr hB h
  obtain ⟨rfl, d, rfl, td, hf⟩ := hB
  rw [exec_Expr env _ pos hi rfl]
  show SgU _ _ _ _ c (.at pos fun _ => ((eval e env >>= fun v => (standAt yp >>= fun _ => yieldOut env v)) >>= fun x => dropValue (.Yield (some e) yp) pos x).wrap kk jj gd lv) fs s
  have hy : ∀ v, yieldOut env v = yieldValue v := fun v => by simp only [yieldOut, hco, Bool.false_eq_true, if_false]
  simp only [hy]
  refine su_at ?_
  rw [Sem.bind_eq_wrap', Sem.bind_eq_wrap', Sem.wrap_wrap, Sem.wrap_wrap]
  refine su_wrap ?_
  rw [hp.over]
  refine gdeU_run he hγ hr hf fun u v σg H' s' I G rE hfl igs gone rv rd => ?_
  refine su_at ?_
  have hg : gd false = false := hp.gd
  show SgU _ _ _ _ c (.yield u (gd false) _ _) fs s'
  rw [hg]
  refine su_yield hp.split fun p => ?_
  refine gsleepU g hγ hga hr.isg I G rE hfl hr.tt hr.ips igs gone rv rd td ?_ hr.mks (.inl rfl) fun o' γ' s'' hγ' hr' => ?_
  · show (!(false || (fs.map unF).any Frame.guarded)) = true
    rw [any_guard, hp.guard]; rfl
  · exact h o' γ' s'' hγ' hr'
theorem gsU_if {e : Expr} {a b : List Stmt} {t : Ev → Sto → R Bool} {A B : GM} {pos : Pos} (he : GDT P w K mg base k N env e t) (ha : GSsU P w K mg base k N env ga a A) (hb : GSsU P w K mg base k N env ga b B) : GSU P w K mg base k N env ga (.If e a b pos) (gIf t A B) := by
  intro o γ ip ig ρ ys ρ' Ht rest c fs kk jj gd lv s hγ hga hp hr hB h
  obtain ⟨v, hv, hB⟩ := hB
  rw [exec_If]
  refine su_bindw (wpAny_standAt ?_)
  refine su_bindw ?_
  rw [hp.over]
  refine gdtU_run he hγ hr hv fun s' hr' => ?_
  cases v with
  | true => exact ha o γ ip ig ρ ys ρ' Ht rest c fs kk jj gd lv s' hγ hga hp hr' (by simpa using hB) h
  | false => exact hb o γ ip ig ρ ys ρ' Ht rest c fs kk jj gd lv s' hγ hga hp hr' (by simpa using hB) h
/-- one turn of a for loop -/
theorem su_forLoop {A : Around} {Φ : End → Shared → Prop} {tg : Expr} {it : Value} {body orelse : List Stmt} {fs : List Frame} {s : Shared}
    (h : wpAny (mY P w) (A.over (.forLoop tg it body orelse env) fs) (pyNext it) (fun r s1 => match r with
      | none => SgU P w A Φ (.forLoop tg it body orelse env) (.pure (.again (.block orelse env))) fs s1
      | some v => wpAny (mY P w) (A.over (.forLoop tg it body orelse env) fs) (letOwnedTupleGo tg it v) (fun _ s2 => wpAny (mY P w) (A.over (.forLoop tg it body orelse env) fs) (assign tg env v) (fun _ s3 =>
          ∀ kk jj, kk .next = .pure (.again (.forLoop tg it body orelse env)) → SgU P w A Φ (.forLoop tg it body orelse env) ((execs body env).wrap kk jj id id) fs s3) (fun _ _ => False) s2) (fun _ _ => False) s1) (fun _ _ => False) s) :
    SgU P w A Φ (.forLoop tg it body orelse env) (denote table (.forLoop tg it body orelse env)) fs s := by
  show SgU P w A Φ _ ((forTurn tg it body orelse env).onRaise (upNote env)) fs s
  unfold forTurn
  rw [Sem.onRaise_eq_wrap]
  refine su_bindw (wpAny_standAt ?_)
  refine su_bindw (wpAny_onRaise (wpAny_mono h (fun r s1 h1 => ?_) fun _ _ z => z.elim))
  cases r with
  | none => exact h1
  | some v =>
    refine su_bindw (wpAny_mono h1 (fun _ s2 h2 => ?_) fun _ _ z => z.elim)
    refine su_bindw (wpAny_mono h2 (fun _ s3 h3 => ?_) fun _ _ z => z.elim)
    show SgU P w A Φ _ (Sem.wrap _ _ _ _ (execs body env >>= _)) fs s3
    rw [Sem.bind_eq_wrap', Sem.wrap_wrap]
    exact h3 _ _ rfl
end
end DL
namespace DL
open PySem L2
open PyProof.Rows hiding St
open Sem (wp)
theorem calmU_pie {X : Cx} {pins : List (Addr × Obj)} {σ : St} {tg : Expr} {R : It → Hp → Prop} : CalmU (PIE X pins σ tg R) := ⟨fun G b s v l ⟨it, fp, tn, J, H', e, I, T, st, f, r⟩ => ⟨it, fp, tn, J, H', e, inv_lu I l, T, by rw [l.heap]; exact st, f, r⟩, fun v b ⟨it, fp, tn, J, H', e, I, _⟩ => I.bare⟩
section
variable {P : Program} {w : World} {K : PySem.W.Frag} {mg : Str → Option Value} {base : Heap} {k : Nat} {N : List Str} {env : Env} {ga : GA}
/-- a target in a turn -/
theorem gdgU_run {o : Obj} {tg : Expr} {T : Tg} {γ : Rgu} {ip : List (Addr × Obj)} {ig : List (Nat × GenState)} {ρ ρ1 : Ev} {s : Shared} {d : D} {v : V} {u : Value} {σg : St} {H' Ht : Hp} {Q : Unit → Shared → Prop} {E : Value → Shared → Prop} (hg : GDG P w K mg base k N env tg T) (hγ : RsU P w K mg base k env ga γ) (isg : isG o ga.2)
    (I : Inv (gx N env γ.X γ.pv γ.H γ.s) ((ga.1, o) :: ip) σg H' s) (G : ∀ a o, gmark env.locals γ.pv γ.H γ.s.heap a = some o → H' a = some o) (rE : RepE K [] H' σg ρ) (hfl : Tx Ht H') (igs : ∀ q ∈ ig, s.gens[q.1]? = some q.2 ∧ asleep q.2 = true) (gone : Tn ga.2 γ.og (ig.map (·.1)) γ.s s) (ips : ∀ p ∈ ip, p.1 ∈ γ.pv ∨ γ.s.heap.objs.size ≤ p.1) (mks : MgsOk ip ig)
    (rv : RelV v u) (rd : RepV K [] H' d v) (hT : T d ρ [] = some (ρ1, [])) (t1 : ttE ρ1) (h : ∀ s', GRunU K N env ga o γ ip ig ρ1 Ht s' → Q () s') : wpAny (mY P w) (γ.X.A.in1.deeper env) (assign tg env u) Q E s := by
  have hof := hγ.of
  obtain ⟨e1, e2, e3, e4, e5⟩ := hγ.of
  have key := pg_y (X := gx N env γ.X γ.pv γ.H γ.s) (Q := fun σ' H'' => (∀ a o, H' a = some o → H'' a = some o) ∧ RepE K [] H'' σ' ρ1) calmU_no (hg γ.X γ.pv γ.H γ.s hof hγ.inner) I rv ⟨[], ρ, [], d, ρ1, [], by rw [show (gx N env γ.X γ.pv γ.H γ.s).K = K from e3]; exact rE, sim_nil, by rw [show (gx N env γ.X γ.pv γ.H γ.s).K = K from e3]; exact rd, hT, by
    intro ι' H'' σ' Gw Sm hE
    cases sim_is_nil Sm
    rw [show (gx N env γ.X γ.pv γ.H γ.s).K = K from e3] at hE
    exact ⟨Gw.sub, hE⟩⟩
  have key2 : wpAny (mY γ.X.prog γ.X.w) (γ.X.A.in1.deeper env) (assign tg env u) _ _ s := key
  rw [e1, e2] at key2
  refine wpAny_mono key2 (fun _ s' ⟨⟨σ', H'', I', hk, hE⟩, kp⟩ => ?_) fun x s' z => z.1.elim
  refine h s' ⟨⟨σ', H'', I', fun a o z => hk a o (G a o z), hE, hfl.trans fun a u _ z => hk a u z⟩, isg, t1, ips, fun q hq => ?_, gone.trans kp.tn, mks⟩
  obtain ⟨z1, z2⟩ := igs q hq
  exact ⟨kp.kept.gen _ _ z1 z2, z2⟩
structure GRunPU (K : PySem.W.Frag) (N : List Str) (env : Env) (ga : GA) (o : Obj) (Pm : St → Hp → Prop) (γ : Rgu) (ip : List (Addr × Obj)) (ig : List (Nat × GenState)) (ρ : Ev) (Ht : Hp) (s' : Shared) : Prop where
  ex : ∃ σg H', Inv (gx N env γ.X γ.pv γ.H γ.s) ((ga.1, o) :: ip) σg H' s' ∧ (∀ a o, gmark env.locals γ.pv γ.H γ.s.heap a = some o → H' a = some o) ∧ RepE K [] H' σg ρ ∧ Tx Ht H' ∧ Pm σg H'
  isg : isG o ga.2
  tt : ttE ρ
  ips : ∀ p ∈ ip, p.1 ∈ γ.pv ∨ γ.s.heap.objs.size ≤ p.1
  igs : ∀ q ∈ ig, s'.gens[q.1]? = some q.2 ∧ asleep q.2 = true
  gone : Tn ga.2 γ.og (ig.map (·.1)) γ.s s'
  mks : MgsOk ip ig
theorem gsU_forP {o : Obj} {tg iter : Expr} {body : List Stmt} {Pm : St → Hp → Prop} {ds : List D} {T : Tg} {B : GM} {pos : Pos} (hi : ∀ (X : Cx) (pv : List Addr) (H : Hp) (s : Shared), OfP P w K mg base X → Room k (X.A.in1.deeper env) → PI (gx N env X pv H s) tg iter (rdPm K Pm ds)) (hg : GDG P w K mg base k N env tg T) (hb : GSsU P w K mg base k N env ga body B)
    (hs : ∀ x, foldedSetIterable iter env x = pure x)
    (γ : Rgu) (ip : List (Addr × Obj)) (ig : List (Nat × GenState)) (ρ : Ev) (ys : List D) (ρ' : Ev) (Ht : Hp) (rest : List D) (c : Code) (fs : List Frame) (kk : Flow → Sem PySem.Fin) (jj : Value → Sem PySem.Fin) (gd : Bool → Bool) (lv : List Value → List Value) (s : Shared)
    (hγ : RsU P w K mg base k env ga γ) (hga : GaU ga ip ig) (hp : GPos env c fs gd) (hr : GRunPU K N env ga o Pm γ ip ig ρ Ht s) (hL : gLoop T B ds ρ ys ρ')
    (h : ∀ o' γ' s', RsU P w K mg base k env ga γ' → GRunU K N env ga o' γ' ip ig ρ' Ht s' → SgU P w γ'.X.A.in1 (GoalU P w K mg base k env ga rest γ') c (kk .next) fs s') :
    SgU P w γ.X.A.in1 (GoalU P w K mg base k env ga (ys ++ rest) γ) c ((exec (.For tg iter body [] pos) env).wrap kk jj gd lv) fs s := by
  obtain ⟨σg, H', I, G, rE, hfl, hPm⟩ := hr.ex
  have hof := hγ.of
  obtain ⟨e1, e2, e3, e4, e5⟩ := hγ.of
  rw [exec_For]
  refine su_bindw (wpAny_standAt ?_)
  refine su_bindw ?_
  rw [hp.over]
  have key := wpAny_un2 (fun _ => True) (Q := fun _ => PIE (gx N env γ.X γ.pv γ.H γ.s) ((ga.1, o) :: ip) σg tg fun J H'' => (∀ a o, H' a = some o → H'' a = some o) ∧ ItT K J H'' ds) (fun _ => calmU_pie) calmU_no (thn ((hi γ.X γ.pv γ.H γ.s hof hγ.inner).run ((ga.1, o) :: ip) (still s) σg H' _ (inv_still I) ⟨hPm, fun J H'' hk hJ => ⟨hk, hJ⟩⟩) fun _ _ z => ⟨trivial, z⟩)
  have key2 : wpAny (mY γ.X.prog γ.X.w) (γ.X.A.in1.deeper env) (eval iter env) (fun a s1 => True ∧ wpAny (mY γ.X.prog γ.X.w) (γ.X.A.in1.deeper env) (pyIter a) _ _ s1) _ s := key
  rw [e1, e2] at key2
  refine wpAny_mono key2 (fun v s1 ⟨_, h1⟩ => ?_) fun _ _ z => z.1.elim
  refine su_bindw (wpAny_of_eq (hs v) ?_)
  refine su_bindw (wpAny_standAt ?_)
  refine su_bindw (wpAny_holding ?_)
  rw [hp.over]
  refine wpAny_mono h1 (fun itv s2 h2 => ?_) fun _ _ z => z.1.elim
  obtain ⟨⟨it, fp, tn, J, H2, rfl, I2, T2, st2, fp2, hk2, hJ2⟩, kp2⟩ := h2
  have TT : Turn P w K tg J fp it tn := by
    have z : Turn γ.X.prog γ.X.w γ.X.K tg J fp it tn := T2
    rw [e1, e2, e3] at z; exact z
  refine su_call fun p => ?_
  have hsz : ∀ {γ' : Rgu}, RsU P w K mg base k env ga γ' → (hcut γ'.s.heap env.locals).objs.size = env.locals := fun {γ'} hγ' => by
    rw [hcut_size]
    exact Nat.min_eq_left (Nat.le_of_lt hγ'.lt)
  have hst : ∀ b ∈ fp, env.locals ≤ b ∧ b ≠ ga.1 ∧ ∀ p ∈ ip, p.1 ≠ b := fun b hb => by
    obtain ⟨_, _, _, z4, _, z6⟩ := fp2 b hb
    refine ⟨?_, fun z => z6 (ga.1, o) (List.mem_append_right _ List.mem_cons_self) z.symm, fun p hp => z6 p (List.mem_append_right _ (List.mem_cons_of_mem _ hp))⟩
    rcases z4 with z | z
    · cases z
    · have z' : (hcut γ.s.heap env.locals).objs.size ≤ b := z
      rw [hsz hγ] at z'; exact z'
  have hgp := fun (kr : Result → Sem PySem.Fin) => gpos_loop (env := env) (kr := kr) (c' := .forLoop tg (.ref it) body [] env) (l := lv []) (kp := []) (p := p) hp rfl rfl
  -- a turn's iterator is the generator's own
  have own : ∀ {γ' : Rgu} {H3 : Hp} {s3 : Shared}, RsU P w K mg base k env ga γ' → (∀ a o, gmark env.locals γ'.pv γ'.H γ'.s.heap a = some o → H3 a = some o) → Gon ga.2 γ'.s s3 → ∀ b ∈ fp, H3 b = none → (∃ o, s3.heap.get? b = some o) → b ∈ γ'.pv ∨ γ'.s.heap.objs.size ≤ b := fun {γ' H3 s3} hγ' hm hgo b hb hn ho => by
    by_cases hlt : b < γ'.s.heap.objs.size
    · by_cases hpv : b ∈ γ'.pv
      · exact .inl hpv
      · exfalso
        cases hq : γ'.s.heap.get? b with
        | none =>
          obtain ⟨o, ho⟩ := ho
          rw [hgo.gone.none b hlt hq] at ho; cases ho
        | some o =>
          cases hH : γ'.H b with
          | some u => rw [hm b u (gmark_some hH)] at hn; cases hn
          | none => rw [hm b _ (gmark_ext hH (hst b hb).1 hpv hq)] at hn; cases hn
    · exact .inr (Nat.le_of_not_lt hlt)
  have loop : ∀ (l : List D) (i : Nat) (ρ : Ev) (ys : List D) (γ : Rgu) (s : Shared) (σg : St) (H1 : Hp) (o : Obj), l = ds.drop i → RsU P w K mg base k env ga γ → isG o ga.2 → Inv (gx N env γ.X γ.pv γ.H γ.s) ((ga.1, o) :: ip) σg H1 s → (∀ a o, gmark env.locals γ.pv γ.H γ.s.heap a = some o → H1 a = some o) → RepE K [] H1 σg ρ → Tx H2 H1 → ttE ρ →
      (∀ p ∈ ip, p.1 ∈ γ.pv ∨ γ.s.heap.objs.size ≤ p.1) → (∀ q ∈ ig, s.gens[q.1]? = some q.2 ∧ asleep q.2 = true) → Tn ga.2 γ.og (ig.map (·.1)) γ.s s → tn i s.heap → (∀ b ∈ fp, FpOk (gx N env γ.X γ.pv γ.H γ.s) ((ga.1, o) :: ip) H1 b) → gLoop T B l ρ ys ρ' →
      SgU P w γ.X.A.in1 (GoalU P w K mg base k env ga (ys ++ rest) γ) (.forLoop tg (.ref it) body [] env) (denote table (.forLoop tg (.ref it) body [] env))
        (.ret (fun r => ((match r with | .ok f => (.pure f : Sem Flow) | .error e => .raise e).onRaise (cameBack env)).wrap kk jj gd lv) none (gd false) (lv []) c p [] :: fs) s := by
    intro l
    induction l with
    | nil =>
      intro i ρ ys γ s σg H1 o hl hγ isg I G rE hfl2 tρ ips igs gone st ff hL
      obtain ⟨rfl, rfl⟩ := hL
      obtain ⟨e1, e2, e3, e4, e5⟩ := hγ.of
      have hle : ds.length ≤ i := by
        have := congrArg List.length hl
        rw [List.length_drop] at this
        simp at this
        omega
      refine su_forLoop ?_
      rw [(hgp _).over]
      have key := wpAny_un (Q := fun r s1 => r = none ∧ Inv (gx N env γ.X γ.pv γ.H γ.s) ((ga.1, o) :: ip) σg H1 s1) ⟨fun G b s a l ⟨z1, z2⟩ => ⟨z1, inv_lu z2 l⟩, fun a b ⟨_, z⟩ => z.bare⟩ calmU_no (TT.done (gx N env γ.X γ.pv γ.H γ.s) e1 e2 e3 rfl i ((ga.1, o) :: ip) (still s) σg H1 (fun _ _ => False) (inv_still I) ff st ((hJ2.tx hfl2 H1 (Tx.refl _)).1 i hle))
      refine wpAny_mono key (fun r s1 ⟨⟨hr, I1⟩, kp⟩ => ?_) fun _ _ z => z.1
      subst hr
      refine su_again rfl ?_
      show SgU _ _ _ _ _ (leafOf (.ok .next)) _ _
      refine su_leaf (.ok .next) ?_
      refine h o γ s1 hγ ⟨⟨σg, H1, I1, G, rE, hfl.trans (fun a u f z => hfl2 a u f (hk2 a _ z))⟩, isg, tρ, ips, fun q hq => ?_, gone.trans kp.tn, hr.mks⟩
      obtain ⟨z1, z2⟩ := igs q hq
      exact ⟨kp.kept.gen _ _ z1 z2, z2⟩
    | cons d l ih =>
      intro i ρ ys γ s σg H1 o hl hγ isg I G rE hfl2 tρ ips igs gone st ff hL
      obtain ⟨ρ1, y1, ρ2, y2, hT, t1, b1, b2, rfl⟩ := hL
      obtain ⟨e1, e2, e3, e4, e5⟩ := hγ.of
      have hd : ds[i]? = some d := by
        have := congrArg List.head? hl
        rw [List.head?_drop] at this
        exact this.symm
      have hl' : l = ds.drop (i + 1) := by
        have := congrArg List.tail hl
        rw [List.tail_drop] at this
        exact this
      obtain ⟨go, yl⟩ := (hJ2.tx hfl2 H1 (Tx.refl _)).2 i d hd
      refine su_forLoop ?_
      rw [(hgp _).over, List.append_assoc]
      have key := wpAny_un2 (fun r => ∃ u, r = some u) (u := fun r => match r with | some v => letOwnedTupleGo tg (.ref it) v | none => (.unsupported "" : Sem Unit))
        (Q := fun r _ s2 => ∃ u, r = some u ∧ ∃ x H'', Inv (gx N env γ.X γ.pv γ.H γ.s) ((ga.1, o) :: ip) σg H'' s2 ∧ RelV x u ∧ J.yld i H1 x H'' ∧ tn (i + 1) s2.heap ∧ ∀ b ∈ fp, H'' b = none)
        (fun r => ⟨fun G b s a l ⟨u, z0, x, H'', z1, z2, z3, z4, z5⟩ => ⟨u, z0, x, H'', inv_lu z1 l, z2, z3, by rw [l.heap]; exact z4, z5⟩, fun a b ⟨u, z0, x, H'', z1, _⟩ => z1.bare⟩) calmU_no
        (wpAny_mono (TT.item (gx N env γ.X γ.pv γ.H γ.s) e1 e2 e3 rfl i ((ga.1, o) :: ip) (still s) σg H1 (fun _ _ => False) (inv_still I) ff st go) (fun r s1 ⟨u, hr, hu⟩ => by
          subst hr
          exact ⟨⟨u, rfl⟩, wpAny_mono hu (fun _ s2 z => ⟨u, rfl, z⟩) fun _ _ z => z⟩) fun _ _ z => z)
      refine wpAny_mono key (fun r s1 ⟨⟨u, hr⟩, h1⟩ => ?_) fun _ _ z => z.1
      subst hr
      ·
        refine wpAny_mono h1 (fun _ s5 ⟨⟨u', hu', x, H5, I5, r5, y5, st5, fr5⟩, kp⟩ => ?_) fun _ _ z => z.1
        cases hu'
        obtain ⟨hk5, rd5⟩ := yl x H5 y5
        have ff5 : ∀ b ∈ fp, FpOk (gx N env γ.X γ.pv γ.H γ.s) ((ga.1, o) :: ip) H5 b := fun b hb => ⟨fr5 b hb, (ff b hb).2⟩
        have I5' : Inv (gx N env γ.X γ.pv γ.H γ.s) ((ga.1, o) :: (ip ++ pinsAt fp s5.heap)) σg H5 s5 := I5.pinned ff5 (TT.obj _ _ st5)
        have gone5 : Tn ga.2 γ.og (ig.map (·.1)) γ.s s5 := gone.trans kp.tn
        have G5 : ∀ a o, gmark env.locals γ.pv γ.H γ.s.heap a = some o → H5 a = some o := fun a o z => hk5 a o (G a o z)
        have ips5 : ∀ p ∈ ip ++ pinsAt fp s5.heap, p.1 ∈ γ.pv ∨ γ.s.heap.objs.size ≤ p.1 := fun p hp => by
          rcases List.mem_append.mp hp with hp | hp
          · exact ips p hp
          · obtain ⟨hb, he⟩ := of_pinsAt hp
            exact own hγ G5 gone5.gon p.1 hb (fr5 _ hb) ⟨_, he⟩
        refine gdgU_run (Ht := H2) (ig := ig) hg hγ isg I5' G5 (rE.tx tρ fun a u _ z => hk5 a u z) (hfl2.trans fun a u _ z => hk5 a u z) (fun q hq => ?_) gone5 ips5 (hr.mks.mono fun y hy => List.mem_append_left _ hy) r5 rd5 hT t1 fun s6 hr6 => ?_
        · obtain ⟨z1, z2⟩ := igs q hq
          exact ⟨kp.kept.gen _ _ z1 z2, z2⟩
        intro kk2 jj2 hkk
        refine hb o γ (ip ++ pinsAt fp s5.heap) ig ρ1 y1 ρ2 H2 (y2 ++ rest) _ _ kk2 jj2 id id s6 hγ ⟨fun p hp => ?_, hga.2⟩ (hgp _) hr6 b1 fun o7 γ' s7 hγ' hr7 => ?_
        · rcases List.mem_append.mp hp with hp | hp
          · exact hga.1 p hp
          · exact (hst p.1 (of_pinsAt hp).1).2.1
        rw [hkk]
        refine su_again rfl ?_
        obtain ⟨σ7, H7, I7, G7, rE7, hfl7⟩ := hr7.ex
        have pin7 : ∀ b ∈ fp, ∀ o, s5.heap.get? b = some o → s7.heap.get? b = some o ∧ H7 b = none ∧ b ≠ env.locals ∧ b ∉ frs γ'.X.stack := fun b hb o e => by
          obtain ⟨z1, z2, z3, z4, _⟩ := I7.pin (b, o) (List.mem_append_right _ (List.mem_cons_of_mem _ (List.mem_append_right _ (mem_pinsAt hb e))))
          exact ⟨z1, z2, z3, z4⟩
        have I7' : Inv (gx N env γ'.X γ'.pv γ'.H γ'.s) (((ga.1, o7) :: ip) ++ pinsAt fp s5.heap) σ7 H7 s7 := I7
        refine ih (i + 1) ρ2 y2 γ' s7 σ7 H7 o7 hl' hγ' hr7.isg I7'.unpinned G7 rE7 hfl7 hr7.tt (fun p hp => hr7.ips p (List.mem_append_left _ hp)) hr7.igs hr7.gone (TT.keep _ _ _ st5 fun b hb o e => (pin7 b hb o e).1) (fun b hb => ?_) b2
        obtain ⟨o, e, _⟩ := TT.obj _ _ st5 b hb
        obtain ⟨_, z2, z3, z4⟩ := pin7 b hb o e
        refine ⟨z2, z3, z4, .inr ?_, fun x d e => ?_, fun q hq => ?_⟩
        · show (hcut γ'.s.heap env.locals).objs.size ≤ b
          rw [hsz hγ']; exact (hst b hb).1
        · have z := (ff b hb).2.2.2.2.1 x d e
          exact z
        · rcases List.mem_append.mp hq with z | z
          · cases z
          · rcases List.mem_cons.mp z with rfl | z
            · exact fun z => (hst b hb).2.1 z.symm
            · exact (hst b hb).2.2 q z
  exact loop ds 0 ρ ys γ s2 σg H2 o rfl hγ hr.isg I2 (fun a o z => hk2 a o (G a o z)) (rE.tx hr.tt fun a u _ z => hk2 a u z) (Tx.refl _) hr.tt hr.ips (fun q hq => ⟨kp2.kept.gen _ _ (hr.igs q hq).1 (hr.igs q hq).2, (hr.igs q hq).2⟩) (hr.gone.trans kp2.tn) st2 fp2 hL
theorem gsU_forJ {tg iter : Expr} {body : List Stmt} {f : GSrc} {T : Tg} {B : GM} {pos : Pos} (hi : GDJ P w K mg base k N env tg iter f) (hg : GDG P w K mg base k N env tg T) (hb : GSsU P w K mg base k N env ga body B)
    (hs : ∀ x, foldedSetIterable iter env x = pure x := by intro _; rfl) : GSU P w K mg base k N env ga (.For tg iter body [] pos) (gForJ f T B) := by
  intro o γ ip ig ρ ys ρ' Ht rest c fs kk jj gd lv s hγ hga hp hr hB h
  obtain ⟨ds, hf, hL⟩ := hB
  obtain ⟨σg, H', I, G, rE, hfl⟩ := hr.ex
  exact gsU_forP (Pm := fun σ H => RepE K [] H σ ρ) (ds := ds) (fun X pv H s of room => PI.imp (hi X pv H s of room) fun σ H Rr ⟨rE, q⟩ => ⟨ρ, ds, rE, hf, q⟩) hg hb hs γ ip ig ρ ys ρ' Ht rest c fs kk jj gd lv s hγ hga hp ⟨⟨σg, H', I, G, rE, hfl, rE⟩, hr.isg, hr.tt, hr.ips, hr.igs, hr.gone, hr.mks⟩ hL h
end
end DL
namespace DL
open PySem L2
open PyProof.Rows hiding St
open Sem (wp)
section
variable {M : Model} {A : Around} {E : Value → Shared → Prop} {s : Shared}
theorem numG {a : Addr} {n : Nat} {o : Obj} {Q : Nat → Shared → Prop} (ho : s.heap.get? a = some o) (z : isG o n) (h : Q n s) : wpAny M A (Builtin.Generator.genNumber (.ref a)) Q E s := by
  obtain ⟨nm, qn, _, hd, hsl⟩ := z
  unfold Builtin.Generator.genNumber
  refine wpAny_bind (wpAny_load ho ?_)
  rcases hsl with hsl | hsl
  · rw [hsl, hd]
    show wpAny M A (pure ((n : Int).toNat)) Q E s
    rw [Int.toNat_natCast]; exact wpAny_pure h
  · rw [hsl, hd]
    show wpAny M A (pure ((n : Int).toNat)) Q E s
    rw [Int.toNat_natCast]; exact wpAny_pure h
end
theorem iterG {P : Program} {w : World} {A : Around} {E : Value → Shared → Prop} {s : Shared} {a : Addr} {n : Nat} {o : Obj} {Q : Value → Shared → Prop} (ho : s.heap.get? a = some o) (z : isG o n) (h : Q (.ref a) s) : wpAny (mY P w) A (pyIter (.ref a)) Q E s := by
  have hT : s.TypeIs (.ref a) "generator" := ⟨o, ho, z.choose_spec.choose_spec.1⟩
  refine wpAny_pyIter_slot hT slot_gen_iter (callEntryY slot_gen_iter hT entry_gen_iter ?_ (args_gen_iter _))
  show wpAny _ _ (ret (.ref a)) _ _ s
  exact wpAny_pure ⟨_, rfl, "generator", _, hT, slot_gen_next.lookup, h⟩
section
variable (P : Program) (w : World) (K : PySem.W.Frag) (mg : Str → Option Value) (base : Heap) (k : Nat) (env : Env) (ga : GA)
/-- asleep: xs will come -/
structure SlpU (xs : List D) (st : GenState) (pvp : List (Addr × Obj)) (gs : List (Nat × GenState)) (pl : Option (Addr × HO)) (H : Hp) : Prop where
  bare : st.bare = true
  ne : ∀ q ∈ gs, ga.2 < q.1
  nown : ∀ p ∈ pvp, p.1 ≠ ga.1
  loc : env.locals ∈ pvp.map (·.1)
  go : ∀ γ : Rgu, RsU P w K mg base k env ga γ → Tx H γ.H → (∀ a u, pl = some (a, u) → γ.H a = some u) → γ.pv = ga.1 :: pvp.map (·.1) → γ.og = gs.map (·.1) → OwnAt ga γ.s → (∀ p ∈ pvp, γ.s.heap.get? p.1 = some p.2) → (∀ q ∈ gs, γ.s.gens[q.1]? = some q.2) →
    SgOf (mY P w) γ.X.A.in1 (GoalU P w K mg base k env ga xs γ) st γ.s
/-- the generator, seen by a consumer: it stands in the state -/
structure GAtU (X : Cx) (pins : List (Addr × Obj)) (xs : List D) (st : GenState) (pvp : List (Addr × Obj)) (gs : List (Nat × GenState)) (H : Hp) (s : Shared) : Prop where
  slp : ∃ H0 pl, Tx H0 H ∧ (∀ a u, pl = some (a, u) → H a = some u) ∧ (pl = none ∨ ∃ c, st = .fresh c) ∧ SlpU P w K mg base k env ga xs st pvp gs pl H0
  own : s.gens[ga.2]? = some st
  obj : ∀ p ∈ pvp, s.heap.get? p.1 = some p.2 ∧ (∀ v, p.2.data ≠ .cell v) ∧ FpOk X pins H p.1
  gen : ∀ q ∈ gs, s.gens[q.1]? = some q.2 ∧ asleep q.2 = true
  me : OwnAt ga s ∧ FpOk X pins H ga.1
  mks : MgOk pvp st ∧ MgsOk pvp gs
end
section
variable {P : Program} {w : World} {K : PySem.W.Frag} {mg : Str → Option Value} {base : Heap} {k : Nat} {env : Env} {ga : GA}
theorem gone_set {s : Shared} {n : Nat} {x : GenState} : Gone s (s.setGen n x) := Gone.heap (Gone.refl s) rfl
/-- the generator wakes -/
theorem tn_wake {og : List Nat} {s : Shared} {n : Nat} : Tn n (n :: og) og s (s.setGen n .running) := by
  refine ⟨⟨gone_set, ?_, fun i z l e a => ?_⟩, fun i x e => ?_⟩
  · show _ ≤ (s.gens.setIfInBounds n _).size
    rw [Array.size_setIfInBounds]; exact Nat.le_refl _
  · show (s.gens.setIfInBounds n _)[i]? = _
    rw [Array.getElem?_setIfInBounds_ne (Nat.ne_of_gt l)]; exact e
  · have e : (s.gens.setIfInBounds n .running)[i]? = some x := e
    by_cases h : n = i
    · subst h
      rw [Array.getElem?_setIfInBounds_self] at e
      split at e
      · cases e; exact .inl rfl
      · cases e
    · rw [Array.getElem?_setIfInBounds_ne h] at e
      by_cases hi : i ∈ og
      · exact .inr (.inl hi)
      · exact .inr (.inr ⟨e, fun q => by
          rcases List.mem_cons.mp q with z | z
          · exact h z.symm
          · exact hi z⟩)
/-- the generator sleeps, or is done -/
theorem tn_set {og ig : List Nat} {s s1 : Shared} {n : Nat} {x : GenState} (h : Tn n og ig s s1) : Tn n og (n :: ig) s (s1.setGen n x) := by
  refine ⟨⟨h.gon.gone.trans gone_set, ?_, fun i z l e a => ?_⟩, fun i y e => ?_⟩
  · show _ ≤ (s1.gens.setIfInBounds n _).size
    rw [Array.size_setIfInBounds]; exact h.gon.size
  · show (s1.gens.setIfInBounds n _)[i]? = _
    rw [Array.getElem?_setIfInBounds_ne (Nat.ne_of_gt l)]; exact h.gon.low i z l e a
  · have e : (s1.gens.setIfInBounds n x)[i]? = some y := e
    by_cases hi : n = i
    · exact .inr (.inl (by rw [hi]; exact List.mem_cons_self))
    · rw [Array.getElem?_setIfInBounds_ne hi] at e
      rcases h.fr i y e with z | z | z
      · exact .inl z
      · exact .inr (.inl (List.mem_cons_of_mem _ z))
      · exact .inr (.inr z)
theorem tn_done {og : List Nat} {s s1 : Shared} {n : Nat} (h : Tn n og [] s s1) : Tn n og [] s (s1.setGen n .finished) := by
  refine ⟨(tn_set (x := .finished) h).gon, fun i y e => ?_⟩
  by_cases hi : n = i
  · have e : (s1.gens.setIfInBounds n .finished)[i]? = some y := e
    subst hi
    rw [Array.getElem?_setIfInBounds_self] at e
    split at e
    · cases e; exact .inl rfl
    · cases e
  · rcases (tn_set (x := .finished) h).fr i y e with z | z | z
    · exact .inl z
    · rcases List.mem_cons.mp z with z | z
      · exact absurd z.symm hi
      · exact absurd z (by simp)
    · exact .inr (.inr z)
theorem tn_push2 {n : Nat} {og ig : List Nat} {s s1 : Shared} {a b : Obj} {t : Nat} (h : Tn n og ig s s1) : Tn n og ig s { s1 with heap := (s1.heap.push a).push b, toks := t } := ⟨h.gon.push2, h.fr⟩
/-- next(g), as a special call -/
theorem gturnU {X : Cx} {pins : List (Addr × Obj)} {σ : St} {H : Hp} {s : Shared} {xs : List D} {st : GenState} {pvp : List (Addr × Obj)} {gs : List (Nat × GenState)} (of : OfP P w K mg base X) (room : Room (k + 2) X.A) (cons : Cons env.locals X) (I : Inv X pins σ H s) (G : GAtU P w K mg base k env ga X pins xs st pvp gs H s) :
    wpAny (mY P w) X.A (callSpecial? (.ref ga.1) (Str.ofString "__next__")) (fun r s2 => ∃ x xs' u vv H2 st2 pvp2 gs2, xs = x :: xs' ∧ r = some u ∧ RelV vv u ∧ Inv X pins σ H2 s2 ∧ (∀ a o, H a = some o → H2 a = some o) ∧ tt x = true ∧ RepV K [] H2 x vv ∧ asleep st2 = true ∧ (∀ c, st2 ≠ .fresh c) ∧ GAtU P w K mg base k env ga X pins xs' st2 pvp2 gs2 H2 s2 ∧
        Tn ga.2 (ga.2 :: gs.map (·.1)) (ga.2 :: gs2.map (·.1)) s s2)
      (fun e s2 => xs = [] ∧ StopX e s2.heap ∧ ∃ H2, Inv X pins σ H2 s2 ∧ (∀ a o, H a = some o → H2 a = some o) ∧ Tn ga.2 (ga.2 :: gs.map (·.1)) [] s s2) s := by
  obtain ⟨⟨H0, pl, tx0, hpl, _, sl⟩, own, obj, gen, ⟨⟨go, hgo, isg⟩, fpo⟩, _⟩ := G
  have hlt : env.locals < s.heap.objs.size := by
    obtain ⟨p, hp, e⟩ := List.mem_map.mp sl.loc
    rw [← e]
    exact Heap.lt_size (obj p hp).1
  have hTy : s.TypeIs (.ref ga.1) "generator" := ⟨go, hgo, isg.choose_spec.choose_spec.1⟩
  let γ : Rgu := ⟨⟨X, pins, σ, H, s.setGen ga.2 .running, ga.1 :: pvp.map (·.1)⟩, gs.map (·.1)⟩
  have hγ : RsU P w K mg base k env ga γ := ⟨of, room, cons, inv_gens I rfl, fun b hb => by
    rcases List.mem_cons.mp hb with rfl | hb
    · exact fpo
    · obtain ⟨p, hp, rfl⟩ := List.mem_map.mp hb
      exact (obj p hp).2.2, List.mem_cons_of_mem _ sl.loc, List.mem_cons_self, hlt, by show ga.2 < (s.gens.setIfInBounds _ _).size; rw [Array.size_setIfInBounds]; exact (Array.getElem?_eq_some_iff.mp own).1⟩
  have run := sl.go γ hγ tx0 hpl rfl rfl ⟨go, hgo, isg⟩ (fun p hp => (obj p hp).1) fun q hq => by
    show (s.gens.setIfInBounds ga.2 .running)[q.1]? = _
    rw [Array.getElem?_setIfInBounds_ne (Nat.ne_of_lt (sl.ne q hq))]
    exact (gen q hq).1
  have hh : X.A.handled = none := room.hd
  have hd : X.A.depth < recursionLimit := room.depth
  have gsz : ga.2 < s.gens.size := (Array.getElem?_eq_some_iff.mp own).1
  refine wpAny_callSpecial?_slot (name := Str.ofString "__next__") hTy slot_gen_next (callEntryY slot_gen_next hTy entry_gen_next ?_ (args_gen_next _))
  show wpAny _ X.A.in1 (Builtin.Generator.genWake (.ref ga.1) (.send .none)) _ _ s
  unfold Builtin.Generator.genWake
  refine wpAny_bind (wpAny_holding (numG hgo isg (wpAny_bind (wpAny_genState own ?_))))
  cases st with
  | running => exact run.elim
  | finished => exact run.elim
  | _ =>
    refine wpAny_bind (wpAny_roomToWake I.nolimit hd ?_)
    show wpAny _ X.A.in1 (.resume ga.2 (.send .none) [] _) _ _ s
    refine wpAny_resumeS own run fun e s1 hΦ hsz => ?_
    cases xs with
    | nil =>
      cases e with
      | susp v gd l kk c p fs => exact hΦ.elim
      | ret r =>
        obtain ⟨rfl, H2, I2, sub, tn, _, _⟩ := hΦ
        refine ⟨rfl, ?_⟩
        have I3 : Inv X pins σ H2 (s1.setGen ga.2 .finished) := inv_gens I2 rfl
        show wpAny _ X.A.in1 (newExc (.type "StopIteration") [] >>= fun _ => _) _ _ (s1.setGen ga.2 .finished)
        refine wpAny_bind ?_
        simp only [newExc, newTuple]
        refine wpAny_bind (wpAny_newObj_type (hd := by size_fits) ?_)
        refine wpAny_bind (m := firstArgMember _ _) (wpAny_of_eq (a := Value.none) (by first | (simp only [firstArgMember]; rfl) | rfl) ?_)
        refine wpAny_newObj_type (hd := by size_fits) ?_
        simp only [raiseNew]
        refine wpAny_bind (wpAny_bind (wpAny_handled ?_))
        rw [show X.A.in1.handled = none from hh]
        refine wpAny_throw ?_
        refine ⟨by trivial, ⟨_, _, _, rfl, Heap.get?_push_size _ rfl, rfl, rfl, ?_⟩, H2, ?_, sub, tn_push2 (tn_wake.trans (tn_done tn))⟩
        · first
            | rfl
            | (rw [Array.getElem?_append_left (by decide)]; rfl)
            | kernel_rfl
        · exact I3.kept fun b o z => Heap.get?_push_of_some _ (Heap.get?_push_of_some _ z)
    | cons x xs =>
      cases e with
      | ret r => exact hΦ.elim
      | susp v gd l kk c p fs =>
        obtain ⟨hq, tx, vv, H2, pvp2, gs2, rv, I2, sub, rd, ⟨pk, mk⟩, ⟨me, fpo2, hno, hne⟩, tn, cont⟩ := hΦ
        refine ⟨hq, wpAny_pure ⟨v, rfl, x, xs, v, vv, H2, (End.susp v gd l kk c p fs).genState, pvp2, gs2, rfl, rfl, rv, inv_gens I2 (quiet_bare hq), sub, tx, rd, ?_, (fun c z => by cases z), ?_, tn_wake.trans (tn_set tn)⟩⟩
        · rfl
        · refine ⟨⟨H2, none, Tx.refl _, (fun _ _ z => by cases z), .inl rfl, ⟨quiet_bare hq, hne, hno, pk.loc, fun γ' h1 h2 _ h3 h4 h5 h6 h7 => cont γ' h1 h2 h3 h4 h5 h6 h7⟩⟩, ?_, pk.obj, fun q hq => ?_, ⟨me, fpo2⟩, mk⟩
          · exact L2.setGen_at (Nat.lt_of_lt_of_le gsz hsz)
          · show (s1.gens.setIfInBounds ga.2 _)[q.1]? = _ ∧ _
            rw [Array.getElem?_setIfInBounds_ne (Nat.ne_of_lt (hne q hq))]
            exact pk.gen q hq
/-- next(g) -/
theorem gnextU {X : Cx} {pins : List (Addr × Obj)} {σ : St} {H : Hp} {s : Shared} {xs : List D} {st : GenState} {pvp : List (Addr × Obj)} {gs : List (Nat × GenState)} (of : OfP P w K mg base X) (room : Room (k + 2) X.A) (cons : Cons env.locals X) (I : Inv X pins σ H s) (G : GAtU P w K mg base k env ga X pins xs st pvp gs H s) :
    wpAny (mY P w) X.A (pyNext (.ref ga.1)) (fun r s2 => (xs = [] ∧ r = none ∧ ∃ H2, Inv X pins σ H2 s2 ∧ (∀ a o, H a = some o → H2 a = some o) ∧ Tn ga.2 (ga.2 :: gs.map (·.1)) [] s s2) ∨
      ∃ x xs' u vv H2 st2 pvp2 gs2, xs = x :: xs' ∧ r = some u ∧ RelV vv u ∧ Inv X pins σ H2 s2 ∧ (∀ a o, H a = some o → H2 a = some o) ∧ tt x = true ∧ RepV K [] H2 x vv ∧ asleep st2 = true ∧ (∀ c, st2 ≠ .fresh c) ∧ GAtU P w K mg base k env ga X pins xs' st2 pvp2 gs2 H2 s2 ∧
        Tn ga.2 (ga.2 :: gs.map (·.1)) (ga.2 :: gs2.map (·.1)) s s2) (fun _ _ => False) s := by
  unfold pyNext
  refine wpAny_bind (wpAny_attempt (wpAny_mono (gturnU of room cons I G) (fun r s2 z => ?_) fun e s2 z => ?_))
  · obtain ⟨x, xs', u, vv, H2, st2, pvp2, gs2, a, rfl, c⟩ := z
    exact wpAny_pure (.inr ⟨x, xs', u, vv, H2, st2, pvp2, gs2, a, rfl, c⟩)
  · obtain ⟨e1, ⟨a, o, vs, rfl, hoa, hcls, _⟩, z⟩ := z
    refine wpAny_bind (wpAny_isInstance (b := true) (T := "StopIteration") ⟨o, hoa, hcls⟩ isSubtype_stop ?_)
    exact wpAny_pure (.inl ⟨e1, by trivial, z⟩)
end
end DL
namespace DL
open PySem L2
open PyProof.Rows hiding St
open Sem (wp)
/-- what a call of a generator def gives -/
def GMkU (P : Program) (w : World) (K : PySem.W.Frag) (mg : Str → Option Value) (base : Heap) (k : Nat) (X : Cx) (pins : List (Addr × Obj)) (σ : St) (H : Hp) (xs : List D) (s0 : Shared) (u : Value) (s' : Shared) : Prop :=
  ∃ env ga c pvp, u = .ref ga.1 ∧ Inv X pins σ H s' ∧ Cons env.locals X ∧ GAtU P w K mg base k env ga X pins xs (.fresh c) pvp [] H s' ∧ s0.gens.size ≤ ga.2 ∧ KeptU s0 s'
def GnU (P : Program) (w : World) (K : PySem.W.Frag) (mg : Str → Option Value) (base : Heap) (k : Nat) (f : Addr) (G : List D → Option (List D)) : Prop :=
  ∀ (X : Cx) (pins : List (Addr × Obj)) (s : Shared) (σ : St) (H : Hp) (us : List Value) (vs : List V) (ds xs : List D), OfP P w K mg base X → Room (k + 2) X.A → X.calm = true → Inv X pins σ H s → Vals vs us → RepL K [] H ds vs → ttL ds = true → G ds = some xs →
    wpAny (mY P w) X.A (call (.ref f) us) (GMkU P w K mg base k X pins σ H xs s) (fun _ _ => False) s
/-- the frame's code -/
theorem su_func {P : Program} {w : World} {A : Around} {Φ : End → Shared → Prop} {body : List Stmt} {env : Env} {s : Shared}
    (h : ∀ kk jj, kk .next = .pure (.done (.ret .none)) → SgU P w A Φ (.func body env) ((execs body env).wrap kk jj id id) [] s) : SgU P w A Φ (.func body env) (denote table (.func body env)) [] s := by
  show SgU P w A Φ _ (.point [] fun _ => ((execs body env).onRaise (leaving env)) >>= _) [] s
  refine su_wrap (m := point) (k := fun _ => ((execs body env).onRaise (leaving env)) >>= _) (j := .raise) (gd := id) (lv := fun _ => []) (wpAny_point ?_)
  rw [Sem.onRaise_eq_wrap, Sem.bind_eq_wrap', Sem.wrap_wrap]
  exact h _ _ rfl
section
variable {P : Program} {w : World} {K : PySem.W.Frag} {mg : Str → Option Value} {base : Heap} {k : Nat} {f : Addr} {fd : FuncData} {N ps : List Str}
theorem gnU_of {x qual : Str} {st : Stmt} {B : GM} {G : List D → Option (List D)} (F : Fun K x qual st f fd) (sc : GScope N ps (defScope st)) (hn : ∀ y ∈ (defScope st).names, y.2 ≠ .cell ∧ y.2 ≠ .free) (hb : Binds K fd ps [])
    (hG : ∀ ds xs, G ds = some xs → ds.length = ps.length ∧ ∃ ρ', B (startD N.length ds) xs ρ')
    (hbody : ∀ (cdv : Value) (L : Addr) (ga : GA), GSsU P w K mg base k N (envOfC qual (defScope st) L f cdv) ga (defBody st) B) : GnU P w K mg base k f G := by
  intro X pins s σ H us vs ds xs of room calm I rv rl tds hxs
  refine wpAny_mono (wpAny_gone (Q := fun u s' => Gone s s' → GMkU P w K mg base k X pins σ H xs s u s') ?_) (fun _ _ z => z.2 z.1) fun _ _ z => z.2
  obtain ⟨hlen, ρ', hB⟩ := hG ds xs hxs
  obtain ⟨oc, od, kV, doc, pm, an, cdv, ct, osl, efd, lk, hcd⟩ := F.ex
  have hof := of
  obtain ⟨e1, e2, e3, e4, e5⟩ := of
  have e0 := I.env0
  rw [e1, e2, e3, e4, e5] at e0
  have hl : vs.length = ps.length := by rw [← RepL.length _ _ rl]; exact hlen
  have hlu : us.length = ps.length := by rw [← rv.length]; exact hl
  have KX : K.In s.heap := e0.mod.kin.keeps fun b o e => (e0.bs b o e).1
  have bd := hb s us KX (by rw [List.append_nil]; exact hlu)
  rw [List.append_nil, efd] at bd
  rw [efd] at lk
  have hkind : ∀ y ∈ ps.zip us, (defScope st).names.lookup y.1 = some .local ∨ ((defScope st).names.lookup y.1 = some .cell ∧ ((cellsFrom (s.heap.objs.size + 1) (defScope st).names []).lookup y.1).isSome = true) := by
    rintro ⟨n, v⟩ hy
    exact (sc.par n (List.of_mem_zip hy).1).imp id fun q => ⟨q, PySem.W.cellsFrom_some _ _ _ (.inl q)⟩
  refine wpAny_call ?_
  refine callGenY room.depth (KX _ _ lk) rfl sc.co sc.gen rfl (PySem.W.codeRec_of KX hcd) (bd _ _ _ _ ?_)
  refine wpAny_newFunctionEnv_cells sc.kind hkind fun env he s1 ic => ?_
  subst he
  have lim : s1.heap.NoLimit := (e0.mod.nolimit.keeps fun b o e => (e0.bs b o e).1).keeps ic.toInCall.keep
  refine ⟨lim, ?_⟩
  have I1 : Inv (gcxOf P w K mg base N qual (defScope st) f cdv X.A X.stack s H (fun _ _ _ => False) []) [] (start N vs) H s1 := inv_startG sc room.hd e0 hl rv ic
  obtain ⟨h1, tk, es1, hk1⟩ := ic.done
  have ge : GEnv N (envOfC qual (defScope st) s.heap.objs.size f cdv) := genv_of sc.kind hn
  have kp1 : ∀ b o, s.heap.get? b = some o → s1.heap.get? b = some o := ic.toInCall.keep
  have lt1 : s.heap.objs.size < s1.heap.objs.size := ic.toInCall.ns.lt
  obtain ⟨m, ⟨lo, des, dep, hlo, hld, hlk, hlm⟩, hloc⟩ := I1.loc
  have slots : Slots N (envOfC qual (defScope st) s.heap.objs.size f cdv) lo (start N vs) := by
    refine ⟨(fun v (z : lo.data = .cell v) => by rw [hld] at z; cases z), I1.len, m, fun h e => ⟨lo, des, dep, e, hld, hlk, hlm⟩, fun i y v q1 q2 q3 => ?_⟩
    obtain ⟨u, r, l⟩ := hloc i y v q1 q2 q3
    refine ⟨u, r, ?_⟩
    rcases l with l | ⟨z, _⟩
    · exact l
    · exact absurd z (fun z => z.elim (ge.nocell y).1 (ge.nocell y).2)
  have main : ∀ (go : Obj) (nm qn : Value) (tk2 : Nat), go.cls = .type "generator" → go.data = .fields #[.int s1.gens.size 0, nm, qn] → go.slots = #[] → (∀ h : Heap, (h.push go).get? h.objs.size = some go) →
      Gone s { s1 with gens := s1.gens.push (.fresh (.func (defBody st) (envOfC qual (defScope st) s.heap.objs.size f cdv))), toks := tk2, heap := s1.heap.push go } → GMkU P w K mg base k X pins σ H xs s (.ref s1.heap.objs.size) { s1 with gens := s1.gens.push (.fresh (.func (defBody st) (envOfC qual (defScope st) s.heap.objs.size f cdv))), toks := tk2, heap := s1.heap.push go } := by
    intro go nm qn tk2 hc hdt hsl hpu
    have kp2 : ∀ b o, s.heap.get? b = some o → (s1.heap.push go).get? b = some o := fun b o e => Heap.get?_push_of_some _ (kp1 b o e)
    have os1 : s1.os = s.os := by rw [es1]
    have gn1 : s1.gens = s.gens := by rw [es1]
    have hbr : AllBare (s1.gens.push (.fresh (.func (defBody st) (envOfC qual (defScope st) s.heap.objs.size f cdv)))) := AllBare.push (by rw [gn1]; exact I.bare) rfl
    have I2 : Inv X pins σ H { s1 with gens := s1.gens.push (.fresh (.func (defBody st) (envOfC qual (defScope st) s.heap.objs.size f cdv))), toks := tk2, heap := s1.heap.push go } :=
      I.call' (ch := []) os1 (Un.kept kp2) (I.hok.kept kp2) hbr fun b z => by simp at z
    have cns : Cons s.heap.objs.size X := ⟨calm, fun b hb => by
      obtain ⟨_, o, ho, _⟩ := I.stack.mem hb
      exact Heap.lt_size ho, Nat.le_trans I.ok.bsz I.sz⟩
    have fpL : FpOk X pins H s.heap.objs.size := I.fpOk (Nat.le_refl _) (I.hok.fresh (Nat.le_refl _))
    have fpG : FpOk X pins H s1.heap.objs.size := I.fpOk (Nat.le_of_lt lt1) (I.hok.fresh (Nat.le_of_lt lt1))
    have hneL : s1.heap.objs.size ≠ s.heap.objs.size := Nat.ne_of_gt lt1
    have isg : isG go s1.gens.size := ⟨nm, qn, hc, hdt, .inl hsl⟩
    intro gone2
    refine ⟨envOfC qual (defScope st) s.heap.objs.size f cdv, (s1.heap.objs.size, s1.gens.size), .func (defBody st) (envOfC qual (defScope st) s.heap.objs.size f cdv), [(s.heap.objs.size, lo)], rfl, I2, cns, ⟨⟨H, none, Tx.refl _, (fun _ _ z => by cases z), .inl rfl, ⟨rfl, fun q hq => (by simp at hq), fun p hp => ?_, by simp [envOfC], fun γ hγ tx _ hpv hog ⟨o', ho', isg'⟩ hobj _ => ?_⟩⟩, ?_, fun p hp => ?_, fun q hq => (by simp at hq), ⟨⟨go, hpu _, isg⟩, fpG⟩, .inl rfl, mks_nil⟩, Nat.le_of_eq (by rw [gn1]), ⟨⟨fun i x e _ => ?_, gone2, by show s.gens.size ≤ (s1.gens.push _).size; rw [gn1, Array.size_push]; omega⟩, fun i x e hn => ?_⟩⟩
    · rw [List.mem_singleton.mp hp]
      exact hneL.symm
    · show SgU P w γ.X.A.in1 (GoalU P w K mg base k (envOfC qual (defScope st) s.heap.objs.size f cdv) (s1.heap.objs.size, s1.gens.size) xs γ) (.func (defBody st) (envOfC qual (defScope st) s.heap.objs.size f cdv)) (denote table (.func (defBody st) (envOfC qual (defScope st) s.heap.objs.size f cdv))) [] γ.s
      refine su_func fun kk jj hkk => ?_
      have pos : GPos (envOfC qual (defScope st) s.heap.objs.size f cdv) (.func (defBody st) (envOfC qual (defScope st) s.heap.objs.size f cdv)) [] id := ⟨fun A => GenW.over_func, rfl, rfl, rfl⟩
      have fpL' := hγ.pv _ hγ.loc
      have wk := gwake (ip := [(s1.heap.objs.size, o')]) ge hγ.cons hγ.inv (hobj (s.heap.objs.size, lo) (by simp)) slots fpL' hγ.loc (fun p hp => by
        rw [List.mem_singleton.mp hp]
        obtain ⟨nm', qn', _, hd', _⟩ := isg'
        exact ⟨ho', (fun v (z : o'.data = .cell v) => by rw [hd'] at z; cases z), hγ.pv _ hγ.own, hγ.own, hneL⟩)
      have rE : RepE K [] (gmark s.heap.objs.size γ.pv γ.H γ.s.heap) (start N vs) (startD N.length ds) :=
        start_rep N (tt_moveL (ι := []) (ι' := []) (fun a ys _ z => ⟨by simp, gmark_some (tx.tup z)⟩) (fun _ _ _ z => gmark_some (tx.frz z)) ds vs tds rl)
      have key := hbody cdv s.heap.objs.size (s1.heap.objs.size, s1.gens.size) o' γ [] [] (startD N.length ds) xs ρ' H [] _ [] kk jj id id γ.s hγ ⟨fun p hp => (by simp at hp), fun q hq => (by simp at hq)⟩ pos
        ⟨⟨start N vs, _, wk, fun _ _ z => z, rE, fun a u f z => gmark_some (tx a u f z)⟩, isg', startD_tt tds, fun p hp => (by simp at hp), fun q hq => (by simp at hq), (by rw [hog]; exact Tn.refl _ _ _), mks_nil⟩ hB fun o7 γ' s' hγ' hr' => ?_
      · rw [List.append_nil] at key; exact key
      · rw [hkk]
        obtain ⟨σ', H', I', G', _, _⟩ := hr'.ex
        obtain ⟨z1, z2, _⟩ := gkeeps hγ'.inv hγ'.pv I' G' hγ'.cons.fr
        obtain ⟨q1, q2, _⟩ := I'.pin (s1.heap.objs.size, o7) (List.mem_append_right _ List.mem_cons_self)
        exact su_end (.ok (.ret .none)) ⟨rfl, _, z1, z2, hr'.gone, ⟨o7, q1, hr'.isg⟩, gunmark_none q2, (hγ'.pv _ hγ'.own).2⟩
    · exact Array.getElem?_push_size ..
    · rw [List.mem_singleton.mp hp]
      exact ⟨Heap.get?_push_of_some _ hlo, slots.1, fpL⟩
    · show (s1.gens.push _)[i]? = _
      have l : i < s1.gens.size := by rw [gn1]; exact (Array.getElem?_eq_some_iff.mp e).1
      rw [Array.getElem?_push_lt l, ← e, ← gn1]
      exact (Array.getElem?_eq_getElem l).symm
    · have e : (s1.gens.push (.fresh (.func (defBody st) (envOfC qual (defScope st) s.heap.objs.size f cdv))))[i]? = some x := e
      rw [Array.getElem?_push] at e
      split at e
      · cases e; rfl
      · rw [gn1] at e
        have := hn x e
        cases x <;> first | rfl | cases this
  exact main _ _ _ _ rfl rfl rfl fun h => Heap.get?_push_size _ rfl
end
end DL
namespace DL
open PySem L2
open PyProof.Rows hiding St
open Sem (wp)
/-- an expression in a generator's frame whose value is a generator that has not begun -/
def PGU (X : Cx) (k : Nat) (e : Expr) (f : Ev → Sto → R (List D)) : Prop := ∀ (pins : List (Addr × Obj)) (s : Shared) (σ : St) (H : Hp) (ρ : Ev) (xs : List D), Inv X pins σ H s → RepE X.K [] H σ ρ → f ρ [] = .ok xs [] →
  wpAny (mY X.prog X.w) X.A (eval e X.env) (fun u s' => ∃ H1, (∀ a o, H a = some o → H1 a = some o) ∧ GMkU X.prog X.w X.K X.mg X.base k X pins σ H1 xs s u s') noE s
section
variable {X : Cx} {k : Nat} {E : Value → Shared → Prop} {pins : List (Addr × Obj)} {s : Shared} {σ : St} {H : Hp}
theorem globY {x : Str} {u : Value} {pos : Pos} {Q : Value → Shared → Prop} (I : Inv X pins σ H s) (hg : Gl X x) (hm : X.mg x = some u) (h : Q u s) (hd : (x == ("__debug__" : Str)) = false := by decide) : wpAny (mY X.prog X.w) X.A (eval (.Name x pos) X.env) Q E s :=
  Calls.Name_function_global I.ok.kind hg (Calls.loadGlobal_global (by rw [I.ok.glob]; exact I.mod.glob.keeps I.bk) hm h) hd
theorem bltY {x : Str} {u : Value} {pos : Pos} {Q : Value → Shared → Prop} (I : Inv X pins σ H s) (hg : Gl X x) (hm : X.mg x = none) (hv : bootBuiltins x = some u) (h : Q u s) (hn : x ≠ "__name__" := by decide) (hd : (x == ("__debug__" : Str)) = false := by decide) : wpAny (mY X.prog X.w) X.A (eval (.Name x pos) X.env) Q E s := by
  obtain ⟨mb, h1, h2⟩ := I.mod.blt
  exact Calls.Name_function_global I.ok.kind hg (Calls.loadGlobal_builtin (by rw [I.ok.glob]; exact I.mod.glob.keeps I.bk) hm (by rw [I.ok.blt]; exact h1.keeps I.bk) ((h2 x hn).trans hv) h) hd
theorem pgU_call {x : Str} {f : Addr} {p pos : Pos} {e : Expr} {es : List Expr} {G : List D → Option (List D)} {g : Ev → Sto → R (List D)} (hF : GnU X.prog X.w X.K X.mg X.base k f G) (hr : Room (k + 2) X.A) (hc : X.calm = true) (hx : NoX X) (hm : X.mg x = some (.ref f)) (hk : PySem.W.keepIn X.K (.ref f) = true) (ha : DA X W0 (e :: es) g) (hg : Gl X x := by rfl) (hdb : (x == ("__debug__" : Str)) = false := by decide)
    (he : starEach (e :: es) X.env = (false, eval e X.env) :: starEach es X.env := by rfl) (hpl : (backTo pos (starEach es X.env)).any (·.1) = false := by rfl) : PGU X k (.Call (.Name x p) (e :: es) [] pos) (eGen G g) := by
  intro pins s σ H ρ xs I hE h
  obtain ⟨ds, hgv, tds, hG⟩ : ∃ ds, g ρ [] = .ok ds [] ∧ ttL ds = true ∧ G ds = some xs := by
    unfold eGen at h
    cases q : g ρ [] with
    | stuck => rw [q] at h; cases h
    | er a b => rw [q] at h; cases h
    | ok ds S1 =>
      rw [q] at h
      simp only [R.bind] at h
      split at h
      · rename_i t
        cases hG : G ds with
        | none => rw [hG] at h; cases h
        | some ys => rw [hG] at h; cases h; exact ⟨ds, rfl, t, hG⟩
      · cases h
  refine wpAny_Call_Name_kw (globY I hg hm ?_ hdb)
  have rd : rdA X.K W0 g σ H fun vs H1 => (∀ a o, H a = some o → H1 a = some o) ∧ RepL X.K [] H1 ds vs := ⟨[], ρ, [], hE, sim_nil, by
    rw [hgv]
    intro ι1 H1 G1 s1 vs rs
    cases sim_is_nil s1
    exact ⟨G1.sub, rs⟩⟩
  refine PySem.W.callWith_K (h₀ := X.base) I.ok.mod.kin hk (wpAny_mono (wpAny_un calmU_ap hx.calm (ha.run pos pins (still s) σ H _ (inv_still I) rd)) (fun us s1 ⟨⟨vs, H1, I1, r1, sub, rs⟩, kp⟩ => ⟨I1.kIn, ?_⟩) fun _ _ z => (hx _ _ z.1).elim) he hpl
  refine wpAny_mono (hF X pins s1 σ H1 us vs ds xs ⟨rfl, rfl, rfl, rfl, rfl⟩ hr hc I1 r1 rs tds hG) (fun u s2 ⟨env, ga, c, pvp, q1, q2, q3, q4, q5, q6⟩ => ⟨H1, sub, env, ga, c, pvp, q1, q2, q3, q4, Nat.le_trans kp.kept.size q5, kp.trans q6⟩) fun _ _ z => z.elim
end
def mark0 (i : Int) (o : Obj) : Obj := { o with slots := #[some (.int i 0)] }
theorem isG_gen {o : Obj} {n : Nat} (z : isG o n) (i : Int) : (mark0 i o).genNumber? = some n := by
  obtain ⟨nm, qn, hc, hd, _⟩ := z
  unfold Obj.genNumber?
  rw [show (mark0 i o).cls = o.cls from rfl, show (mark0 i o).data = o.data from rfl, hc, hd]
  show some ((n : Int).toNat) = _
  rw [Int.toNat_natCast]
theorem isG_off {o : Obj} {n : Nat} (z : isG o n) (i : Int) : isG (mark0 0 (mark0 i o)) n := by
  obtain ⟨nm, qn, hc, hd, _⟩ := z
  exact ⟨nm, qn, hc, hd, .inr rfl⟩
section
variable {M : Model} {A : Around} {E : Value → Shared → Prop} {s : Shared} {a : Addr} {o : Obj} {n : Nat} {Q : Unit → Shared → Prop}
theorem mark_on (ho : s.heap.get? a = some o) (z : isG o n) (h : ∀ h', h'.get? a = some (mark0 1 o) → (∀ b o, b ≠ a → s.heap.get? b = some o → h'.get? b = some o) → (∀ b, b < s.heap.objs.size → s.heap.get? b = none → h'.get? b = none) → s.heap.objs.size ≤ h'.objs.size → Q () { s with heap := h' }) : wpAny M A (Builtin.Generator.sleptOver (.ref a) true) Q E s := by
  obtain ⟨nm, qn, hc, hd, hsl⟩ := z
  unfold Builtin.Generator.sleptOver
  refine wpAny_bind (wpAny_load ho ?_)
  rw [hc, if_neg (by decide)]
  have key : ∀ f : Obj → Obj, f o = mark0 1 o → Q () { s with heap := s.heap.update a f } := fun f hf => by
    refine h _ ?_ (fun b o' hb e => (Heap.get?_update_other _ _ (Ne.symm hb)).trans e) (gone_upd (s := s) (by rw [ho]; rfl)).none (gone_upd (s := s) (by rw [ho]; rfl)).size
    rw [← hf]
    exact Heap.get?_update_self _ ho (Obj.isFreed_of_fields (by rw [hf]; exact hd))
  rcases hsl with hsl | hsl
  · rw [hsl]
    unfold setSlotAt
    refine wpAny_bind (wpAny_pure ?_)
    refine wpAny_updatePart ho (key _ ?_)
    show { o with slots := _ } = mark0 1 o
    rw [hsl]; rfl
  · rw [hsl]
    unfold setSlotAt
    refine wpAny_bind (wpAny_pure ?_)
    refine wpAny_updatePart ho (key _ ?_)
    show { o with slots := _ } = mark0 1 o
    rw [hsl]; rfl
theorem mark_off (ho : s.heap.get? a = some (mark0 1 o)) (z : isG o n) (h : ∀ h', h'.get? a = some (mark0 0 (mark0 1 o)) → (∀ b o, b ≠ a → s.heap.get? b = some o → h'.get? b = some o) → (∀ b, b < s.heap.objs.size → s.heap.get? b = none → h'.get? b = none) → s.heap.objs.size ≤ h'.objs.size → Q () { s with heap := h' }) : wpAny M A (Builtin.Generator.sleptOver (.ref a) false) Q E s := by
  obtain ⟨nm, qn, hc, hd, hsl⟩ := z
  unfold Builtin.Generator.sleptOver
  refine wpAny_bind (wpAny_load ho ?_)
  rw [show (mark0 1 o).cls = o.cls from rfl, hc, if_neg (by decide)]
  unfold setSlotAt
  refine wpAny_bind (wpAny_pure ?_)
  refine wpAny_updatePart ho ?_
  refine h _ ?_ (fun b o' hb e => (Heap.get?_update_other _ _ (Ne.symm hb)).trans e) (gone_upd (s := s) (by rw [ho]; rfl)).none (gone_upd (s := s) (by rw [ho]; rfl)).size
  exact Heap.get?_update_self _ ho (Obj.isFreed_of_fields hd)
end
theorem close_gen : typeLookup (.type "generator") "close" = pure (some (.builtin "generator.close")) := by rw [typeLookup_type, builtinLookup_eq_fast]; kernel_rfl
section
variable {P : Program} {w : World} {A : Around} {Φ : End → Shared → Prop} {c : Code} {fs : List Frame} {s : Shared}
/-- a delegator goes to sleep -/
theorem su_yieldYf {a : Addr} {o : Obj} {n : Nat} {v : Value} {l : List Value} {k : Resume → Sem PySem.Fin} (hy : yfIt c = some a) (ho : s.heap.get? a = some o) (hn : o.genNumber? = some n) (hs : splitAtGen fs = none) (h : ∀ p, Φ (.susp v false [.none] (fun r => unq c (k r)) c p (fs.map unF)) s) : SgU P w A Φ c (.yield v true l k) fs s := by
  have e : unq c (.yield v true l k) = .load a none fun o => match o.genNumber? with
        | some _ => .yield v false [.none] fun x => unq c (k x)
        | none => .unsupported "" := by
    simp only [unq]
    rw [hy]
    try rfl
  unfold SgU
  rw [e]
  intro Γ p hc hw
  obtain ⟨e1, s1, r, z⟩ := sg_yield (M := mY P w) (A := A) (g := false) (l := [.none]) (k := fun x => unq c (k x)) (v := v) (split_un _ hs) h Γ p hc hw
  refine ⟨e1, s1, Runs.head' (fun _ _ x => .load ho x) ?_, z⟩
  rw [hn]
  exact r
end
theorem over_in1 {A : Around} {c c' : Code} {fs : List Frame} {k : Result → Sem PySem.Fin} {g : Bool} {l kp : List Value} {p : Pos} (hw : c'.weight = 0) (hu : c'.cUnits = 1) : A.over c' (.ret k none g l c p kp :: fs) = (A.over c fs).in1 := by
  have e2 : A.depth + frameCount ((c, p) :: fs.map Frame.where_) + c'.weight = A.depth + frameCount (fs.map Frame.where_) + c.weight := by
    rw [frameCount_cons, hw]; omega
  have e3 : pushEnvs c'.envs (pushEnvs (envsOf ((c, p) :: fs.map Frame.where_)) A.frames) = pushEnvs c.envs (pushEnvs (envsOf (fs.map Frame.where_)) A.frames) := by
    rw [Code.envs_of_weight hw, envsOf_cons]
    simp only [pushEnvs_eq]
    cases A.frames <;> simp [List.append_assoc]
  have e4 : pushGuards c'.guards (pushGuards (guardsOf ((c, p) :: fs.map Frame.where_)) A.guards) = pushGuards c.guards (pushGuards (guardsOf (fs.map Frame.where_)) A.guards) := by
    rw [Code.guards_of_weight hw, guardsOf_cons]
    simp only [pushGuards_eq]
    cases A.guards <;> simp [List.append_assoc]
  have e5 : A.units + PySem.unitsOf ((c, p) :: fs.map Frame.where_) + c'.cUnits = A.units + PySem.unitsOf (fs.map Frame.where_) + c.cUnits + 1 := by
    rw [unitsOf_cons, hu]; omega
  show (⟨(marksOver fs (A.handled, A.handled)).1, A.depth + frameCount ((c, p) :: fs.map Frame.where_) + c'.weight, pushEnvs c'.envs (pushEnvs (envsOf ((c, p) :: fs.map Frame.where_)) A.frames), pushGuards c'.guards (pushGuards (guardsOf ((c, p) :: fs.map Frame.where_)) A.guards), A.units + PySem.unitsOf ((c, p) :: fs.map Frame.where_) + c'.cUnits⟩ : Around) = _
  rw [e2, e3, e4, e5]
  rfl
theorem den_yfY {it : Value} : denote table (.builtin "proto.yield_from" ⟨[it, .bool false, .none], []⟩) = Builtin.«proto.yield_from» ⟨[it, .bool false, .none], []⟩ := by
  show (match entryFor table "proto.yield_from" with
    | some b => b ⟨[it, .bool false, .none], []⟩
    | none => unsupported ((withoutEnding? "proto.yield_from" "#data").getD "proto.yield_from")) = _
  rw [entry_yf]
end DL
namespace DL
open PySem L2
open PyProof.Rows hiding St
open Sem (wp)
/-- a quiet end, asleep -/
theorem susp_eq {v : Value} {l : List Value} {k : Resume → Sem PySem.Fin} {c : Code} {p : Pos} {fs : List Frame} (h : fs.any Frame.guarded = false) : (End.susp v false l k c p fs).genState = .suspended k l c p fs false := by
  show GenState.suspended k l c p fs (false || fs.any Frame.guarded) = _
  rw [h]; rfl
/-- what a delegation hands out -/
def gYf (f : Ev → Sto → R (List D)) : GM := fun ρ ys ρ' => ρ' = ρ ∧ f ρ [] = .ok ys []
def GPU (P : Program) (w : World) (K : PySem.W.Frag) (mg : Str → Option Value) (base : Heap) (k k' : Nat) (N : List Str) (env : Env) (e : Expr) (f : Ev → Sto → R (List D)) : Prop := ∀ (X : Cx) (pv : List Addr) (H : Hp) (s : Shared), OfP P w K mg base X → Room k (X.A.in1.deeper env) → PGU (gx N env X pv H s) k' e f
abbrev yfCode (a : Addr) : Code := .builtin "proto.yield_from" ⟨[.ref a, .bool false, .none], []⟩
theorem gat_atA {P : Program} {w : World} {K : PySem.W.Frag} {mg : Str → Option Value} {base : Heap} {k : Nat} {env : Env} {ga : GA} {X : Cx} {A : Around} {pins : List (Addr × Obj)} {xs : List D} {st : GenState} {pvp : List (Addr × Obj)} {gs : List (Nat × GenState)} {H : Hp} {s : Shared}
    (G : GAtU P w K mg base k env ga X pins xs st pvp gs H s) : GAtU P w K mg base k env ga (Cx.atA X A) pins xs st pvp gs H s := ⟨G.slp, G.own, G.obj, G.gen, G.me, G.mks⟩
theorem gat_ofA {P : Program} {w : World} {K : PySem.W.Frag} {mg : Str → Option Value} {base : Heap} {k : Nat} {env : Env} {ga : GA} {X : Cx} {A : Around} {pins : List (Addr × Obj)} {xs : List D} {st : GenState} {pvp : List (Addr × Obj)} {gs : List (Nat × GenState)} {H : Hp} {s : Shared}
    (G : GAtU P w K mg base k env ga (Cx.atA X A) pins xs st pvp gs H s) : GAtU P w K mg base k env ga X pins xs st pvp gs H s := ⟨G.slp, G.own, G.obj, G.gen, G.me, G.mks⟩
section
variable {P : Program} {w : World} {K : PySem.W.Frag} {mg : Str → Option Value} {base : Heap} {k k' : Nat} {N : List Str} {env : Env} {ga : GA}
theorem gsU_yf {e : Expr} {f : Ev → Sto → R (List D)} {yp pos : Pos} (hkk : k' + 3 ≤ k) (ge : GEnv N env) (hi : GPU P w K mg base k k' N env e f) (hint : interactive env = false := by rfl) : GSU P w K mg base k N env ga (.Expr (.YieldFrom e yp) pos) (gYf f) := by
  intro o γ ip ig ρ ys ρ' Ht rest c fs kk jj gd lv s hγ hga hp hr hB h
  obtain ⟨rfl, hf⟩ := hB
  obtain ⟨σg, H', I, G, rE, hfl⟩ := hr.ex
  have hof := hγ.of
  obtain ⟨e1, e2, e3, e4, e5⟩ := hγ.of
  rw [exec_Expr env _ pos hint rfl]
  show SgU P w _ _ c (.at pos fun _ => ((eval e env >>= fun v => (standAt yp >>= fun _ => yieldFrom env v)) >>= fun x => dropValue (.YieldFrom e yp) pos x).wrap kk jj gd lv) fs s
  refine su_at ?_
  rw [Sem.bind_eq_wrap', Sem.bind_eq_wrap', Sem.wrap_wrap, Sem.wrap_wrap]
  refine su_wrap ?_
  rw [hp.over]
  have key := hi γ.X γ.pv γ.H γ.s hof hγ.inner ((ga.1, o) :: ip) s σg H' ρ' ys I (by rw [show (gx N env γ.X γ.pv γ.H γ.s).K = K from e3]; exact rE) hf
  have key2 : wpAny (mY γ.X.prog γ.X.w) (γ.X.A.in1.deeper env) (eval e env) (fun u s' => ∃ H1, (∀ a o, H' a = some o → H1 a = some o) ∧ GMkU γ.X.prog γ.X.w γ.X.K γ.X.mg γ.X.base k' (gx N env γ.X γ.pv γ.H γ.s) ((ga.1, o) :: ip) σg H1 ys s u s') noE s := key
  rw [e1, e2, e3, e4, e5] at key2
  refine wpAny_mono key2 (fun v s1 ⟨H1, sub1, env', gb, c0, pvp, hv, I1, cns, gat, hnum, kp1⟩ => ?_) fun _ _ z => z.elim
  subst hv
  obtain ⟨⟨og, hog, isgb⟩, fpb⟩ := gat.me
  have hTy : s1.TypeIs (.ref gb.1) "generator" := ⟨og, hog, isgb.choose_spec.choose_spec.1⟩
  refine su_at ?_
  show SgU P w _ _ c ((yieldFrom env (.ref gb.1)).wrap _ jj gd lv) fs s1
  unfold yieldFrom
  refine su_bindw (wpAny_typeOf hTy ?_)
  rw [if_neg (show ¬ ((Value.type "generator" == Value.type "coroutine") = true) by decide)]
  refine su_bindw (wpAny_holding ?_)
  rw [hp.over]
  refine iterG hog isgb ?_
  refine su_call fun p => ?_
  have hlt : env.locals < env'.locals := cns.fr _ (by
    show env.locals ∈ frs (env :: γ.X.stack)
    unfold frs
    rw [List.filterMap_cons, ge.frame]
    exact List.mem_cons_self)
  have hga2 : ga.2 < gb.2 := Nat.lt_of_lt_of_le (Nat.lt_of_lt_of_le hγ.num hr.gone.gon.size) hnum
  have hig : ∀ q ∈ ig, q.1 < gb.2 := fun q hq => Nat.lt_of_lt_of_le (Array.getElem?_eq_some_iff.mp (hr.igs q hq).1).1 hnum
  have igs1 : ∀ q ∈ ig, s1.gens[q.1]? = some q.2 ∧ asleep q.2 = true := fun q hq => by
    obtain ⟨z1, z2⟩ := hr.igs q hq
    exact ⟨kp1.kept.gen _ _ z1 z2, z2⟩
  have hsz : ∀ {γ' : Rgu}, RsU P w K mg base k env ga γ' → (hcut γ'.s.heap env.locals).objs.size = env.locals := fun {γ'} hγ' => by
    rw [hcut_size]
    exact Nat.min_eq_left (Nat.le_of_lt hγ'.lt)
  have cnsOf : ∀ {γ' : Rgu} {A : Around}, RsU P w K mg base k env ga γ' → Cons env'.locals (Cx.atA (gx N env γ'.X γ'.pv γ'.H γ'.s) A) := fun {γ' A} hγ' => ⟨rfl, fun b hb => by
    have hb' : b ∈ frs (env :: γ'.X.stack) := hb
    unfold frs at hb'
    rw [List.filterMap_cons, ge.frame] at hb'
    rcases List.mem_cons.mp hb' with rfl | hb'
    · exact hlt
    · exact Nat.lt_trans (hγ'.cons.fr b hb') hlt, Nat.le_trans hγ'.cons.bsz (Nat.le_of_lt hlt)⟩
  have hov : ∀ (kr : Result → Sem PySem.Fin) (A : Around), A.over (yfCode gb.1) (.ret kr none (gd false) (lv []) c p [] :: fs) = (A.deeper env).in1 := fun kr A => by
    rw [over_in1 (plainId_weight plain_yf _) (plainId_units plain_yf _), hp.over]
  have hspl : ∀ (kr : Result → Sem PySem.Fin), splitAtGen (.ret kr none (gd false) (lv []) c p [] :: fs) = none := fun kr => by
    show Option.map _ (splitAtGen fs) = none
    rw [hp.split]; rfl
  have hgrd : ∀ (kr : Result → Sem PySem.Fin), (Frame.ret kr none (gd false) (lv []) c p [] :: fs).any Frame.guarded = false := fun kr => by
    show (gd false || fs.any Frame.guarded) = false
    rw [hp.gd, hp.guard]; rfl
  -- the inner generator's things are this generator's own
  have own : ∀ {γ' : Rgu} {H3 : Hp} {s3 : Shared} {pins : List (Addr × Obj)}, RsU P w K mg base k env ga γ' → (∀ a o, gmark env.locals γ'.pv γ'.H γ'.s.heap a = some o → H3 a = some o) → Gon ga.2 γ'.s s3 → ∀ b, FpOk (gx N env γ'.X γ'.pv γ'.H γ'.s) pins H3 b → (∃ o, s3.heap.get? b = some o) → b ∈ γ'.pv ∨ γ'.s.heap.objs.size ≤ b := fun {γ' H3 s3 pins} hγ' hm hgo b hb ho => by
    have hL : env.locals ≤ b := by
      rcases hb.2.2.2.1 with z | z
      · cases z
      · have z' : (hcut γ'.s.heap env.locals).objs.size ≤ b := z
        rw [hsz hγ'] at z'; exact z'
    have hn := hb.1
    by_cases hlt : b < γ'.s.heap.objs.size
    · by_cases hpv : b ∈ γ'.pv
      · exact .inl hpv
      · exfalso
        cases hq : γ'.s.heap.get? b with
        | none =>
          obtain ⟨o, ho⟩ := ho
          rw [hgo.gone.none b hlt hq] at ho; cases ho
        | some o =>
          cases hH : γ'.H b with
          | some u => rw [hm b u (gmark_some hH)] at hn; cases hn
          | none => rw [hm b _ (gmark_ext hH hL hpv hq)] at hn; cases hn
    · exact .inr (Nat.le_of_not_lt hlt)
  have loop : ∀ (l : List D) (γ : Rgu) (s : Shared) (σg : L2.St) (H1 : Hp) (o : Obj) (st : GenState) (pvp : List (Addr × Obj)) (gs : List (Nat × GenState)), RsU P w K mg base k env ga γ → isG o ga.2 → Inv (gx N env γ.X γ.pv γ.H γ.s) ((ga.1, o) :: ip) σg H1 s → (∀ a o, gmark env.locals γ.pv γ.H γ.s.heap a = some o → H1 a = some o) → RepE K [] H1 σg ρ' → Tx Ht H1 →
      (∀ p ∈ ip, p.1 ∈ γ.pv ∨ γ.s.heap.objs.size ≤ p.1) → (∀ q ∈ ig, s.gens[q.1]? = some q.2 ∧ asleep q.2 = true) → Tn ga.2 γ.og (gb.2 :: gs.map (·.1) ++ ig.map (·.1)) γ.s s → GAtU P w K mg base k' env' gb (gx N env γ.X γ.pv γ.H γ.s) ((ga.1, o) :: ip) l st pvp gs H1 s →
      ∀ kr : Result → Sem PySem.Fin, kr (.ok (.ret .none)) = kk .next → SgU P w γ.X.A.in1 (GoalU P w K mg base k env ga (l ++ rest) γ) (yfCode gb.1) (denote table (yfCode gb.1)) (.ret kr none (gd false) (lv []) c p [] :: fs) s := by
    intro l
    induction l with
    | nil =>
      intro γ s σg H1 o st pvp gs hγ isg I G rE hfl ips igs gone gat kr hkr
      have hrm : Room (k' + 2) (γ.X.A.in1.deeper env).in1 := Room.in1 ((hγ.inner).mono hkk)
      rw [den_yfY]
      unfold Builtin.«proto.yield_from»
      try dsimp only
      refine su_bind (wpAny_pure ?_)
      try dsimp only
      refine su_bind (wpAny_attempt (wpAny_holding ?_))
      rw [hov, if_neg Bool.false_ne_true, if_pos (show (Value.none == Value.none) = true from rfl)]
      refine wpAny_bind (wpAny_rule (wpAny_bind ?_))
      refine wpAny_mono (gturnU (X := Cx.atA (gx N env γ.X γ.pv γ.H γ.s) (γ.X.A.in1.deeper env).in1) hγ.of hrm (cnsOf hγ) (inv_atA I I.ok.frames hrm.hd) (gat_atA gat)) (fun r s2 ⟨x, xs', _, _, _, _, _, _, z, _⟩ => by cases z) fun x s2 h2 => ?_
      obtain ⟨_, ⟨a, oe, vs, rfl, hoa, hcls, hdat, h5⟩, H2, I2, sub, tn⟩ := h2
      replace I2 := inv_ofA I.ok I2
      try dsimp only
      refine su_bind (wpAny_endsTurn hoa hcls ?_)
      try dsimp only
      rw [if_pos rfl]
      first
        | refine su_bind (wpAny_rule ?_)
        | (rw [if_neg Bool.false_ne_true]; refine su_bind (wpAny_rule ?_))
        | (rw [if_neg Bool.false_ne_true]; refine su_bind (wpAny_pure ?_); refine su_bind (wpAny_rule ?_))
      refine su_bind (wpAny_field hoa hdat h5 ?_)
      show SgU P w _ _ _ (leafOf (.ok (.ret .none))) _ _
      refine su_leaf (.ok (.ret .none)) ?_
      rw [hkr]
      refine h o γ s2 hγ ⟨⟨σg, H2, I2, fun a o z => sub a o (G a o z), rE.tx hr.tt fun a u _ z => sub a u z, hfl.trans fun a u _ z => sub a u z⟩, isg, hr.tt, ips, fun q hq => ?_, gone.trans ((tn.with (ig.map (·.1))).le (Nat.le_of_lt hga2)), hr.mks⟩
      obtain ⟨z1, z2⟩ := igs q hq
      exact ⟨tn.gon.low _ _ (hig q hq) z1 z2, z2⟩
    | cons d l ih =>
      intro γ s σg H1 o st pvp gs hγ isg I G rE hfl ips igs gone gat kr hkr
      have hrm : Room (k' + 2) (γ.X.A.in1.deeper env).in1 := Room.in1 ((hγ.inner).mono hkk)
      rw [den_yfY]
      unfold Builtin.«proto.yield_from»
      try dsimp only
      refine su_bind (wpAny_pure ?_)
      try dsimp only
      refine su_bind (wpAny_attempt (wpAny_holding ?_))
      rw [hov, if_neg Bool.false_ne_true, if_pos (show (Value.none == Value.none) = true from rfl)]
      refine wpAny_bind (wpAny_rule (wpAny_bind ?_))
      refine wpAny_mono (gturnU (X := Cx.atA (gx N env γ.X γ.pv γ.H γ.s) (γ.X.A.in1.deeper env).in1) hγ.of hrm (cnsOf hγ) (inv_atA I I.ok.frames hrm.hd) (gat_atA gat)) (fun r s2 h2 => ?_) fun x s2 ⟨z, _⟩ => by cases z
      obtain ⟨x, xs', u, vv, H2, st2, pvp2, gs2, z, rfl, rv, I2, sub, tx, rd, as2, nf2, gat2, tn2⟩ := h2
      cases z
      replace I2 := inv_ofA I.ok I2
      replace gat2 := gat_ofA gat2
      obtain ⟨⟨ob, hob, isgb2⟩, fpb2⟩ := gat2.me
      have hob1 := isgb2.choose_spec.choose_spec.1
      refine wpAny_pure ?_
      try dsimp only
      refine su_bind (wpAny_typeOf (T := "generator") ⟨ob, hob, hob1⟩ ?_)
      try dsimp only
      first
        | (refine su_bind (wpAny_of_eq close_gen ?_); refine su_bind (wpAny_pure ?_))
        | refine su_bind (wpAny_bind (wpAny_of_eq close_gen (wpAny_pure ?_)))
        | refine su_bind (wpAny_of_eq close_gen ?_)
      try dsimp only
      refine su_bind (mark_on hob isgb2 fun h3 hat3 hk3 hn3 hs3 => ?_)
      have G2 : ∀ a o, gmark env.locals γ.pv γ.H γ.s.heap a = some o → H2 a = some o := fun a o z => sub a o (G a o z)
      have gone2 : Tn ga.2 γ.og (gb.2 :: gs2.map (·.1) ++ ig.map (·.1)) γ.s s2 := gone.trans ((tn2.with (ig.map (·.1))).le (Nat.le_of_lt hga2))
      have gone3 : Tn ga.2 γ.og (gb.2 :: gs2.map (·.1) ++ ig.map (·.1)) γ.s { s2 with heap := h3 } := ⟨⟨gone2.gon.gone.trans ⟨hs3, hn3⟩, gone2.gon.size, gone2.gon.low⟩, gone2.fr⟩
      obtain ⟨⟨H0, pl, t0, hp0, hf0, sl⟩, own2, obj2, gen2, _, mk2, mks2⟩ := gat2
      obtain rfl : pl = none := hf0.elim id fun ⟨c, z⟩ => absurd z (nf2 c)
      have I3 : Inv (gx N env γ.X γ.pv γ.H γ.s) ((ga.1, o) :: ip) σg H2 { s2 with heap := h3 } := I2.turnedL (t' := s2.toks) (ch := [gb.1]) (fun b o hb e => hk3 b o (fun z => hb (by rw [z]; exact List.mem_cons_self)) e) fun b hb => by
        rw [List.mem_singleton.mp hb]; exact fpb2
      have pin3 : ∀ p ∈ (gb.1, mark0 1 ob) :: pvp2, h3.get? p.1 = some p.2 ∧ (∀ v, p.2.data ≠ .cell v) ∧ FpOk (gx N env γ.X γ.pv γ.H γ.s) ((ga.1, o) :: ip) H2 p.1 := fun p hp => by
        rcases List.mem_cons.mp hp with rfl | hp
        · refine ⟨hat3, fun v z => ?_, fpb2⟩
          obtain ⟨nm, qn, _, hd, _⟩ := isgb2
          rw [show (mark0 1 ob).data = ob.data from rfl, hd] at z; cases z
        · obtain ⟨z1, z2, z3⟩ := obj2 p hp
          exact ⟨hk3 _ _ (sl.nown p hp) z1, z2, z3⟩
      have I3' : Inv (gx N env γ.X γ.pv γ.H γ.s) ((ga.1, o) :: (ip ++ (gb.1, mark0 1 ob) :: pvp2)) σg H2 { s2 with heap := h3 } := I3.pins_of fun p hp => by
        have hp : p ∈ (ga.1, o) :: ip ∨ p ∈ (gb.1, mark0 1 ob) :: pvp2 := by
          rcases List.mem_cons.mp hp with z | z
          · exact .inl (by rw [z]; exact List.mem_cons_self)
          · exact (List.mem_append.mp z).imp (fun z => List.mem_cons_of_mem _ z) id
        rcases hp with z | z
        · exact I3.pin p (List.mem_append_right _ z)
        · obtain ⟨z1, z2, z3⟩ := pin3 p z
          exact ⟨z1, z3.1, z3.2.1, z3.2.2.1, z2⟩
      refine su_yieldYf (o := mark0 1 ob) (n := gb.2) rfl hat3 (isG_gen isgb2 1) (hspl _) fun q => ?_
      rw [List.cons_append]
      have egs : ((gb.2, st2) :: gs2 ++ ig).map (·.1) = gb.2 :: gs2.map (·.1) ++ ig.map (·.1) := by simp
      have mks3 : MgsOk (ip ++ (gb.1, mark0 1 ob) :: pvp2) ((gb.2, st2) :: gs2 ++ ig) := MgsOk.app (fun q hq => by
        rcases List.mem_cons.mp hq with rfl | hq
        · exact mk2.mono fun y hy => List.mem_append_right _ (List.mem_cons_of_mem _ hy)
        · exact (mks2 q hq).mono fun y hy => List.mem_append_right _ (List.mem_cons_of_mem _ hy)) (hr.mks.mono fun y hy => List.mem_append_left _ hy)
      refine gsleepU (Ht := H2) (ip := ip ++ (gb.1, mark0 1 ob) :: pvp2) (ig := (gb.2, st2) :: gs2 ++ ig) (ρ := ρ') ge hγ ⟨fun p hp => ?_, fun q hq => ?_⟩ isg I3' G2 (rE.tx hr.tt fun a u _ z => sub a u z) (Tx.refl _) hr.tt (fun p hp => ?_) (fun q hq => ?_) (by rw [egs]; exact gone3) rv rd tx ?_ mks3 (.inr ⟨_, _, _, _, _, gb.1, mark0 1 ob, gb.2, susp_eq ?_, rfl, List.mem_append_right _ List.mem_cons_self, isG_gen isgb2 1⟩) fun o7 γ' s7 hγ' hr7 => ?_
      · rcases List.mem_append.mp hp with hp | hp
        · exact hga.1 p hp
        · obtain ⟨_, _, z3⟩ := pin3 p hp
          exact fun z => z3.2.2.2.2.2 (ga.1, o) (List.mem_append_right _ List.mem_cons_self) z.symm
      · rcases List.mem_append.mp hq with hq | hq
        · rcases List.mem_cons.mp hq with rfl | hq
          · exact hga2
          · exact Nat.lt_trans hga2 (sl.ne q hq)
        · exact hga.2 q hq
      · rcases List.mem_append.mp hp with hp | hp
        · exact ips p hp
        · obtain ⟨z1, _, z3⟩ := pin3 p hp
          exact own hγ G2 gone3.gon p.1 z3 ⟨_, z1⟩
      · rcases List.mem_append.mp hq with hq | hq
        · rcases List.mem_cons.mp hq with rfl | hq
          · exact ⟨own2, as2⟩
          · exact gen2 q hq
        · obtain ⟨z1, z2⟩ := igs q hq
          exact ⟨tn2.gon.low _ _ (hig q hq) z1 z2, z2⟩
      · show (!(false || ((Frame.ret kr none (gd false) (lv []) c p [] :: fs).map unF).any Frame.guarded)) = true
        rw [any_guard, hgrd]; rfl
      · show ((Frame.ret kr none (gd false) (lv []) c p [] :: fs).map unF).any Frame.guarded = false
        rw [any_guard, hgrd]
      -- woken again
      obtain ⟨σ7, H7, I7, G7, rE7, hfl7⟩ := hr7.ex
      have pin7 : ∀ p ∈ (gb.1, mark0 1 ob) :: pvp2, s7.heap.get? p.1 = some p.2 ∧ H7 p.1 = none ∧ p.1 ≠ env.locals ∧ p.1 ∉ frs γ'.X.stack := fun p hp => by
        obtain ⟨z1, z2, z3, z4, _⟩ := I7.pin p (List.mem_append_right _ (List.mem_cons_of_mem _ (List.mem_append_right _ hp)))
        exact ⟨z1, z2, z3, z4⟩
      have fp7 : ∀ p ∈ (gb.1, mark0 1 ob) :: pvp2, FpOk (gx N env γ'.X γ'.pv γ'.H γ'.s) ((ga.1, o7) :: ip) H7 p.1 := fun p hp => by
        obtain ⟨_, z2, z3, z4⟩ := pin7 p hp
        obtain ⟨_, _, o3⟩ := pin3 p hp
        refine ⟨z2, z3, z4, .inr ?_, fun x d e => o3.2.2.2.2.1 x d e, fun q hq => ?_⟩
        · show (hcut γ'.s.heap env.locals).objs.size ≤ p.1
          rw [hsz hγ']
          rcases o3.2.2.2.1 with z | z
          · cases z
          · have z' : (hcut γ.s.heap env.locals).objs.size ≤ p.1 := z
            rw [hsz hγ] at z'; exact z'
        · rcases List.mem_append.mp hq with z | z
          · cases z
          · rcases List.mem_cons.mp z with rfl | z
            · exact o3.2.2.2.2.2 (ga.1, o) (List.mem_append_right _ List.mem_cons_self)
            · exact o3.2.2.2.2.2 q (List.mem_append_right _ (List.mem_cons_of_mem _ z))
      have hob7 := (pin7 _ List.mem_cons_self).1
      show SgU P w _ _ (yfCode gb.1) (Builtin.Generator.sleptOver (.ref gb.1) false >>= fun _ => _) _ s7
      refine su_bind (mark_off hob7 isgb2 fun h8 hat8 hk8 hn8 hs8 => ?_)
      try dsimp only
      refine su_bind (wpAny_pure ?_)
      refine su_again (plainId_quiet plain_yf _) ?_
      have I7' : Inv (gx N env γ'.X γ'.pv γ'.H γ'.s) (((ga.1, o7) :: ip) ++ (gb.1, mark0 1 ob) :: pvp2) σ7 H7 s7 := I7
      have I8 : Inv (gx N env γ'.X γ'.pv γ'.H γ'.s) ((ga.1, o7) :: ip) σ7 H7 { s7 with heap := h8 } := I7'.unpinned.turnedL (t' := s7.toks) (ch := [gb.1]) (fun b o hb e => hk8 b o (fun z => hb (by rw [z]; exact List.mem_cons_self)) e) fun b hb => by
        rw [List.mem_singleton.mp hb]; exact fp7 _ List.mem_cons_self
      have g7 := hr7.gone
      rw [egs] at g7
      refine ih γ' { s7 with heap := h8 } σ7 H7 o7 st2 pvp2 gs2 hγ' hr7.isg I8 G7 rE7 ((hfl.trans fun a u _ z => sub a u z).trans hfl7) (fun p hp => hr7.ips p (List.mem_append_left _ hp)) (fun q hq => hr7.igs q (List.mem_append_right _ hq)) ⟨⟨g7.gon.gone.trans ⟨hs8, hn8⟩, g7.gon.size, g7.gon.low⟩, g7.fr⟩ ?_ kr hkr
      refine ⟨⟨H0, none, t0.trans hfl7, (fun _ _ z => by cases z), .inl rfl, sl⟩, (hr7.igs (gb.2, st2) (List.mem_append_left _ List.mem_cons_self)).1, fun p hp => ?_, fun q hq => hr7.igs q (List.mem_append_left _ (List.mem_cons_of_mem _ hq)), ⟨⟨_, hat8, isG_off isgb2 1⟩, fp7 _ List.mem_cons_self⟩, mk2, mks2⟩
      exact ⟨hk8 _ _ (sl.nown p hp) (pin7 p (List.mem_cons_of_mem _ hp)).1, (obj2 p hp).2.1, fp7 p (List.mem_cons_of_mem _ hp)⟩
  have tn1 : Tn ga.2 γ.og (gb.2 :: ([] : List (Nat × GenState)).map (·.1) ++ ig.map (·.1)) γ.s s1 := by
    have z := hr.gone.trans kp1.tn
    refine ⟨z.gon, fun i x e => ?_⟩
    rcases z.fr i x e with q | q | q
    · exact .inl q
    · exact .inr (.inl (List.mem_append_right _ q))
    · exact .inr (.inr q)
  exact loop ys γ s1 σg H1 o _ pvp [] hγ hr.isg I1 (fun a o z => sub1 a o (G a o z)) (rE.tx hr.tt fun a u _ z => sub1 a u z) (hfl.trans fun a u _ z => sub1 a u z) hr.ips igs1 tn1 gat _ rfl
end
end DL
namespace DL
open PySem L2 GenW
open PyProof.Rows hiding St
open Sem (wp)
/-- what a turn does to the generators alone -/
structure Tz (n : Nat) (ig : List Nat) (s s' : Shared) : Prop where
  low : ∀ (i : Nat) x, i < n → s.gens[i]? = some x → asleep x = true → s'.gens[i]? = some x
  size : s.gens.size ≤ s'.gens.size
  fr : ∀ (i : Nat) x, s'.gens[i]? = some x → plainS x = true ∨ i ∈ ig ∨ s.gens[i]? = some x
theorem Tz.refl {n : Nat} {ig : List Nat} {s s' : Shared} (e : s'.gens = s.gens) : Tz n ig s s' := ⟨fun i x _ h _ => by rw [e]; exact h, by rw [e]; exact Nat.le_refl _, fun i x h => .inr (.inr (by rw [← e]; exact h))⟩
theorem Tz.step {n : Nat} {a b : List Nat} {s s1 s2 s3 : Shared} (h : Tz n a s s1) (e : s2.gens = s1.gens) (k : Tn n a b s2 s3) : Tz n b s s3 := ⟨fun i x l z q => k.gon.low i x l (by rw [e]; exact h.low i x l z q) q, Nat.le_trans h.size (by rw [← e]; exact k.gon.size), fun i x z => by
  rcases k.fr i x z with q | q | ⟨q1, q2⟩
  · exact .inl q
  · exact .inr (.inl q)
  · rw [e] at q1
    rcases h.fr i x q1 with q | q | q
    · exact .inl q
    · exact absurd q q2
    · exact .inr (.inr q)⟩
theorem Tz.same {n : Nat} {a : List Nat} {s s1 s2 : Shared} (h : Tz n a s s1) (e : s2.gens = s1.gens) : Tz n a s s2 := ⟨fun i x l z q => by rw [e]; exact h.low i x l z q, by rw [e]; exact h.size, fun i x z => h.fr i x (by rw [← e]; exact z)⟩
theorem keptU_of {n : Nat} {s0 s s' : Shared} (kp : KeptU s0 s) (hn : s0.gens.size ≤ n) (g : Gone s s') (t : Tz n [] s s') : KeptU s0 s' := by
  refine ⟨⟨fun i x e z => t.low i x (Nat.lt_of_lt_of_le (Array.getElem?_eq_some_iff.mp e).1 hn) (kp.kept.gen i x e z) z, kp.kept.gone.trans g, Nat.le_trans kp.kept.size t.size⟩, fun i x e hi => ?_⟩
  rcases t.fr i x e with q | q | q
  · exact q
  · simp at q
  · exact kp.fresh i x q hi
section
variable {X : Cx} {k : Nat} {env : Env} {ga : GA}
theorem listU_loop {pins : List (Addr × Obj)} {σ : L2.St} {H0 : Hp} {A1 : Around} {q : Addr} {rv : Value} {s0 : Shared} {Rs : Result → Shared → Prop} (hr : Room (k + 2) A1.in1) (hf : A1.in1.frames = some X.stack) (cns : Cons env.locals X) (ok : X.Ok) (hq0 : H0 q = none) :
    ∀ (xs : List D) (acc : List V) (ds : List D) (H1 : Hp) (s1 : Shared) (st : GenState) (pvp : List (Addr × Obj)) (gs : List (Nat × GenState)), Inv X pins σ H1 s1 → GAtU X.prog X.w X.K X.mg X.base k env ga X pins xs st pvp gs H1 s1 → H1 q = some (.lst acc) → RepL X.K [] H1 ds acc → ttL ds = true →
      (∀ a o, H0 a = some o → H1 a = some o) → acc.length + xs.length ≤ sizeLine → Tz ga.2 (ga.2 :: gs.map (·.1)) s0 s1 →
      (∀ H' s' acc', Inv X pins σ H' s' → H' q = some (.lst acc') → RepL X.K [] H' (ds ++ xs) acc' → (∀ a o, H0 a = some o → H' a = some o) → Tz ga.2 [] s0 s' → Rs (.ok (.ret rv)) s') →
      codeAny (mY X.prog X.w) A1 (.builtin "list.extend.loop" ⟨[.ref q, .ref ga.1, rv], []⟩) Rs s1 := by
  intro xs
  induction xs with
  | nil =>
    intro acc ds H1 s1 st pvp gs I gat hq rl tds sub hl tz hdone
    refine builtinY PySem.F.entry_extend_loop ?_
    rw [Around.under_plainId PySem.F.plain_extend_loop _]
    show wpAny _ A1.in1 (pyNext (.ref ga.1) >>= _) _ _ s1
    refine wpAny_bind (wpAny_mono (gnextU (X := Cx.atA X A1.in1) ⟨rfl, rfl, rfl, rfl, rfl⟩ hr ⟨cns.calm, cns.fr, cns.bsz⟩ (inv_atA I hf hr.hd) (gat_atA gat)) (fun r s' h => ?_) fun _ _ z => z.elim)
    rcases h with ⟨_, rfl, H2, I2, sb, tn⟩ | ⟨x, xs', _, _, _, _, _, _, e, _⟩
    · exact wpAny_pure (hdone H2 s' acc (inv_ofA ok I2) (sb _ _ hq) (by rw [List.append_nil]; exact tt_moveL (ι := []) (ι' := []) (fun a xs _ z => ⟨by simp, sb a _ z⟩) (fun a o u z => sb a _ z) ds acc tds rl) (fun a o z => sb a o (sub a o z)) (tz.step rfl tn))
    · cases e
  | cons x xs ih =>
    intro acc ds H1 s1 st pvp gs I gat hq rl tds sub hl tz hdone
    refine builtinY PySem.F.entry_extend_loop ?_
    rw [Around.under_plainId PySem.F.plain_extend_loop _]
    show wpAny _ A1.in1 (pyNext (.ref ga.1) >>= _) _ _ s1
    refine wpAny_bind (wpAny_mono (gnextU (X := Cx.atA X A1.in1) ⟨rfl, rfl, rfl, rfl, rfl⟩ hr ⟨cns.calm, cns.fr, cns.bsz⟩ (inv_atA I hf hr.hd) (gat_atA gat)) (fun r s' h => ?_) fun _ _ z => z.elim)
    rcases h with ⟨e, _⟩ | ⟨x', xs', u, vv, H2, st2, pvp2, gs2, e, rfl, rv2, I2, sb, tx, rd, as2, nf2, gat2, tn⟩
    · cases e
    · cases e
      replace I2 := inv_ofA ok I2
      replace gat2 := gat_ofA gat2
      have hq2 := sb _ _ hq
      show wpAny _ A1.in1 (updateSeq q (·.push u) >>= _) _ _ _
      obtain ⟨z, its, kk, r2, hl2, e⟩ := I2.lstM hq2
      have hlx : acc.length + (xs.length + 1) ≤ sizeLine := hl
      refine wpAny_bind (wpAny_updateSeq e rfl (wpAny_pure ⟨plainId_quiet PySem.F.plain_extend_loop _, ?_⟩) (by rw [List.size_toArray]; omega) (by show (its.toArray.push u).size ≤ sizeLine + 1; rw [Array.size_push, List.size_toArray]; omega))
      have tx2 : Tx H2 (upd H2 q (.lst (acc ++ [vv]))) := fun a u f z => by
        rw [upd_ne (fun e => by subst e; rw [hq2] at z; cases z; rcases f with ⟨_, f⟩ | ⟨_, _, f⟩ <;> cases f)]; exact z
      have I3 := I2.lset (its' := its ++ [u]) (f := (·.push u)) (t' := s'.toks) hq2 e (by simp) (r2.append (.cons rv2 .nil)) (by rw [List.length_append, List.length_singleton]; omega)
      refine ih (acc ++ [vv]) (ds ++ [x]) _ _ st2 pvp2 gs2 I3 ?_ upd_same ?_ ?_ (fun a o z => ?_) (by rw [List.length_append, List.length_singleton]; omega) ((tz.step rfl tn).same rfl) (fun H' s'' acc' h1 h2 h3 h4 h5 => hdone H' s'' acc' h1 h2 (by rw [List.append_assoc] at h3; exact h3) h4 h5)
      · obtain ⟨⟨Hz, pl, t0, hp, hff, sl⟩, own, obj, gen, ⟨⟨og, hog, isg⟩, fpo⟩, mkz⟩ := gat2
        obtain rfl : pl = none := hff.elim id fun ⟨c, z⟩ => absurd z (nf2 c)
        have hne : ∀ b, FpOk X pins H2 b → b ≠ q := fun b z e => by have := z.1; rw [e, hq2] at this; cases this
        refine ⟨⟨Hz, none, t0.trans tx2, (fun _ _ z => by cases z), .inl rfl, sl⟩, own, fun p hp => ?_, gen, ⟨⟨og, (Heap.get?_update_other _ _ (Ne.symm (hne _ fpo))).trans hog, isg⟩, (by rw [upd_ne (hne _ fpo)]; exact fpo.1), fpo.2⟩, mkz⟩
        obtain ⟨o1, o2, o3⟩ := obj p hp
        exact ⟨(Heap.get?_update_other _ _ (Ne.symm (hne _ o3))).trans o1, o2, by rw [upd_ne (hne _ o3)]; exact o3.1, o3.2⟩
      · exact RepL.app _ _ (tt_moveL (ι := []) (ι' := []) (fun a xs _ z => ⟨by simp, tx2.tup (sb a _ z)⟩) (fun a o u z => tx2.frz (sb a _ z)) ds acc tds rl) _ _ (RepL.one (tt_grow tx tx2 rd))
      · have : ∀ l : List D, ttL l = true → ttL (l ++ [x]) = true := fun l => by
          induction l with
          | nil => intro _; simp [ttL, tx]
          | cons y l ih => intro h; rw [ttL, Bool.and_eq_true] at h; rw [List.cons_append, ttL, h.1, ih h.2]; rfl
        exact this ds tds
      · rw [upd_ne (ne_of_none z hq0)]
        exact sb a o (sub a o z)
/-- the list is extended by all that comes -/
theorem extendU {pins : List (Addr × Obj)} {σ : L2.St} {H : Hp} {s s0 : Shared} {xs : List D} {A1 : Around} {rv : Value} {pvp : List (Addr × Obj)} {c : Code} {Rs : Result → Shared → Prop} (hr : Room (k + 2) A1.in1) (hf : A1.in1.frames = some X.stack) (I : Inv X pins σ H s0) (cns : Cons env.locals X) (gat : GAtU X.prog X.w X.K X.mg X.base k env ga X pins xs (.fresh c) pvp [] H s0) (hl : xs.length ≤ sizeLine)
    {h0 : Heap} (hs : s = { s0 with heap := h0 }) (hS : h0.get? s0.heap.objs.size = some { cls := .type "list", data := .seq #[] }) (k1 : ∀ b o, s0.heap.get? b = some o → h0.get? b = some o)
    (hdone : ∀ H' s' acc', Inv X pins σ H' s' → H' s0.heap.objs.size = some (.lst acc') → RepL X.K [] H' xs acc' → (∀ a o, H a = some o → H' a = some o) → Tz ga.2 [] s0 s' → Rs (.ok (.ret rv)) s') (E : Value → Shared → Prop) :
    wpAny (mY X.prog X.w) A1.in1 (Builtin.List.listExtendWith (.ref s0.heap.objs.size) (.ref ga.1) rv) (finP X.prog X.w A1 Rs) E s := by
  obtain ⟨⟨og, hog, isg⟩, fpo⟩ := gat.me
  have hlt := Heap.lt_size hog
  have hSa : s0.heap.objs.size ≠ ga.1 := Nat.ne_of_gt hlt
  subst hs
  have up : ∀ (h : Heap) (f : Obj → Obj), (∀ b o, s0.heap.get? b = some o → h.get? b = some o) → ∀ b o, s0.heap.get? b = some o → (h.update s0.heap.objs.size f).get? b = some o := fun h f q b o e =>
    (Heap.get?_update_other _ _ (Ne.symm (Nat.ne_of_lt (Heap.lt_size e)))).trans (q b o e)
  have hTy : ({ s0 with heap := h0 } : Shared).TypeIs (.ref ga.1) "generator" := ⟨og, k1 _ _ hog, isg.choose_spec.choose_spec.1⟩
  unfold Builtin.List.listExtendWith
  refine wpAny_bind (wpAny_typeOf hTy ?_)
  have h1 : Builtin.List.listSameRef (.ref s0.heap.objs.size) (.ref ga.1) = false := by simp [Builtin.List.listSameRef, hSa]
  have h2 : (Value.type "generator" == Value.type "list") = false := by decide
  have h3 : (Value.type "generator" == Value.type "tuple") = false := by decide
  simp only [h1, h2, h3, Bool.or_false, Bool.false_eq_true, if_false]
  refine wpAny_bind (iterG (s := { s0 with heap := _ }) (k1 _ _ hog) isg ?_)
  refine wpAny_bind (wpAny_holding ?_)
  unfold Builtin.List.listLengthHint
  refine wpAny_bind (wpAny_specialOf hTy F.gen_no_len ?_)
  show wpAny _ A1.in1 (specialOf (Value.ref ga.1) (Str.ofString "__length_hint__") >>= _) _ _ _
  refine wpAny_bind (wpAny_specialOf hTy F.gen_no_hint ?_)
  refine wpAny_pure ?_
  show wpAny _ A1.in1 (rule "list.extend.makes-room" >>= fun _ => Builtin.List.listTouch (.ref s0.heap.objs.size) >>= fun _ =>
    again (.builtin "list.extend.loop" ⟨[.ref s0.heap.objs.size, .ref ga.1, rv], []⟩)) _ _ _
  refine wpAny_bind (wpAny_rule ?_)
  refine wpAny_bind ?_
  show wpAny _ A1.in1 (updateSeq s0.heap.objs.size (·.push .none) >>= fun _ => updateSeq s0.heap.objs.size (·.pop)) _ _ _
  refine wpAny_bind (wpAny_updateSeq hS rfl ?_)
  have hS3 := Heap.get?_update_self (Obj.mapSeq (·.push Value.none)) hS rfl
  refine wpAny_updateSeq (hz := by seq_fits) hS3 rfl ?_
  have hS4 := Heap.get?_update_self (Obj.mapSeq (·.pop)) hS3 rfl
  have k4 := up _ (Obj.mapSeq (·.pop)) (up _ (Obj.mapSeq (·.push Value.none)) k1)
  refine wpAny_pure ⟨plainId_quiet F.plain_extend_loop _, ?_⟩
  have hn : H s0.heap.objs.size = none := I.hok.fresh (Nat.le_refl _)
  have I4 := I.laid (t' := s0.toks) (o := .lst []) k4 (Nat.le_refl _) ⟨Nat.zero_le _, [], _, .nil, hS4⟩
  have pv4 : ∀ p ∈ pvp, p.1 ≠ s0.heap.objs.size := fun p hp => Nat.ne_of_lt (Heap.lt_size (gat.obj p hp).1)
  refine listU_loop (H0 := H) (A1 := A1) (q := s0.heap.objs.size) (k := k) (s0 := s0) hr hf cns I.ok hn xs [] [] _ _ (.fresh c) pvp [] I4 ?_ upd_same RepL.nil rfl (fun a o z => by rw [upd_ne (ne_of_none z hn)]; exact z) (by simpa using hl) (Tz.refl rfl) fun H' s' acc' h1 h2 h3 h4 h5 => hdone H' s' acc' h1 h2 h3 h4 h5
  obtain ⟨⟨Hz, pl, t0, hp, hff, sl⟩, own, obj, gen, _, mkz⟩ := gat
  have tx2 : Tx H (upd H s0.heap.objs.size (.lst [])) := fun a u _ z => by rw [upd_ne (ne_of_none z hn)]; exact z
  refine ⟨⟨Hz, pl, t0.trans tx2, (fun a u z => by rw [upd_ne (ne_of_none (hp a u z) hn)]; exact hp a u z), hff, sl⟩, own, fun p hp => ?_, (fun q hq => by simp at hq), ⟨⟨og, k4 _ _ hog, isg⟩, (by rw [upd_ne (Ne.symm hSa)]; exact fpo.1), fpo.2⟩, mkz⟩
  obtain ⟨o1, o2, o3⟩ := obj p hp
  exact ⟨k4 _ _ o1, o2, by rw [upd_ne (pv4 p hp)]; exact o3.1, o3.2⟩
end
end DL
namespace DL
open PySem L2 GenW
open PyProof.Rows hiding St
open Sem (wp)
theorem SLu.same {s b s' : Shared} (l : SLu s.gens b s') (e : b.gens = (still s).gens) : s'.gens = s.gens := by
  have hs : s'.gens.size = s.gens.size := by rw [l.size, e]; simp [still]
  refine Array.ext hs fun i h1 h2 => ?_
  have key : s'.gens[i]? = s.gens[i]? := by
    rcases l.or i with ⟨x, hx, ha⟩ | hn
    · rw [(l.old i x hx ha).2, hx]
    · rw [(l.new i hn).1, e]
      show ((s.gens.map deaf)[i]?).map unG = s.gens[i]?
      rw [Array.getElem?_map]
      cases q : s.gens[i]? with
      | none => rfl
      | some x =>
        have ha := hn x q
        show some (unG (deaf x)) = some x
        rw [deaf_awake ha]
        cases x <;> first | rfl | cases ha
  rw [Array.getElem?_eq_getElem h1, Array.getElem?_eq_getElem h2] at key
  exact Option.some.inj key
/-- a run that does not touch the generators, exactly -/
theorem codeU0 {P : Program} {w : World} {A : Around} {c : Code} {R R' : Result → Shared → Prop} {s : Shared} (hR : ∀ r b, R r b → b.gens = (still s).gens ∧ R' r { b with gens := s.gens }) (h : codeAny (model P w) A c R (still s)) : codeAny (mY P w) A c R' s := by
  intro Γ p hc hΓ
  obtain ⟨r, b, hr, q⟩ := h Γ p hc hΓ
  obtain ⟨s', r', l, _⟩ := runs_un hr rfl s.gens s rfl (still_lu s)
  obtain ⟨q1, q2⟩ := hR r b q
  refine ⟨r, s', r', ?_⟩
  rw [l.eq, l.same q1]
  exact q2
section
variable {P : Program} {w : World} {A : Around} {s : Shared} {E : Value → Shared → Prop}
theorem listNewU (a : Value) {Q₁ : Value → Shared → Prop} (h : Q₁ (.ref s.heap.objs.size) { s with heap := s.heap.push { cls := .type "list", data := .seq #[] } }) : codeAny (mY P w) A (.call (.builtin "list.__new__") ⟨[.type "list", a], []⟩) (wants Q₁ E) s := by
  refine codeU0 (fun r b hb => ?_) (code_list_new (s := still s) (E := fun _ _ => False) (Q₁ := fun v b => v = .ref s.heap.objs.size ∧ b = { still s with heap := s.heap.push { cls := .type "list", data := .seq #[] } }) a ⟨rfl, rfl⟩)
  cases r with
  | error e => exact hb.elim
  | ok f =>
    cases f with
    | ret v =>
      obtain ⟨rfl, rfl⟩ := hb
      exact ⟨rfl, h⟩
    | _ => exact hb.elim
end
section
variable {X : Cx} {k : Nat}
theorem call_listU {pins : List (Addr × Obj)} {σ : L2.St} {H : Hp} {s s0 : Shared} {xs : List D} {u : Value} {Q' : Value → Shared → Prop} {E : Value → Shared → Prop} (hr : Room (k + 6) X.A) (G : GMkU X.prog X.w X.K X.mg X.base k X pins σ H xs s0 u s) (hl : xs.length ≤ sizeLine)
    (hQ : ∀ q H' s' acc, Inv X pins σ H' s' → H q = none → H' q = some (.lst acc) → RepL X.K [] H' xs acc → (∀ a o, H a = some o → H' a = some o) → KeptU s0 s' → Q' (.ref q) s') : wpAny (mY X.prog X.w) X.A (call (.type "list") [u]) Q' E s := by
  obtain ⟨env, ga, c, pvp, rfl, I, cns, gat, hnum, kp⟩ := G
  refine wpAny_mono (wpAny_gone (Q := fun v s' => Gone s s' → Q' v s') (E := E) ?_) (fun _ _ z => z.2 z.1) fun _ _ z => z.2
  refine callTypeY (Q₁ := fun obj s₁ => obj = .ref s.heap.objs.size ∧ s₁ = { s with heap := s.heap.push { cls := .type "list", data := .seq #[] } }) F.called_list (F.typeCall_list_1 _) F.entry_list_init (listNewU _ ⟨rfl, rfl⟩) fun obj s₁ h₁ => ?_
  obtain ⟨rfl, rfl⟩ := h₁
  have hS : (s.heap.push { cls := .type "list", data := .seq #[] }).get? s.heap.objs.size = some { cls := .type "list", data := .seq #[] } := Heap.get?_push_size _ rfl
  refine ⟨⟨_, hS, rfl⟩, F.args_list_init_2 _ _, ?_⟩
  show wpAny _ X.A.in1.in1 (do let old ← Builtin.List.listItems (.ref s.heap.objs.size); Builtin.List.listUpdate (.ref s.heap.objs.size) (fun _ => #[]); letGo old.toList.reverse; Builtin.List.listExtendWith (.ref s.heap.objs.size) (.ref ga.1) .none) _ _ _
  refine wpAny_bind ?_
  unfold Builtin.List.listItems
  refine wpAny_bind (wpAny_seqItems hS rfl (wpAny_pure ?_))
  show wpAny _ X.A.in1.in1 (updateSeq s.heap.objs.size (fun _ => #[]) >>= fun _ => letGo (#[] : Array Value).toList.reverse >>= fun _ => Builtin.List.listExtendWith (.ref s.heap.objs.size) (.ref ga.1) .none) _ _ _
  refine wpAny_bind (wpAny_updateSeq hS rfl ?_)
  refine wpAny_bind (wpAny_letGo ?_)
  have hS2 := Heap.get?_update_self (Obj.mapSeq (fun _ => (#[] : Array Value))) hS rfl
  refine extendU (A1 := X.A.in1) (hr.in1.in1.mono (by omega)) I.ok.frames I cns gat hl rfl hS2 (fun b o e => (Heap.get?_update_other _ _ (Ne.symm (Nat.ne_of_lt (Heap.lt_size e)))).trans (Heap.get?_push_of_some _ e)) (fun H' s' acc h1 h2 h3 h4 h5 => ?_) _
  exact ⟨rfl, fun g => hQ _ H' s' acc h1 (I.hok.fresh (Nat.le_refl _)) h2 h3 h4 (keptU_of kp hnum g h5)⟩
end
end DL
namespace DL
open PySem L2 GenW
open PyProof.Rows hiding St
open Sem (wp)
section
variable {X : Cx} {pos : Pos} {tg : Expr}
theorem ys_forE {iter : Expr} {body orelse : List Stmt} {wi : TI} {g : TG} {tb u : TS} (hx : NoX X) (hc : X.calm = true) (hi : PI X tg iter wi) (hg : PG X tg g) (hb : YSs X body tb) (ho : YSs X orelse u)
    (hs : ∀ x, foldedSetIterable iter X.env x = pure x := by intro _; rfl) : YS X (.For tg iter body orelse pos) (tForE wi g tb u) := by
  refine ⟨fun pins s σ H D I h => ?_⟩
  have cx := hx.calm
  have head := wpAny_un2 (fun _ => True) (Q := fun _ => PIE X pins σ tg _) (fun _ => calmU_pie) cx (thn (hi.run pins (still s) σ H _ (inv_still I) h) fun _ _ z => ⟨trivial, z⟩)
  refine wpAny_For (noX_mono (F := X.xe) (Z := fun _ => KeptU s) (wpAny_mono head (fun v s1 ⟨_, h1⟩ => ?_) fun _ _ z => z) hx) hs
  refine wpAny_mono h1 (fun itv s2 ⟨h2, kp2⟩ => ?_) fun e s' z => (hx _ _ z.1).elim
  obtain ⟨it, fp, tn, J, H2, e, I2, T, st2, f2, W, ⟨m0, w0⟩, turn⟩ := h2
  subst e
  have stat : ∀ {H' : Hp}, (∀ b ∈ fp, H' b = none) → ∀ b ∈ fp, FpOk X pins H' b := fun hn b hb => ⟨hn b hb, (f2 b hb).2⟩
  refine codeAny_mono (forLoopY (R := fun r s' => match r with
    | .ok f => SP X pins D f s' ∧ KeptU s s'
    | .error _ => False) (fun n s' => KeptU s s' ∧ ∃ i σ' H', Inv X pins σ' H' s' ∧ tn i s'.heap ∧ (∀ b ∈ fp, H' b = none) ∧ W i n σ' H') ?_ m0 ⟨kp2, 0, σ, H2, I2, st2, fun b hb => (f2 b hb).1, w0⟩) (fun r s' h => by cases r with | ok f => exact h | error e => exact h.elim)
  rintro n s3 ⟨kp3, i, σ3, H3, I3, st3, fr3, w3⟩
  rcases turn i n σ3 H3 w3 with ⟨stop, qn⟩ | ⟨go, N, hN, step⟩
  · have key := wpAny_un (Q := fun r s1 => r = none ∧ Inv X pins σ3 H3 s1) ⟨fun G b s a l ⟨z1, z2⟩ => ⟨z1, inv_lu z2 l⟩, fun a b ⟨_, z⟩ => z.bare⟩ calmU_no (T.done X rfl rfl rfl hc i pins (still s3) σ3 H3 (fun _ _ => False) (inv_still I3) (stat fr3) st3 stop)
    refine wpAny_mono key (fun r s4 ⟨⟨hr, I4⟩, kp4⟩ => ?_) fun _ _ z => z.1
    subst hr
    exact thnU (kp3.trans kp4) (ho.run pins s4 σ3 H3 D I4 qn) fun f s5 q5 k5 => ⟨q5, k5⟩
  · have key := wpAny_un2 (fun r => ∃ u, r = some u) (u := fun r => match r with | some v => letOwnedTupleGo tg (.ref it) v | none => (.unsupported "" : Sem Unit))
      (Q := fun r _ s2 => ∃ u, r = some u ∧ ∃ x H'', Inv X pins σ3 H'' s2 ∧ RelV x u ∧ J.yld i H3 x H'' ∧ tn (i + 1) s2.heap ∧ ∀ b ∈ fp, H'' b = none)
      (fun r => ⟨fun G b s a l ⟨u, z0, x, H'', z1, z2, z3, z4, z5⟩ => ⟨u, z0, x, H'', inv_lu z1 l, z2, z3, by rw [l.heap]; exact z4, z5⟩, fun a b ⟨u, z0, x, H'', z1, _⟩ => z1.bare⟩) calmU_no
      (wpAny_mono (T.item X rfl rfl rfl hc i pins (still s3) σ3 H3 (fun _ _ => False) (inv_still I3) (stat fr3) st3 go) (fun r s1 ⟨u, hr, hu⟩ => by
        subst hr
        exact ⟨⟨u, rfl⟩, wpAny_mono hu (fun _ s2 z => ⟨u, rfl, z⟩) fun _ _ z => z⟩) fun _ _ z => z)
    refine wpAny_mono key (fun r s4 ⟨⟨u, hr⟩, h4⟩ => ?_) fun _ _ z => z.1
    subst hr
    refine wpAny_mono h4 (fun _ s5 ⟨⟨u', hu', x, H5, I5, r5, y5, st5, fr5⟩, kp5⟩ => ?_) fun _ _ z => z.1.elim
    cases hu'
    have I5' := I5.pinned (stat fr5) (T.obj _ _ st5)
    refine noX_mono (F := X.xe) (Z := fun _ => KeptU s5) (wpAny_mono (pg_y cx hg I5' r5 (step x H5 y5)) (fun _ s6 ⟨⟨σ6, H6, I6, q6⟩, kp6⟩ => ?_) fun _ _ z => z) hx
    refine thnU ((kp3.trans kp5).trans kp6) (hb.run _ s6 σ6 H6 _ I6 q6) fun f s7 q7 kp7 => ?_
    have again : ∀ {σ7 : L2.St} {H7 : Hp}, Inv X (pins ++ pinsAt fp s5.heap) σ7 H7 s7 → N σ7 H7 → ∃ m, m < n ∧ KeptU s s7 ∧ ∃ i σ' H', Inv X pins σ' H' s7 ∧ tn i s7.heap ∧ (∀ b ∈ fp, H' b = none) ∧ W i m σ' H' := fun {σ7 H7} I7 n7 => by
      obtain ⟨m', hm, w7⟩ := hN σ7 H7 n7
      refine ⟨m', hm, kp7, i + 1, σ7, H7, I7.unpinned, T.keep _ _ _ st5 fun b hb o e => (I7.pin (b, o) (List.mem_append_right _ (List.mem_append_right _ (mem_pinsAt hb e)))).1, fun b hb => ?_, w7⟩
      obtain ⟨o, e, d⟩ := T.obj _ _ st5 b hb
      exact (I7.pin (b, o) (List.mem_append_right _ (List.mem_append_right _ (mem_pinsAt hb e)))).2.1
    cases f with
    | next => obtain ⟨σ7, H7, I7, n7⟩ := q7; exact again I7 n7
    | cont => obtain ⟨σ7, H7, I7, n7⟩ := q7; exact again I7 n7
    | brk => obtain ⟨σ7, H7, I7, q7⟩ := q7; exact ⟨⟨σ7, H7, I7.unpinned, q7⟩, kp7⟩
    | ret v => obtain ⟨x7, σ7, H7, I7, r7, q7⟩ := q7; exact ⟨⟨x7, σ7, H7, I7.unpinned, r7, q7⟩, kp7⟩
theorem yds_for {iter : Expr} {body orelse : List Stmt} {f : Ev → Sto → R Src} {T : Tg} {B Z : Ev → Sto → SR} (hx : NoX X) (hc : X.calm = true) (hi : DI X W0 tg iter f) (hg : DG X tg T) (hb : YDSs X body B) (ho : YDSs X orelse Z)
    (hs : ∀ x, foldedSetIterable iter X.env x = pure x := by intro _; rfl) : YDS X (.For tg iter body orelse pos) (sFor f T B Z) := YS.imp (ys_forE hx hc hi hg hb ho hs) for_read
end
end DL
namespace DL
open PySem L2 GenW
open PyProof.Rows hiding St
open Sem (wp)
abbrev noK : XK := fun _ _ _ => False
/-- how a call ends -/
def RY (P : Program) (w : World) (outer : List Env) (H : Hp) (s : Shared) (Q : VK) : Result → Shared → Prop := fun r s' => match r with
  | .ok (.ret u) => CE outer P w H s Q u s'
  | _ => False
/-- the def at f does what F says, in the second machine; nothing is raised -/
def FnDY (gd : Bool) (P : Program) (w : World) (K : PySem.W.Frag) (mg : Str → Option Value) (base : Heap) (k : Nat) (f : Addr) (F : Fn) : Prop :=
  ∀ (A : Around) (outer : List Env) (s : Shared) (H : Hp) (us : List Value) (vs : List V) (Q : VK), Room k A → (gd = true → A.guards = some []) → Env0 P w K mg base A outer s H → Vals vs us → spD K F vs H Q noK →
    codeAny (mY P w) A (.call (.ref f) ⟨us, []⟩) (fun r s' => RY P w outer H s Q r s' ∧ KeptU s s') s
theorem FnDY.mono {gd : Bool} {P : Program} {w : World} {K : PySem.W.Frag} {mg : Str → Option Value} {base : Heap} {j k : Nat} {f : Addr} {F : Fn} (h : FnDY gd P w K mg base j f F) (hj : j ≤ k) : FnDY gd P w K mg base k f F := fun A outer s H us vs Q hr => h A outer s H us vs Q (hr.mono hj)
theorem codeGone {M : Model} {A : Around} {c : Code} {R : Result → Shared → Prop} {s : Shared} (h : codeAny M A c (fun r s' => Gone s s' → R r s') s) : codeAny M A c R s := fun Γ p hc hΓ => by
  obtain ⟨r, s', hr, q⟩ := h Γ p hc hΓ
  exact ⟨r, s', hr, q (runs_gone hr)⟩
theorem kept_pre {s s1 s' : Shared} (e : s1.gens = s.gens) (g : Gone s s') (k : KeptU s1 s') : KeptU s s' := ⟨⟨fun i x h z => k.kept.gen i x (by rw [e]; exact h) z, g, by rw [← e]; exact k.kept.size⟩, fun i x h hn => k.fresh i x h (by rw [e]; exact hn)⟩
abbrev cxY (P : Program) (w : World) (K : PySem.W.Frag) (mg : Str → Option Value) (base : Heap) (N : List Str) (qual : Str) (scope : Scope) (f : Addr) (cdv : Value) (A : Around) (outer : List Env) (s : Shared) (H : Hp) : Cx := (cxOf (L2.CX P w) P w K mg base N qual scope f cdv A outer s H noK).nox
section
variable {gd : Bool} {P : Program} {w : World} {K : PySem.W.Frag} {mg : Str → Option Value} {base : Heap} {k : Nat} {f : Addr} {fd : FuncData} {N ps : List Str}
/-- a def by its body -/
theorem fnDY_of {x qual : Str} {st : Stmt} {cl : Sto → D → Sto → R D} {B : Ev → Sto → SR} (F : Fun K x qual st f fd) (sc : FnScope N ps (defScope st)) (hb : Binds K fd ps []) (hcl : ClOk cl)
    (hbody : ∀ (cdv : Value) (A : Around) (outer : List Env) (s : Shared) (H : Hp), Room k (A.deeper (envOfC qual (defScope st) s.heap.objs.size f cdv)) → (gd = true → A.guards = some []) → YDSs (cxY P w K mg base N qual (defScope st) f cdv A outer s H) (defBody st) B) : FnDY gd P w K mg base (k + 1) f (fnC cl N.length ps.length B) := by
  intro A outer s H us vs Q hr hgd e0 rv hsp
  obtain ⟨oc, od, kV, doc, pm, an, cdv, ct, osl, efd, lk, hcd⟩ := F.ex
  obtain ⟨hl, rd⟩ := body_read (N := N) hcl hsp
  have hlu : us.length = ps.length := by rw [← rv.length]; exact hl
  have kept : ∀ b o, base.get? b = some o → s.heap.get? b = some o := fun b o e => (e0.bs b o e).1
  have KX : K.In s.heap := e0.mod.kin.keeps kept
  have bd := hb s us KX (by rw [List.append_nil]; exact hlu)
  rw [List.append_nil, efd] at bd
  rw [efd] at lk
  have hkind : ∀ y ∈ ps.zip us, (defScope st).names.lookup y.1 = some .local ∨ ((defScope st).names.lookup y.1 = some .cell ∧ ((cellsFrom (s.heap.objs.size + 1) (defScope st).names []).lookup y.1).isSome = true) := by
    rintro ⟨n, v⟩ hy
    exact (sc.par n (List.of_mem_zip hy).1).imp id fun q => ⟨q, PySem.W.cellsFrom_some _ _ _ (.inl q)⟩
  refine codeGone ?_
  refine callFunY hr.depth (KX _ _ lk) rfl sc.co sc.gen rfl (PySem.W.codeRec_of KX hcd) (bd _ _ _ _ (wpAny_newFunctionEnv_cells sc.kind hkind fun env he s1 ic => ?_))
  subst he
  refine ⟨(e0.mod.nolimit.keeps kept).keeps ic.toInCall.keep, funcY ?_⟩
  obtain ⟨h1, tk, es1, hk1⟩ := ic.done
  have gn1 : s1.gens = s.gens := by rw [es1]
  have I : Inv (cxY P w K mg base N qual (defScope st) f cdv A outer s H) [] (start N vs) H s1 := (inv_start (CX := L2.CX P w) (P := P) (w := w) (E := noK) sc hr.hd e0 hl rv ic).wish _
  have body := hbody cdv A outer s H (hr.deeper _) hgd
  refine wpAny_mono (body.run [] s1 (start N vs) H _ I rd) (fun fl s' ⟨hs, kp⟩ g => ?_) fun e s' hs => hs
  cases fl with
  | ret u =>
    obtain ⟨v, σ', H', J, r', q⟩ := hs
    exact ⟨⟨v, H', J.os, J.bare, J.base, J.hok, r', q⟩, kept_pre gn1 g kp⟩
  | next =>
    obtain ⟨σ', H', J, q⟩ := hs
    exact ⟨⟨V.non, H', J.os, J.bare, J.base, J.hok, rfl, q⟩, kept_pre gn1 g kp⟩
  | brk => obtain ⟨_, _, _, q⟩ := hs; exact False.elim q
  | cont => obtain ⟨_, _, _, q⟩ := hs; exact False.elim q
end
section
variable {X : Cx} {gd : Bool} {k : Nat} {f : Addr} {F : Fn} {x : Str} {p pos : Pos} {e : Expr} {es : List Expr} {g : Ev → Sto → R (List D)}
/-- an expression whose value is a generator that has not begun -/
def PGV (X : Cx) (k : Nat) (e : Expr) (f : Ev → Sto → R (List D)) : Prop := ∀ (pins : List (Addr × Obj)) (s : Shared) (σ : L2.St) (H : Hp) (ι : List Addr) (ρ : Ev) (S : Sto) (Q : List D → Sto → List Addr → Hp → Prop), Inv X pins σ H s → RepE X.K ι H σ ρ → Sim X.K ι H S → Post X.K W0 σ ι H (f ρ S) Q →
  wpAny (mY X.prog X.w) X.A (eval e X.env) (fun u s' => ∃ H1 ι1 S1 xs, Grow ι H ι1 H1 ∧ Sim X.K ι1 H1 S1 ∧ Q xs S1 ι1 H1 ∧ GMkU X.prog X.w X.K X.mg X.base k X pins σ H1 xs s u s') noE s
theorem pgv_call {G : List D → Option (List D)} (hx : NoX X) (hF : GnU X.prog X.w X.K X.mg X.base k f G) (hr : Room (k + 2) X.A) (hc : X.calm = true) (hm : X.mg x = some (.ref f)) (hk : PySem.W.keepIn X.K (.ref f) = true) (ha : DA X W0 (e :: es) g) (hg : Gl X x := by rfl) (hdb : (x == ("__debug__" : Str)) = false := by decide)
    (he : starEach (e :: es) X.env = (false, eval e X.env) :: starEach es X.env := by rfl) (hpl : (backTo pos (starEach es X.env)).any (·.1) = false := by rfl) : PGV X k (.Call (.Name x p) (e :: es) [] pos) (eGen G g) := by
  intro pins s σ H ι ρ S Q I hE hS h
  refine wpAny_Call_Name_kw (globY I hg hm ?_ hdb)
  have rd : rdA X.K W0 g σ H fun vs H1 => ∃ ι1 S1 ds xs, Grow ι H ι1 H1 ∧ Sim X.K ι1 H1 S1 ∧ RepL X.K ι1 H1 ds vs ∧ ttL ds = true ∧ G ds = some xs ∧ Q xs S1 ι1 H1 := ⟨ι, ρ, S, hE, hS, by
    refine (Post.bind h).mono fun ds S1 ι1 H1 G1 s1 h1 vs rs => ?_
    split at h1
    · rename_i tds
      cases hx : G ds with
      | none => rw [hx] at h1; exact h1.elim
      | some xs => rw [hx] at h1; exact ⟨ι1, S1, ds, xs, G1, s1, rs, tds, hx, h1.here s1⟩
    · exact h1.elim⟩
  refine PySem.W.callWith_K (h₀ := X.base) I.ok.mod.kin hk (wpAny_mono ((ya hx ha).run pos pins s σ H _ I rd) (fun us s1 ⟨⟨vs, H1, I1, r1, ι1, S1, ds, xs, G1, s1', rs, tds, hxs, hq⟩, kp⟩ => ⟨I1.kIn, ?_⟩) fun _ _ z => z) he hpl
  exact wpAny_mono (hF X pins s1 σ H1 us vs ds xs ⟨rfl, rfl, rfl, rfl, rfl⟩ hr hc I1 r1 (tt_outL tds rs) tds hxs) (fun u s2 ⟨env, ga, c, pvp, q1, q2, q3, q4, q5, q6⟩ => ⟨H1, ι1, S1, xs, G1, s1', hq, env, ga, c, pvp, q1, q2, q3, q4, Nat.le_trans kp.kept.size q5, kp.trans q6⟩) fun _ _ z => z.elim
theorem genV_post {K : PySem.W.Frag} {σ : L2.St} {ι : List Addr} {H : Hp} {r : R (List D)} {Q : VK} {mk : List D → D} (htt : ∀ xs S1, r = .ok xs S1 → ttL xs = true)
    (hq : Post K W0 σ ι H (r.bind fun xs S1 => ifp (xs.length ≤ sizeLine) (.ok (mk xs) S1) .stuck) fun d _ ι' H' => ∀ v, RepV K ι' H' d v → Q v H') :
    Post K W0 σ ι H r fun xs S1 ι1 H1 => ttL xs = true ∧ xs.length ≤ sizeLine ∧ ∀ ι' H' v, Grow ι1 H1 ι' H' → Sim K ι' H' S1 → RepV K ι' H' (mk xs) v → Q v H' := by
  cases hf : r with
  | ok xs S1 =>
    rw [hf] at hq
    intro ι1 H1 G1 s1
    replace hq : Post K W0 σ ι H (ifp (xs.length ≤ sizeLine) (.ok (mk xs) S1) .stuck) _ := hq
    unfold ifp at hq
    split at hq
    · rename_i hl
      exact ⟨htt xs S1 hf, hl, fun ι' H' v G2 s2 rv => hq ι' H' (G1.trans G2) s2 v rv⟩
    · exact hq.elim
  | er x S1 => rw [hf] at hq; exact hq
  | stuck => rw [hf] at hq; exact hq
theorem yde_listG {ex : Expr} {fg : Ev → Sto → R (List D)} {nm : Str} (h : PGV X k ex fg) (htt : ∀ ρ S xs S1, fg ρ S = .ok xs S1 → ttL xs = true) (hr : Room (k + 6) X.A) (hg : Gl X nm) (hmg : X.mg nm = none) (hv : bootBuiltins nm = some (.type "list")) (hnm : nm ≠ "__name__" := by decide) (hdb : (nm == ("__debug__" : Str)) = false := by decide)
    (he : starEach [ex] X.env = (false, eval ex X.env) :: starEach [] X.env := by rfl) : YDE X (.Call (.Name nm p) [ex] [] pos) (eListG fg) := by
  refine ⟨fun pins s σ H Q I ⟨ι, ρ, S, hE, hS, hq⟩ => ?_⟩
  refine wpAny_Call_Name_kw (bltY I hg hmg hv ?_ hnm hdb)
  refine PyProof.Rows.callWith_type1 ?_ he rfl
  rw [he]
  show wpAny _ _ (spliced ((false, eval ex X.env) :: backTo pos (starEach [] X.env))) _ _ s
  refine Calls.spliced_cons (wpAny_mono (h pins s σ H ι ρ S _ I hE hS (genV_post (mk := .fl) (htt ρ S) hq)) (fun u s1 ⟨H1, ι1, S1, xs, G1, sm1, ⟨tds, hl, hQ⟩, G⟩ => ?_) fun _ _ z => z)
  refine Calls.spliced_nil ?_
  refine call_listU hr G hl fun q H' s' acc I' hn hq2 rl sub kp => ?_
  have Gr : Grow ι1 H1 ι1 H' := Grow.all sub
  have sm' := sm1.all sub
  refine ⟨⟨.ref q, H', I', rfl, hQ ι1 H' (.ref q) Gr sm' ?_⟩, kp⟩
  rw [RepV]
  refine ⟨q, acc, rfl, ⟨fun z => ?_, hq2⟩, tt_moveL (ι := []) (ι' := ι1) (fun a ys _ z => ⟨sm'.noTup z, z⟩) (fun _ _ _ z => z) xs acc tds rl⟩
  obtain ⟨n, hn1, rfl⟩ := List.mem_iff_getElem.mp z
  have hs : n < S1.length := by rw [← sm1.len]; exact hn1
  obtain ⟨u2, hu2⟩ := (sm1.ob n ι1[n] S1[n] (List.getElem?_eq_some_iff.mpr ⟨hn1, rfl⟩) (List.getElem?_eq_some_iff.mpr ⟨hs, rfl⟩)).some
  rw [hn] at hu2; cases hu2
end
end DL
namespace DL
open PySem PySem.Spec L2
open PyProof.Rows hiding St
theorem law_runY {P : Program} {w : World} {K : PySem.W.Frag} {mg mb : Str → Option Value} {k : Nat} {fa a : Addr} {F : Fn} {s₁ : Shared} {vs : List Value} {ns : List Int}
    (KX : K.In s₁.heap) (hns : s₁.heap.Ns mainGlobals mg) (hb : s₁.heap.Ns builtinsNs mb) (hbb : ∀ x : Str, x ≠ "__name__" → mb x = bootBuiltins x) (hlim : s₁.heap.NoLimit) (hsy : s₁.heap.NoSeer) (hg : s₁.gens = #[])
    (ha : s₁.heap.get? a = some { cls := .type "list", data := .seq vs.toArray }) (hi : IntsAre vs ns) (hl : ns.length ≤ 63) (hbit : ∀ z ∈ ns, Builtin.Int.intBits z ≤ 1048576) (hr : Room k callerA)
    (hF : ∀ base : Heap, K.In base → base.Ns mainGlobals mg → (∃ o, base.get? sysModules = some o) → FnDY true P w K mg base k fa F) (hlaw : LawOk F) :
    codeAny (mY P w) callerA (.call (.ref fa) ⟨[.ref a], []⟩) (fun r s' => r = .ok (.ret (.bool true)) ∧ OldK s₁.heap s'.heap ∧ s'.os = s₁.os ∧ Quiet s') s₁ := by
  have rvs := vals_ints hi
  have hz : ns.length ≤ sizeLine := Nat.le_trans hl (by decide)
  have hlv := hi.length
  have go : ∀ H : Hp, (∀ b u, H b = some u → b = a ∧ K.lookup a = none ∧ ∃ o, u = .frz o (.lst (ns.map V.int))) → KlAt K [] H a (ns.map V.int) → HOk P w H s₁.heap →
      codeAny (mY P w) callerA (.call (.ref fa) ⟨[.ref a], []⟩) (fun r s' => r = .ok (.ret (.bool true)) ∧ OldK s₁.heap s'.heap ∧ s'.os = s₁.os ∧ Quiet s') s₁ := by
    intro H only kl hok
    have free : ∀ {b : Addr} {o : Obj}, s₁.heap.get? b = some o → (b = a → K.lookup a ≠ none ∨ ∃ es ep, o.data = .dict es ep) → H b = none := by
      intro b o e1 e2
      cases q : H b with
      | none => rfl
      | some u =>
        obtain ⟨rfl, n1, _⟩ := only b u q
        rcases e2 rfl with z | ⟨es, ep, z⟩
        · exact absurd n1 z
        · rw [ha] at e1; cases e1; cases z
    have nsb : ∀ {b : Addr} {m : Str → Option Value}, s₁.heap.Ns b m → (hidT s₁.heap H).Ns b m := by
      rintro b m ⟨o, es, ep, e1, e2, r⟩
      exact ⟨o, es, ep, hidT_get e1 (free e1 fun _ => .inr ⟨es, ep, e2⟩), e2, r⟩
    have kin : K.In (hidT s₁.heap H) := fun b o e => hidT_get (KX b o e) (free (KX b o e) fun z => .inl (by rw [← z, e]; simp))
    have hsys : ∃ o, (hidT s₁.heap H).get? sysModules = some o := by
      obtain ⟨mm, ⟨o, es, ep, e1, e2, r⟩, _⟩ := hsy.mods
      exact ⟨o, hidT_get e1 (free e1 fun _ => .inr ⟨es, ep, e2⟩)⟩
    have md : Mod K mg (hidT s₁.heap H) := ⟨kin, nsb hns, ⟨mb, nsb hb, hbb⟩, let ⟨mc, h1, h2⟩ := hlim; ⟨mc, nsb h1, h2⟩⟩
    have e0 : Env0 P w K mg (hidT s₁.heap H) callerA [] s₁ H :=
      { frames := rfl, mod := md, bs := fun b o e => of_hidT e, bsz := Nat.le_of_eq (hidT_size _ _), funs := trivial
        frf := fun b z => absurd (show b ∈ ([] : List Addr) from z) (by simp), hok := hok, bare := .of_eq hg }
    obtain ⟨S', hS⟩ := hlaw ns hl hbit
    have sp : spD K F [V.ref a] H (fun v _ => v = .bl true) noK := by
      refine ⟨[], [], [.kl (ns.map D.int)], RepL.one (by rw [RepV]; exact ⟨a, _, rfl, kl, repL_ints ns⟩), ⟨List.nodup_nil, rfl, fun n a o e => by simp at e⟩, ?_⟩
      rw [hS]
      intro ι' H' v _ _ r
      rw [RepV] at r; exact r
    refine codeAny_mono (hF _ kin (nsb hns) hsys callerA [] s₁ H [.ref a] [.ref a] _ hr (fun _ => rfl) e0 (.cons rfl .nil) sp) fun r s' ⟨h, kp⟩ => ?_
    cases r with
    | error e => exact h.elim
    | ok fl =>
      cases fl with
      | next => exact False.elim h
      | brk => exact False.elim h
      | cont => exact False.elim h
      | ret u =>
        obtain ⟨v, H', os, bare, unq, hok', r', q⟩ := h
        have q : v = .bl true := q
        subst q
        cases (show u = Value.bool true from r')
        refine ⟨rfl, OldK.of_keep fun b o e => ?_, os, bare, fun y hy => ?_⟩
        · cases hb' : H b with
          | none => exact unq.keep b o e hb' (fun z => absurd (show b ∈ ([] : List Addr) from z) (by simp)) (by simp)
          | some u =>
            obtain ⟨rfl, _, ob, rfl⟩ := only b u hb'
            have z1 := (hok b _ hb').1
            have z2 := (hok' b _ (unq.frzs b ob _ hb')).1
            rw [e] at z1; cases z1
            exact z2
        · obtain ⟨i, hi, rfl⟩ := Array.mem_iff_getElem.mp hy
          exact .inl (kp.fresh i _ (Array.getElem?_eq_getElem hi) fun z hz => by rw [hg] at hz; simp at hz)
  cases hk : K.lookup a with
  | some o =>
    have e := KX a o hk
    rw [ha] at e; cases e
    refine go (fun _ => none) (fun b u z => by cases z) (.inr (.inr ⟨_, vs.toArray, _, hk, rfl, rfl, rfl, by rw [List.size_toArray, hlv]; exact hz, by simpa using rvs⟩)) fun b u z => by cases z
  | none =>
    refine go (upd (fun _ => none) a (.frz { cls := .type "list", data := .seq vs.toArray } (.lst (ns.map V.int)))) (fun b u z => ?_) (.inl ⟨by simp, _, upd_same⟩) fun b u z => ?_
    · by_cases hb' : b = a
      · subst hb'
        rw [upd_same] at z; cases z
        exact ⟨rfl, hk, _, rfl⟩
      · rw [upd_ne hb'] at z; cases z
    · by_cases hb' : b = a
      · subst hb'
        rw [upd_same] at z; cases z
        exact ⟨ha, by rw [List.length_map]; exact hz, vs, _, rvs, ha⟩
      · rw [upd_ne hb'] at z; cases z
open PySem.W PySem.Calls in
theorem attachY {l : OpenLaw} {n : Nat} {q : Program} {loose : List Str} {XP : (Str → Option Value) → Heap → Prop} {YP : World → Heap → Prop} {d : DefRec} (hn : l.most = some n) (hdf : d.params.defaults = [])
    (call : ∀ (w : World) (s₀ s₁ : Shared) (mg mb : Str → Option Value) (fa : Addr) (o : Obj) (pm cd doc : Value) (a : Addr) (vs : List Value) (ns : List Int), Ground q loose [] XP w s₀ mg mb s₁.heap → YP w s₁.heap →
      s₁.heap.get? fa = some o → o.data = .func (docDef d.name d.params d.body d.scope pm cd doc) → s₁.heap.CodeRec cd d.name → mg d.name = some (.ref fa) →
      s₁.heap.get? a = some { cls := .type "list", data := .seq vs.toArray } → IntsAre vs ns → ns.length ≤ n → (∀ k ∈ ns, Builtin.Int.intBits k ≤ 1048576) → s₁.gens = #[] →
      codeAny (mY l.prog w) callerA (.call (.ref fa) ⟨[.ref a], []⟩) (fun r s' => r = .ok (.ret (.bool true)) ∧ OldK s₁.heap s'.heap ∧ s'.os = s₁.os ∧ Quiet s') s₁) :
    WalkY q loose XP YP l.row.toRowW d [] (fun f vs => PySem.call f vs) := by
  intro w s₀ s₁ mg mb G Y fa o pm cd doc dV kV ho hd hcd hD hmg hg args vals as hpre hlay hrd hwl hlo
  obtain rfl : dV = .none := Dflts.none hD hdf
  obtain rfl : kV = .none := Dflts.noKw hD
  obtain ⟨a, vs, ns, rfl, rfl, hobj, hints, hlen⟩ := Att.script_of hn hpre hwl
  refine wpAny_call (codeAny_mono (call w s₀ s₁ mg mb fa o pm cd doc a vs ns G Y ho hd hcd hmg hobj hints hlen (Att.script_bits hlay) hg) fun r s' hq => ?_)
  obtain ⟨rfl, h2, h3, h4⟩ := hq
  exact ⟨⟨.inl ⟨.bool true, .bool true, [], rfl, fun _ => rfl, .bool true, Att.post_true l _, fun _ => ⟨List.Pairwise.nil, fun _ hm => (nomatch hm)⟩⟩, h2, h3, h4.1⟩, h4⟩
theorem law_walkY {l : PySem.W.OpenLaw} {k : Nat} {q : Program} {loose : List Str} {XP : (Str → Option Value) → Heap → Prop} {YP : World → Heap → Prop} {d : DefRec} {K : Params → PySem.W.Frag}
    (hn : l.most = some 63) (hdf : d.params.defaults = []) (hr : Room k callerA) (hi : importsNone q = true) (hY : ∀ (w : World) (h : Heap), YP w h → (K w.params).In h)
    (hF : ∀ (w : World) (mg : Str → Option Value) (fa : Addr) (h : Heap), (K w.params).In h → h.Ns mainGlobals mg → mg d.name = some (.ref fa) →
      ∃ F : Fn, LawOk F ∧ ∀ base : Heap, (K w.params).In base → base.Ns mainGlobals mg → (∃ o, base.get? sysModules = some o) → FnDY true l.prog w (K w.params) mg base k fa F) :
    WalkY q loose XP YP l.row.toRowW d [] (fun f vs => PySem.call f vs) := by
  refine attachY hn hdf fun w s₀ s₁ mg mb fa o pm cd doc a vs ns G Y ho hd hcd hmg hobj hints hlen hbits hg => ?_
  obtain ⟨F, hl, hF'⟩ := hF w mg fa _ (hY w _ Y) G.T.g hmg
  exact law_runY (hY w _ Y) G.T.g G.T.b G.T.builtins G.T.nolimit (G.T.seer hi) hg hobj hints hlen hbits hr hF' hl
end DL
namespace DL
open PySem PySem.Spec L2
open PyProof.Rows hiding St
section
variable {X : Cx} {pos : Pos} {e : Expr} {es : List Expr} {st : Stmt} {rest : List Stmt} {te : TE} {tA tB' tc : L2.TT}
theorem ydt_of_test {t : TE} {f : Ev → Sto → R D} (h : YT X e (tTest t)) (i : ∀ σ H Q, rdE X.K W0 f σ H Q → t σ H Q) : YDT X e (eT f) := by
  refine YT.imp h fun σ H Q ⟨ι, ρ, S, hE, hS, q⟩ => i σ H _ ⟨ι, ρ, S, hE, hS, (Post.bind q).mono fun d S1 ι1 H1 G1 s1 h1 v rv => bOf_post h1 s1 rv⟩
theorem ydt_cmp {a b : Expr} {op : CmpOp} {r : R2} {o : D → D → Sto → R D} {f g : Ev → Sto → R D} (hx : NoX X) (ho : OpR X (compareOp op) r) (k : OpK X.K r o) (ha : YDE X a f) (hb : YDE X b g) (hm : behindInMarks op b = false) : YDT X (.Compare a [op] [b] pos) (eT (eOp o f g)) := ydt_of_test (yt_cmpR hx ho ha hb hm) (op_seq k)
end
section
variable {X : Cx} {pos : Pos} {e : Expr} {st : Stmt} {rest : List Stmt}
theorem ydss_cons {F G : Ev → Sto → SR} (h1 : YDS X st F) (h2 : YDSs X rest G) : YDSs X (st :: rest) (sSeq F G) := by
  refine YSs.imp (yss_cons h1 h2) fun E σ H ⟨ι, ρ, S, hE, hS, h⟩ => ⟨ι, ρ, S, hE, hS, ?_⟩
  unfold sSeq at h
  cases hF : F ρ S with
  | nx ρ1 S1 => rw [hF] at h; exact fun ι1 H1 σ1 G1 s1 e1 => ⟨ι1, ρ1, S1, e1, s1, PostS.grow h G1⟩
  | rt d S1 => rw [hF] at h; exact h
  | bk ρ1 S1 => rw [hF] at h; exact h
  | ct ρ1 S1 => rw [hF] at h; exact h
  | er e ρ1 S1 => rw [hF] at h; exact h
  | stuck => rw [hF] at h; exact h
theorem ydss_one {F : Ev → Sto → SR} (h1 : YDS X st F) : YDSs X [st] F := yss_one h1
theorem yds_if {c : Expr} {a b : List Stmt} {t : Ev → Sto → R Bool} {F G : Ev → Sto → SR} (hc : YDT X c t) (ha : YDSs X a F) (hb : YDSs X b G) : YDS X (.If c a b pos) (sIf t F G) := by
  refine YS.imp (ys_if hc ha hb) fun E σ H ⟨ι, ρ, S, hE, hS, h⟩ => ⟨ι, ρ, S, hE, hS, (PostS.bind h hE).mono fun b S1 ι1 H1 G1 s1 h1 => ?_⟩
  cases b with
  | true => rw [if_pos rfl] at h1 ⊢; exact ⟨ι1, ρ, S1, hE.grow G1, s1, h1⟩
  | false => rw [if_neg (by decide)] at h1 ⊢; exact ⟨ι1, ρ, S1, hE.grow G1, s1, h1⟩
end
end DL
namespace DL
open PySem PySem.Spec L2
open PyProof.Rows hiding St
theorem fnDY_of2 {gd : Bool} {P : Program} {w : World} {K : PySem.W.Frag} {mg : Str → Option Value} {base : Heap} {k : Nat} {f : Addr} {fd : FuncData} {N ps : List Str} {x qual : Str} {st : Stmt} {cl : Sto → D → Sto → R D} {B : Ev → Sto → SR} (F : Fun K x qual st f fd) (sc : FnScope N ps (defScope st)) (hb : Binds K fd ps []) (hcl : ClOk cl)
    (hbody : ∀ (cdv : Value) (A : Around) (outer : List Env) (s : Shared) (H : Hp), Room k (A.deeper (envOfC qual (defScope st) s.heap.objs.size f cdv)) → (gd = true → A.guards = some []) → Takes (cxY P w K mg base N qual (defScope st) f cdv A outer s H) W0 →
      PassesOwn (model P w) (A.deeper (envOfC qual (defScope st) s.heap.objs.size f cdv)) (envOfC qual (defScope st) s.heap.objs.size f cdv) (cxY P w K mg base N qual (defScope st) f cdv A outer s H).xe → NoX (cxY P w K mg base N qual (defScope st) f cdv A outer s H) →
      YDSs (cxY P w K mg base N qual (defScope st) f cdv A outer s H) (defBody st) B) : FnDY gd P w K mg base (k + 1) f (fnC cl N.length ps.length B) :=
  fnDY_of F sc hb hcl fun cdv A outer s H hr hG => hbody cdv A outer s H hr hG takes0 PassesOwn.never fun _ _ z => z
theorem eGenU_tt {G : List D → Option (List D)} {g : Ev → Sto → R (List D)} (h : ∀ ds xs, G ds = some xs → ttL xs = true) : ∀ ρ S xs S1, eGen G g ρ S = .ok xs S1 → ttL xs = true := fun ρ S xs S1 e => by
  unfold eGen at e
  cases q : g ρ S with
  | stuck => rw [q] at e; cases e
  | er a b => rw [q] at e; cases e
  | ok ds S2 =>
    rw [q] at e
    simp only [R.bind] at e
    split at e
    · cases hG : G ds with
      | none => rw [hG] at e; cases e
      | some ys => rw [hG] at e; cases e; exact h ds _ hG
    · cases e
end DL
namespace DL
open PySem L2
open PyProof.Rows hiding St
open Sem (wp)
theorem goU {M : Model} {A : Around} {E : Value → Shared → Prop} {s : Shared} {tg : Expr} {a : Addr} {n : Nat} {o : Obj} {u : Value} {Q : Unit → Shared → Prop} (ho : s.heap.get? a = some o) (z : isG o n) (h : Q () s) : wpAny M A (letOwnedTupleGo tg (.ref a) u) Q E s := by
  obtain ⟨nm, qn, h1, h2, h3⟩ := z
  exact go_of ho h1 h2 (by decide) h
section
variable {P : Program} {w : World} {K : PySem.W.Frag} {mg : Str → Option Value} {base : Heap} {k k' : Nat} {N : List Str} {env : Env} {ga : GA}
theorem gsU_forG {tg iter : Expr} {body : List Stmt} {f : Ev → Sto → R (List D)} {T : Tg} {B : GM} {pos : Pos} (hkk : k' + 2 ≤ k) (ge : GEnv N env) (hi : GPU P w K mg base k k' N env iter f) (hg : GDG P w K mg base k N env tg T) (hb : GSsU P w K mg base k N env ga body B)
    (hs : ∀ x, foldedSetIterable iter env x = pure x := by intro _; rfl) : GSU P w K mg base k N env ga (.For tg iter body [] pos) (gForG f T B) := by
  intro o γ ip ig ρ ys ρ' Ht rest c fs kk jj gd lv s hγ hga hp hr hB h
  obtain ⟨xs, hf, hL⟩ := hB
  obtain ⟨σg, H', I, G, rE, hfl⟩ := hr.ex
  have hof := hγ.of
  obtain ⟨e1, e2, e3, e4, e5⟩ := hγ.of
  rw [exec_For]
  refine su_bindw (wpAny_standAt ?_)
  refine su_bindw ?_
  rw [hp.over]
  have key := hi γ.X γ.pv γ.H γ.s hof hγ.inner ((ga.1, o) :: ip) s σg H' ρ xs I (by rw [show (gx N env γ.X γ.pv γ.H γ.s).K = K from e3]; exact rE) hf
  have key2 : wpAny (mY γ.X.prog γ.X.w) (γ.X.A.in1.deeper env) (eval iter env) (fun u s' => ∃ H1, (∀ a o, H' a = some o → H1 a = some o) ∧ GMkU γ.X.prog γ.X.w γ.X.K γ.X.mg γ.X.base k' (gx N env γ.X γ.pv γ.H γ.s) ((ga.1, o) :: ip) σg H1 xs s u s') noE s := key
  rw [e1, e2, e3, e4, e5] at key2
  refine wpAny_mono key2 (fun v s1 ⟨H1, sub1, env', gb, c0, pvp, hv, I1, cns, gat, hnum, kp1⟩ => ?_) fun _ _ z => z.elim
  subst hv
  obtain ⟨⟨og, hog, isgb⟩, fpb⟩ := gat.me
  refine su_bindw (wpAny_of_eq (hs _) ?_)
  refine su_bindw (wpAny_standAt ?_)
  refine su_bindw (wpAny_holding ?_)
  rw [hp.over]
  refine iterG hog isgb ?_
  refine su_call fun p => ?_
  have hlt : env.locals < env'.locals := cns.fr _ (by
    show env.locals ∈ frs (env :: γ.X.stack)
    unfold frs
    rw [List.filterMap_cons, ge.frame]
    exact List.mem_cons_self)
  have hga2 : ga.2 < gb.2 := Nat.lt_of_lt_of_le (Nat.lt_of_lt_of_le hγ.num hr.gone.gon.size) hnum
  have hig : ∀ q ∈ ig, q.1 < gb.2 := fun q hq => Nat.lt_of_lt_of_le (Array.getElem?_eq_some_iff.mp (hr.igs q hq).1).1 hnum
  have igs1 : ∀ q ∈ ig, s1.gens[q.1]? = some q.2 ∧ asleep q.2 = true := fun q hq => by
    obtain ⟨z1, z2⟩ := hr.igs q hq
    exact ⟨kp1.kept.gen _ _ z1 z2, z2⟩
  have hsz : ∀ {γ' : Rgu}, RsU P w K mg base k env ga γ' → (hcut γ'.s.heap env.locals).objs.size = env.locals := fun {γ'} hγ' => by
    rw [hcut_size]
    exact Nat.min_eq_left (Nat.le_of_lt hγ'.lt)
  have cnsOf : ∀ {γ' : Rgu}, RsU P w K mg base k env ga γ' → Cons env'.locals (gx N env γ'.X γ'.pv γ'.H γ'.s) := fun {γ'} hγ' => ⟨rfl, fun b hb => by
    have hb' : b ∈ frs (env :: γ'.X.stack) := hb
    unfold frs at hb'
    rw [List.filterMap_cons, ge.frame] at hb'
    rcases List.mem_cons.mp hb' with rfl | hb'
    · exact hlt
    · exact Nat.lt_trans (hγ'.cons.fr b hb') hlt, Nat.le_trans hγ'.cons.bsz (Nat.le_of_lt hlt)⟩
  have hgp := fun (kr : Result → Sem PySem.Fin) => gpos_loop (env := env) (kr := kr) (c' := .forLoop tg (.ref gb.1) body [] env) (l := lv []) (kp := []) (p := p) hp rfl rfl
  -- the inner generator's things are this generator's own
  have own : ∀ {γ' : Rgu} {H3 : Hp} {s3 : Shared} {pins : List (Addr × Obj)}, RsU P w K mg base k env ga γ' → (∀ a o, gmark env.locals γ'.pv γ'.H γ'.s.heap a = some o → H3 a = some o) → Gon ga.2 γ'.s s3 → ∀ b, FpOk (gx N env γ'.X γ'.pv γ'.H γ'.s) pins H3 b → (∃ o, s3.heap.get? b = some o) → b ∈ γ'.pv ∨ γ'.s.heap.objs.size ≤ b := fun {γ' H3 s3 pins} hγ' hm hgo b hb ho => by
    have hL : env.locals ≤ b := by
      rcases hb.2.2.2.1 with z | z
      · cases z
      · have z' : (hcut γ'.s.heap env.locals).objs.size ≤ b := z
        rw [hsz hγ'] at z'; exact z'
    have hn := hb.1
    by_cases hlt : b < γ'.s.heap.objs.size
    · by_cases hpv : b ∈ γ'.pv
      · exact .inl hpv
      · exfalso
        cases hq : γ'.s.heap.get? b with
        | none =>
          obtain ⟨o, ho⟩ := ho
          rw [hgo.gone.none b hlt hq] at ho; cases ho
        | some o =>
          cases hH : γ'.H b with
          | some u => rw [hm b u (gmark_some hH)] at hn; cases hn
          | none => rw [hm b _ (gmark_ext hH hL hpv hq)] at hn; cases hn
    · exact .inr (Nat.le_of_not_lt hlt)
  have loop : ∀ (l : List D) (ρ : Ev) (ys : List D) (γ : Rgu) (s : Shared) (σg : L2.St) (H1 : Hp) (o : Obj) (st : GenState) (pvp : List (Addr × Obj)) (gs : List (Nat × GenState)), RsU P w K mg base k env ga γ → isG o ga.2 → Inv (gx N env γ.X γ.pv γ.H γ.s) ((ga.1, o) :: ip) σg H1 s → (∀ a o, gmark env.locals γ.pv γ.H γ.s.heap a = some o → H1 a = some o) → RepE K [] H1 σg ρ → Tx Ht H1 → ttE ρ →
      (∀ p ∈ ip, p.1 ∈ γ.pv ∨ γ.s.heap.objs.size ≤ p.1) → (∀ q ∈ ig, s.gens[q.1]? = some q.2 ∧ asleep q.2 = true) → Tn ga.2 γ.og (gb.2 :: gs.map (·.1) ++ ig.map (·.1)) γ.s s → GAtU P w K mg base k' env' gb (gx N env γ.X γ.pv γ.H γ.s) ((ga.1, o) :: ip) l st pvp gs H1 s → gLoop T B l ρ ys ρ' →
      SgU P w γ.X.A.in1 (GoalU P w K mg base k env ga (ys ++ rest) γ) (.forLoop tg (.ref gb.1) body [] env) (denote table (.forLoop tg (.ref gb.1) body [] env))
        (.ret (fun r => ((match r with | .ok f => (.pure f : Sem Flow) | .error e => .raise e).onRaise (cameBack env)).wrap kk jj gd lv) none (gd false) (lv []) c p [] :: fs) s := by
    intro l
    induction l with
    | nil =>
      intro ρ ys γ s σg H1 o st pvp gs hγ isg I G rE hfl tρ ips igs gone gat hL
      obtain ⟨rfl, rfl⟩ := hL
      refine su_forLoop ?_
      rw [(hgp _).over]
      refine wpAny_mono (gnextU (X := gx N env γ.X γ.pv γ.H γ.s) hγ.of ((hγ.inner).mono hkk) (cnsOf hγ) I gat) (fun r s2 h2 => ?_) fun _ _ z => z.elim
      rcases h2 with ⟨_, rfl, H2, I2, sub, tn⟩ | ⟨x, xs', u, vv, H2, st2, pvp2, gs2, z, _⟩
      · refine su_again rfl ?_
        show SgU _ _ _ _ _ (leafOf (.ok .next)) _ _
        refine su_leaf (.ok .next) ?_
        refine h o γ s2 hγ ⟨⟨σg, H2, I2, fun a o z => sub a o (G a o z), rE.tx tρ fun a u _ z => sub a u z, hfl.trans fun a u _ z => sub a u z⟩, isg, tρ, ips, fun q hq => ?_, gone.trans ((tn.with (ig.map (·.1))).le (Nat.le_of_lt hga2)), hr.mks⟩
        obtain ⟨z1, z2⟩ := igs q hq
        exact ⟨tn.gon.low _ _ (hig q hq) z1 z2, z2⟩
      · cases z
    | cons d l ih =>
      intro ρ ys γ s σg H1 o st pvp gs hγ isg I G rE hfl tρ ips igs gone gat hL
      obtain ⟨ρ1, y1, ρ2, y2, hT, t1, b1, b2, rfl⟩ := hL
      refine su_forLoop ?_
      rw [(hgp _).over, List.append_assoc]
      refine wpAny_mono (gnextU (X := gx N env γ.X γ.pv γ.H γ.s) hγ.of ((hγ.inner).mono hkk) (cnsOf hγ) I gat) (fun r s2 h2 => ?_) fun _ _ z => z.elim
      rcases h2 with ⟨z, _⟩ | ⟨x, xs', u, vv, H2, st2, pvp2, gs2, z, rfl, rv, I2, sub, tx, rd, as2, nf2, gat2, tn2⟩
      · cases z
      cases z
      have G2 : ∀ a o, gmark env.locals γ.pv γ.H γ.s.heap a = some o → H2 a = some o := fun a o z => sub a o (G a o z)
      have gone2 : Tn ga.2 γ.og (gb.2 :: gs2.map (·.1) ++ ig.map (·.1)) γ.s s2 := gone.trans ((tn2.with (ig.map (·.1))).le (Nat.le_of_lt hga2))
      obtain ⟨⟨H0, pl, t0, hp0, hf0, sl⟩, own2, obj2, gen2, ⟨⟨ob, hob, isgb2⟩, fpb2⟩, mk2, mks2⟩ := gat2
      obtain rfl : pl = none := hf0.elim id fun ⟨c, z⟩ => absurd z (nf2 c)
      refine goU hob isgb2 ?_
      have pin3 : ∀ p ∈ (gb.1, ob) :: pvp2, s2.heap.get? p.1 = some p.2 ∧ (∀ v, p.2.data ≠ .cell v) ∧ FpOk (gx N env γ.X γ.pv γ.H γ.s) ((ga.1, o) :: ip) H2 p.1 := fun p hp => by
        rcases List.mem_cons.mp hp with rfl | hp
        · refine ⟨hob, fun v z => ?_, fpb2⟩
          obtain ⟨nm, qn, _, hd, _⟩ := isgb2
          rw [hd] at z; cases z
        · exact obj2 p hp
      have I3' : Inv (gx N env γ.X γ.pv γ.H γ.s) ((ga.1, o) :: (ip ++ (gb.1, ob) :: pvp2)) σg H2 s2 := I2.pins_of fun p hp => by
        have hp : p ∈ (ga.1, o) :: ip ∨ p ∈ (gb.1, ob) :: pvp2 := by
          rcases List.mem_cons.mp hp with z | z
          · exact .inl (by rw [z]; exact List.mem_cons_self)
          · exact (List.mem_append.mp z).imp (fun z => List.mem_cons_of_mem _ z) id
        rcases hp with z | z
        · exact I2.pin p (List.mem_append_right _ z)
        · obtain ⟨z1, z2, z3⟩ := pin3 p z
          exact ⟨z1, z3.1, z3.2.1, z3.2.2.1, z2⟩
      have egs : ((gb.2, st2) :: gs2 ++ ig).map (·.1) = gb.2 :: gs2.map (·.1) ++ ig.map (·.1) := by simp
      have ips2 : ∀ p ∈ ip ++ (gb.1, ob) :: pvp2, p.1 ∈ γ.pv ∨ γ.s.heap.objs.size ≤ p.1 := fun p hp => by
        rcases List.mem_append.mp hp with hp | hp
        · exact ips p hp
        · obtain ⟨z1, _, z3⟩ := pin3 p hp
          exact own hγ G2 gone2.gon p.1 z3 ⟨_, z1⟩
      have mks3 : MgsOk (ip ++ (gb.1, ob) :: pvp2) ((gb.2, st2) :: gs2 ++ ig) := MgsOk.app (fun q hq => by
        rcases List.mem_cons.mp hq with rfl | hq
        · exact mk2.mono fun y hy => List.mem_append_right _ (List.mem_cons_of_mem _ hy)
        · exact (mks2 q hq).mono fun y hy => List.mem_append_right _ (List.mem_cons_of_mem _ hy)) (hr.mks.mono fun y hy => List.mem_append_left _ hy)
      refine gdgU_run (Ht := H2) (ip := ip ++ (gb.1, ob) :: pvp2) (ig := (gb.2, st2) :: gs2 ++ ig) hg hγ isg I3' G2 (rE.tx tρ fun a u _ z => sub a u z) (Tx.refl _) (fun q hq => ?_) (by rw [egs]; exact gone2) ips2 mks3 rv rd hT t1 fun s6 hr6 => ?_
      · rcases List.mem_append.mp hq with hq | hq
        · rcases List.mem_cons.mp hq with rfl | hq
          · exact ⟨own2, as2⟩
          · exact gen2 q hq
        · obtain ⟨z1, z2⟩ := igs q hq
          exact ⟨tn2.gon.low _ _ (hig q hq) z1 z2, z2⟩
      intro kk2 jj2 hkk2
      refine hb o γ (ip ++ (gb.1, ob) :: pvp2) ((gb.2, st2) :: gs2 ++ ig) ρ1 y1 ρ2 H2 (y2 ++ rest) _ _ kk2 jj2 id id s6 hγ ⟨fun p hp => ?_, fun q hq => ?_⟩ (hgp _) hr6 b1 fun o7 γ' s7 hγ' hr7 => ?_
      · rcases List.mem_append.mp hp with hp | hp
        · exact hga.1 p hp
        · obtain ⟨_, _, z3⟩ := pin3 p hp
          exact fun z => z3.2.2.2.2.2 (ga.1, o) (List.mem_append_right _ List.mem_cons_self) z.symm
      · rcases List.mem_append.mp hq with hq | hq
        · rcases List.mem_cons.mp hq with rfl | hq
          · exact hga2
          · exact Nat.lt_trans hga2 (sl.ne q hq)
        · exact hga.2 q hq
      rw [hkk2]
      refine su_again rfl ?_
      obtain ⟨σ7, H7, I7, G7, rE7, hfl7⟩ := hr7.ex
      have pin7 : ∀ p ∈ (gb.1, ob) :: pvp2, s7.heap.get? p.1 = some p.2 ∧ H7 p.1 = none ∧ p.1 ≠ env.locals ∧ p.1 ∉ frs γ'.X.stack := fun p hp => by
        obtain ⟨z1, z2, z3, z4, _⟩ := I7.pin p (List.mem_append_right _ (List.mem_cons_of_mem _ (List.mem_append_right _ hp)))
        exact ⟨z1, z2, z3, z4⟩
      have fp7 : ∀ p ∈ (gb.1, ob) :: pvp2, FpOk (gx N env γ'.X γ'.pv γ'.H γ'.s) ((ga.1, o7) :: ip) H7 p.1 := fun p hp => by
        obtain ⟨_, z2, z3, z4⟩ := pin7 p hp
        obtain ⟨_, _, o3⟩ := pin3 p hp
        refine ⟨z2, z3, z4, .inr ?_, fun x d e => o3.2.2.2.2.1 x d e, fun q hq => ?_⟩
        · show (hcut γ'.s.heap env.locals).objs.size ≤ p.1
          rw [hsz hγ']
          rcases o3.2.2.2.1 with z | z
          · cases z
          · have z' : (hcut γ.s.heap env.locals).objs.size ≤ p.1 := z
            rw [hsz hγ] at z'; exact z'
        · rcases List.mem_append.mp hq with z | z
          · cases z
          · rcases List.mem_cons.mp z with rfl | z
            · exact o3.2.2.2.2.2 (ga.1, o) (List.mem_append_right _ List.mem_cons_self)
            · exact o3.2.2.2.2.2 q (List.mem_append_right _ (List.mem_cons_of_mem _ z))
      have I7' : Inv (gx N env γ'.X γ'.pv γ'.H γ'.s) (((ga.1, o7) :: ip) ++ (gb.1, ob) :: pvp2) σ7 H7 s7 := I7
      have g7 := hr7.gone
      rw [egs] at g7
      refine ih ρ2 y2 γ' s7 σ7 H7 o7 st2 pvp2 gs2 hγ' hr7.isg I7'.unpinned G7 rE7 ((hfl.trans fun a u _ z => sub a u z).trans hfl7) hr7.tt (fun p hp => hr7.ips p (List.mem_append_left _ hp)) (fun q hq => hr7.igs q (List.mem_append_right _ hq)) g7 ?_ b2
      refine ⟨⟨H0, none, t0.trans hfl7, (fun _ _ z => by cases z), .inl rfl, sl⟩, (hr7.igs (gb.2, st2) (List.mem_append_left _ List.mem_cons_self)).1, fun p hp => ?_, fun q hq => hr7.igs q (List.mem_append_left _ (List.mem_cons_of_mem _ hq)), ⟨⟨ob, (pin7 _ List.mem_cons_self).1, isgb2⟩, fp7 _ List.mem_cons_self⟩, mk2, mks2⟩
      exact ⟨(pin7 p (List.mem_cons_of_mem _ hp)).1, (obj2 p hp).2.1, fp7 p (List.mem_cons_of_mem _ hp)⟩
  have tn1 : Tn ga.2 γ.og (gb.2 :: ([] : List (Nat × GenState)).map (·.1) ++ ig.map (·.1)) γ.s s1 := by
    have z := hr.gone.trans kp1.tn
    refine ⟨z.gon, fun i x e => ?_⟩
    rcases z.fr i x e with q | q | q
    · exact .inl q
    · exact .inr (.inl (List.mem_append_right _ q))
    · exact .inr (.inr q)
  exact loop xs ρ ys γ s1 σg H1 o _ pvp [] hγ hr.isg I1 (fun a o z => sub1 a o (G a o z)) (rE.tx hr.tt fun a u _ z => sub1 a u z) (hfl.trans fun a u _ z => sub1 a u z) hr.tt hr.ips igs1 tn1 gat hL
end
end DL
namespace DL
open PySem PySem.Spec L2
open PyProof.Rows hiding St
/-- numbers of tokens, fewer than n in all -/
def CntOk (l : List Int) (n : Nat) : Bool := l.all (fun x => decide (0 ≤ x)) && decide (l.sum < (n : Int)) && decide (l.sum ≤ 1000) && decide (l.length ≤ 100)
theorem cnt_inv {l : List Int} {n : Nat} (h : CntOk l n = true) : (∀ x ∈ l, 0 ≤ x) ∧ l.sum < (n : Int) ∧ l.sum ≤ 1000 ∧ l.length ≤ 100 := by
  unfold CntOk at h
  simp only [Bool.and_eq_true, List.all_eq_true, decide_eq_true_eq] at h
  exact ⟨h.1.1.1, h.1.1.2, h.1.2, h.2⟩
theorem cnt_mk {l : List Int} {n : Nat} (h1 : ∀ x ∈ l, 0 ≤ x) (h2 : l.sum < (n : Int)) (h3 : l.sum ≤ 1000) (h4 : l.length ≤ 100) : CntOk l n = true := by
  unfold CntOk
  simp only [Bool.and_eq_true, List.all_eq_true, decide_eq_true_eq]
  exact ⟨⟨⟨h1, h2⟩, h3⟩, h4⟩
theorem sum_nnN : ∀ {l : List Int}, (∀ x ∈ l, 0 ≤ x) → 0 ≤ l.sum
  | [], _ => Int.le_refl _
  | x :: l, h => by
    rw [List.sum_cons]
    have := h x List.mem_cons_self
    have := sum_nnN fun y hy => h y (List.mem_cons_of_mem _ hy)
    omega
theorem sum_geN : ∀ {l : List Int}, (∀ x ∈ l, 0 ≤ x) → ∀ x ∈ l, x ≤ l.sum
  | y :: l, h, x, hx => by
    rw [List.sum_cons]
    have h0 := h y List.mem_cons_self
    have h1 := sum_nnN fun z hz => h z (List.mem_cons_of_mem _ hz)
    rcases List.mem_cons.mp hx with rfl | hx
    · omega
    · have := sum_geN (fun z hz => h z (List.mem_cons_of_mem _ hz)) x hx
      omega
theorem nxA_zero (h : Int) : ∀ (l : List Int) (a : Nat), (∀ x ∈ l, x ≤ 0) → nxA h a l = []
  | [], _, _ => rfl
  | x :: l, a, hx => by
    rw [nxA, if_neg (fun z => by have := hx x List.mem_cons_self; omega), nxA_zero h l (a + 1) fun y hy => hx y (List.mem_cons_of_mem _ hy)]
    rfl
theorem decr_facts {l : List Int} {a : Nat} (hn : ∀ x ∈ l, 0 ≤ x) (ha : a < l.length) (hp : 0 < l.getD a 0) : (∀ x ∈ decr l a, 0 ≤ x) ∧ (decr l a).sum = l.sum - 1 ∧ (decr l a).length = l.length := by
  have e : l.getD a 0 = l[a] := by rw [List.getD_eq_getElem?_getD, List.getElem?_eq_getElem ha]; rfl
  have d : l = l.take a ++ l[a] :: l.drop (a + 1) := by
    rw [← List.drop_eq_getElem_cons ha, List.take_append_drop]
  refine ⟨fun x hx => ?_, ?_, ?_⟩
  · unfold decr at hx
    rcases List.mem_append.mp hx with hx | hx
    · exact hn x (List.mem_of_mem_take hx)
    · rcases List.mem_cons.mp hx with rfl | hx
      · omega
      · exact hn x (List.mem_of_mem_drop hx)
  · unfold decr
    have : l.sum = (l.take a).sum + (l[a] + (l.drop (a + 1)).sum) := by
      conv => lhs; rw [d]
      rw [List.sum_append, List.sum_cons]
    rw [List.sum_append, List.sum_cons, e]
    omega
  · unfold decr
    rw [List.length_append, List.length_cons, List.length_take, List.length_drop]
    omega
theorem cmpl_lenN : ∀ (n : Nat) (h : Int) (c : List Int), ∀ r ∈ cmpl n h c, r.length = n
  | 0, h, c, r, hr => by rw [cmpl, List.mem_singleton] at hr; rw [hr]; rfl
  | n + 1, h, c, r, hr => by
    rw [cmpl] at hr
    obtain ⟨a, _, hr⟩ := List.mem_flatMap.mp hr
    obtain ⟨q, hq, rfl⟩ := List.mem_map.mp hr
    rw [List.length_cons, cmpl_lenN n _ _ q hq]
noncomputable def L1_rows_from (rec : List D → Option (List D)) : GM :=
  (gYield (eTup (aCons (eVar 2) (aStar (eVar 3) aNil))))
noncomputable def L2_rows_from (rec : List D → Option (List D)) : GM :=
  (gForG (eGen rec (aCons (eOp dSub (eOp dAdd (eVar 0) (eC (.int 1))) (eVar 2)) (aCons (eUn (eCall F_taken_from (aCons (eVar 1) (aCons (eVar 2) aNil)))) aNil))) (tN 3) (L1_rows_from rec))
noncomputable def B_rows_from (rec : List D → Option (List D)) : GM :=
  (gSeq (gIf (eT (eOp (dEq false) (eCall bSum2 (aCons (eVar 1) aNil)) (eC (.int 0)))) (gYield (eTup aNil)) gNil)
    (gForG (eGen G_next_arities (aCons (eVar 0) (aCons (eVar 1) aNil))) (tN 2) (L2_rows_from rec)))
def G_rows_from (n : Nat) : List D → Option (List D) := fun ds => match ds with
  | [.int h, .tup cs] => (intsD cs).bind fun l => if CntOk l n = true then some ((cmpl l.sum.toNat h l).map ti) else none
  | _ => none
theorem rows_G {n : Nat} {h : Int} {l : List Int} (c : CntOk l n = true) : G_rows_from n [.int h, ti l] = some ((cmpl l.sum.toNat h l).map ti) := by
  show (intsD (l.map D.int)).bind _ = _
  rw [intsD_map, Option.bind_some, if_pos c]
theorem rows_inv {n : Nat} {ds xs : List D} (e : G_rows_from n ds = some xs) : ∃ h l, ds = [.int h, ti l] ∧ CntOk l n = true ∧ xs = (cmpl l.sum.toNat h l).map ti := by
  unfold G_rows_from at e
  split at e
  · rename_i h cs
    cases q : intsD cs with
    | none => rw [q] at e; cases e
    | some l =>
      rw [q, Option.bind_some] at e
      have := intsD_some q
      subst this
      split at e
      · rename_i c
        cases e
        exact ⟨h, l, rfl, c, rfl⟩
      · cases e
  · cases e
theorem ttL_ti (rs : List (List Int)) : ttL (rs.map ti) = true := by
  induction rs with
  | nil => rfl
  | cons r rs ih => rw [List.map_cons, ttL, ih]; unfold ti; rw [tt, ttL_ints]; rfl
theorem gt_rows_from {n : Nat} : ∀ ds xs, G_rows_from n ds = some xs → ttL xs = true := fun ds xs e => by
  obtain ⟨h, l, rfl, _, rfl⟩ := rows_inv e
  exact ttL_ti _
theorem gz_rows_from : ∀ {ds xs : List D}, G_rows_from 0 ds = some xs → False := fun {ds xs} e => by
  obtain ⟨h, l, rfl, c, rfl⟩ := rows_inv e
  have := cnt_inv c
  have := sum_nnN this.1
  omega
theorem rows_in (rec : List D → Option (List D)) (h : Int) (l : List Int) (a : Nat) : ∀ (rs : List (List Int)), (∀ r ∈ rs, r.length ≤ 1000) → ∀ (x3 : Option D), ttB [x3] = true → ∃ y3, ttB [y3] = true ∧ gLoop (tN 3) (L1_rows_from rec) (rs.map ti) [some (.int h), some (ti l), some (.int ((a : Nat) : Int)), x3] (rs.map fun r => ti (((a : Nat) : Int) :: r)) [some (.int h), some (ti l), some (.int ((a : Nat) : Int)), y3]
  | [], _, x3, hx => ⟨x3, hx, rfl, rfl⟩
  | r :: rs, hr, x3, hx => by
    obtain ⟨y3, h1, h2⟩ := rows_in rec h l a rs (fun y hy => hr y (List.mem_cons_of_mem _ hy)) (some (ti r)) (by simp [ttB, ti, tt, ttL_ints])
    refine ⟨y3, h1, [some (.int h), some (ti l), some (.int ((a : Nat) : Int)), some (ti r)], [ti (((a : Nat) : Int) :: r)], _, _, rfl, ttE_of (by simp [ttB, ti, tt, ttL_ints]), ⟨rfl, _, rfl, by unfold ti; rw [tt, ttL_ints], ?_⟩, h2, rfl⟩
    have hl := hr r List.mem_cons_self
    have hs : ∀ S, seqOf S (ti r) = some (r.map D.int) := fun S => rfl
    have l1 : ([D.int ((a : Nat) : Int)] ++ r.map D.int).length ≤ sizeLine := Nat.le_trans (m := 1001) (by simp; omega) (by decide)
    have l2 : (D.int ((a : Nat) : Int) :: r.map D.int).length ≤ sizeLine := l1
    have l3 : (r.map D.int).length + 1 ≤ sizeLine := l1
    have l4 : r.length + 1 ≤ sizeLine := by simpa using l3
    show eTup (aCons (eVar 2) (aStar (eVar 3) aNil)) _ [] = _
    have e : ti (((a : Nat) : Int) :: r) = .tup (D.int ((a : Nat) : Int) :: r.map D.int) := rfl
    rw [e]
    simp only [eVar, eC, eOp, eT, eAnd, eOr, eNot, eIf, eAndV, eOrV, eNotV, eCall, aNil, aCons, aStar, sOf, eTup, eFl, eLoc, eSl, oNone, oSome, iOf, eNeg, eChain, eMt, bOf, eDict0, eRev, eListRg, iZipD, sRaise1, sRaise0, eCallV, List.lookup, R.bind_ok, R.bind_er, R.bind_stuck, R.toS_ok, R.toS_er, R.toS_stuck, SR.next_nx, SR.next_rt, SR.next_er, SR.next_bk, SR.next_ct, SR.next_stuck, sNil, sSeq, sBrk, sCnt, sExp, sRet, sRetN, sIf, sSet, sAsg, sAug, sPar2, sPar3, tN, DL.tTup, DL.tNil, DL.tCons, DL.tSub, iSeq, srcOf_tup, srcOf_fl, srcOf_kl, srcOf_ti, iRange1, iRange2, sFor, startD, List.map_cons, List.map_nil, List.length_cons, List.length_nil, List.replicate, List.cons_append, List.nil_append, List.getElem?_cons_zero, List.getElem?_cons_succ, List.set_cons_zero, List.set_cons_succ, dSub_int, dFdiv_int, dMod_int, dLt_int, dLe_int, dGt_int, dGe_int, dAddI_int, dSubI_int, dIsN_non, isN, dAdd_int, ll0, ll1, ll2, ll3, ll4, ll5, ll6, ll7, ll8, ll9, ll10, ll11, ll12, ll13, ll14, ll15, ll16, ll17, ll18, ll19, ll20, ll21, ll22, ll23, ll24, ll25, ll26, ll27, ll28, ll29, ll30, ll31, ll32, ll33, ll34, ll35, ll36, ll37, ll38, ll39, ll40, Nat.reduceSub, Nat.reduceAdd, Nat.reduceEqDiff, if_true, if_false, ifp_t, ifp_f, reduceIte, Bool.true_eq_false, Bool.false_eq_true, Option.map_some, Option.map_none, Option.bind_some, Option.bind_none, hs, aStar, sOf, ifp_pos l2, ifp_pos l3, ifp_pos l4, List.append_nil, List.length_map]
theorem rows_out {n m : Nat} {h : Int} {l : List Int} (c : CntOk l (n + 1) = true) (hs : l.sum = ((m + 1 : Nat) : Int)) : ∀ (as : List Nat), (∀ a ∈ as, a < l.length ∧ 0 < l.getD a 0) → ∀ (x2 x3 : Option D), ttB [x2, x3] = true →
    ∃ ρ', gLoop (tN 2) (L2_rows_from (G_rows_from n)) (as.map fun a => .int ((a : Nat) : Int)) [some (.int h), some (ti l), x2, x3] (as.flatMap fun a => (cmpl m (h + 1 - (a : Nat)) (decr l a)).map fun r => ti (((a : Nat) : Int) :: r)) ρ'
  | [], _, x2, x3, _ => ⟨_, rfl, rfl⟩
  | a :: as, ha, x2, x3, hx => by
    obtain ⟨c1, c2, c3, c4⟩ := cnt_inv c
    obtain ⟨a1, a2⟩ := ha a List.mem_cons_self
    obtain ⟨d1, d2, d3⟩ := decr_facts c1 a1 a2
    have t3 : ttB [x3] = true := by
      revert hx
      cases x2 <;> cases x3 <;> simp [ttB]
    have cd : CntOk (decr l a) n = true := cnt_mk d1 (by omega) (by omega) (by omega)
    have em : (decr l a).sum.toNat = m := by omega
    obtain ⟨y3, i1, i2⟩ := rows_in (G_rows_from n) h l a (cmpl m (h + 1 - (a : Nat)) (decr l a)) (fun r hr => by rw [cmpl_lenN _ _ _ r hr]; omega) x3 t3
    obtain ⟨ρ', o⟩ := rows_out (n := n) (h := h) c hs as (fun b hb => ha b (List.mem_cons_of_mem _ hb)) (some (.int ((a : Nat) : Int))) y3 (by
      revert i1
      cases y3 <;> simp [ttB, tt])
    refine ⟨ρ', [some (.int h), some (ti l), some (.int ((a : Nat) : Int)), x3], _, _, _, rfl, ttE_of (by
      revert t3
      cases x3 <;> simp [ttB, ti, tt, ttL_ints]), ⟨_, ?_, i2⟩, o, by rw [List.flatMap_cons]⟩
    have tk := taken_ok (c := l) a1 c4
    have un : ∀ (f : Ev → Sto → R D) ρ, f ρ [] = .ok (.ktp ((decr l a).map D.int)) [] → eUn f ρ [] = .ok (ti (decr l a)) [] := fun f ρ hf => by unfold eUn; rw [hf]; rfl
    have ag : (aCons (eOp dSub (eOp dAdd (eVar 0) (eC (.int 1))) (eVar 2)) (aCons (eUn (eCall F_taken_from (aCons (eVar 1) (aCons (eVar 2) aNil)))) aNil)) [some (.int h), some (ti l), some (.int ((a : Nat) : Int)), x3] [] = .ok [.int (h + 1 - (a : Nat)), ti (decr l a)] [] := by
      have u := un (eCall F_taken_from (aCons (eVar 1) (aCons (eVar 2) aNil))) [some (.int h), some (ti l), some (.int ((a : Nat) : Int)), x3] (by
        generalize ti l = TL at *
        simp only [eVar, eC, eOp, eT, eAnd, eOr, eNot, eIf, eAndV, eOrV, eNotV, eCall, aNil, aCons, aStar, sOf, eTup, eFl, eLoc, eSl, oNone, oSome, iOf, eNeg, eChain, eMt, bOf, eDict0, eRev, eListRg, iZipD, sRaise1, sRaise0, eCallV, List.lookup, R.bind_ok, R.bind_er, R.bind_stuck, R.toS_ok, R.toS_er, R.toS_stuck, SR.next_nx, SR.next_rt, SR.next_er, SR.next_bk, SR.next_ct, SR.next_stuck, sNil, sSeq, sBrk, sCnt, sExp, sRet, sRetN, sIf, sSet, sAsg, sAug, sPar2, sPar3, tN, DL.tTup, DL.tNil, DL.tCons, DL.tSub, iSeq, srcOf_tup, srcOf_fl, srcOf_kl, srcOf_ti, iRange1, iRange2, sFor, startD, List.map_cons, List.map_nil, List.length_cons, List.length_nil, List.replicate, List.cons_append, List.nil_append, List.getElem?_cons_zero, List.getElem?_cons_succ, List.set_cons_zero, List.set_cons_succ, dSub_int, dFdiv_int, dMod_int, dLt_int, dLe_int, dGt_int, dGe_int, dAddI_int, dSubI_int, dIsN_non, isN, dAdd_int, ll0, ll1, ll2, ll3, ll4, ll5, ll6, ll7, ll8, ll9, ll10, ll11, ll12, ll13, ll14, ll15, ll16, ll17, ll18, ll19, ll20, ll21, ll22, ll23, ll24, ll25, ll26, ll27, ll28, ll29, ll30, ll31, ll32, ll33, ll34, ll35, ll36, ll37, ll38, ll39, ll40, Nat.reduceSub, Nat.reduceAdd, Nat.reduceEqDiff, if_true, if_false, ifp_t, ifp_f, reduceIte, Bool.true_eq_false, Bool.false_eq_true, Option.map_some, Option.map_none, Option.bind_some, Option.bind_none, tk])
      generalize eUn (eCall F_taken_from (aCons (eVar 1) (aCons (eVar 2) aNil))) = U at *
      generalize ti (decr l a) = TD at *
      generalize ti l = TL at *
      simp only [eVar, eC, eOp, eT, eAnd, eOr, eNot, eIf, eAndV, eOrV, eNotV, eCall, aNil, aCons, aStar, sOf, eTup, eFl, eLoc, eSl, oNone, oSome, iOf, eNeg, eChain, eMt, bOf, eDict0, eRev, eListRg, iZipD, sRaise1, sRaise0, eCallV, List.lookup, R.bind_ok, R.bind_er, R.bind_stuck, R.toS_ok, R.toS_er, R.toS_stuck, SR.next_nx, SR.next_rt, SR.next_er, SR.next_bk, SR.next_ct, SR.next_stuck, sNil, sSeq, sBrk, sCnt, sExp, sRet, sRetN, sIf, sSet, sAsg, sAug, sPar2, sPar3, tN, DL.tTup, DL.tNil, DL.tCons, DL.tSub, iSeq, srcOf_tup, srcOf_fl, srcOf_kl, srcOf_ti, iRange1, iRange2, sFor, startD, List.map_cons, List.map_nil, List.length_cons, List.length_nil, List.replicate, List.cons_append, List.nil_append, List.getElem?_cons_zero, List.getElem?_cons_succ, List.set_cons_zero, List.set_cons_succ, dSub_int, dFdiv_int, dMod_int, dLt_int, dLe_int, dGt_int, dGe_int, dAddI_int, dSubI_int, dIsN_non, isN, dAdd_int, ll0, ll1, ll2, ll3, ll4, ll5, ll6, ll7, ll8, ll9, ll10, ll11, ll12, ll13, ll14, ll15, ll16, ll17, ll18, ll19, ll20, ll21, ll22, ll23, ll24, ll25, ll26, ll27, ll28, ll29, ll30, ll31, ll32, ll33, ll34, ll35, ll36, ll37, ll38, ll39, ll40, Nat.reduceSub, Nat.reduceAdd, Nat.reduceEqDiff, if_true, if_false, ifp_t, ifp_f, reduceIte, Bool.true_eq_false, Bool.false_eq_true, Option.map_some, Option.map_none, Option.bind_some, Option.bind_none, u, dSub_int, dAdd_int]
    unfold eGen
    rw [ag]
    simp only [R.bind]
    rw [if_pos (by unfold ti; rw [ttL, tt, ttL, tt, ttL_ints]; rfl), rows_G cd, em]
theorem gb_rows_from (n : Nat) : ∀ ds xs, G_rows_from (n + 1) ds = some xs → ds.length = 2 ∧ ∃ ρ', B_rows_from (G_rows_from n) (startD 4 ds) xs ρ' := fun ds xs e => by
  obtain ⟨h, l, rfl, c, rfl⟩ := rows_inv e
  refine ⟨rfl, ?_⟩
  obtain ⟨c1, c2, c3, c4⟩ := cnt_inv c
  have s0 := sum_nnN c1
  have nx := next_ok h l
  have gx : eGen G_next_arities (aCons (eVar 0) (aCons (eVar 1) aNil)) [some (.int h), some (ti l), none, none] [] = .ok ((nxA h 0 l).map fun a => .int ((a : Nat) : Int)) [] := by
    have ag : (aCons (eVar 0) (aCons (eVar 1) aNil)) [some (.int h), some (ti l), none, none] [] = .ok [.int h, ti l] [] := by
      generalize ti l = TL at *
      simp only [eVar, eC, eOp, eT, eAnd, eOr, eNot, eIf, eAndV, eOrV, eNotV, eCall, aNil, aCons, aStar, sOf, eTup, eFl, eLoc, eSl, oNone, oSome, iOf, eNeg, eChain, eMt, bOf, eDict0, eRev, eListRg, iZipD, sRaise1, sRaise0, eCallV, List.lookup, R.bind_ok, R.bind_er, R.bind_stuck, R.toS_ok, R.toS_er, R.toS_stuck, SR.next_nx, SR.next_rt, SR.next_er, SR.next_bk, SR.next_ct, SR.next_stuck, sNil, sSeq, sBrk, sCnt, sExp, sRet, sRetN, sIf, sSet, sAsg, sAug, sPar2, sPar3, tN, DL.tTup, DL.tNil, DL.tCons, DL.tSub, iSeq, srcOf_tup, srcOf_fl, srcOf_kl, srcOf_ti, iRange1, iRange2, sFor, startD, List.map_cons, List.map_nil, List.length_cons, List.length_nil, List.replicate, List.cons_append, List.nil_append, List.getElem?_cons_zero, List.getElem?_cons_succ, List.set_cons_zero, List.set_cons_succ, dSub_int, dFdiv_int, dMod_int, dLt_int, dLe_int, dGt_int, dGe_int, dAddI_int, dSubI_int, dIsN_non, isN, dAdd_int, ll0, ll1, ll2, ll3, ll4, ll5, ll6, ll7, ll8, ll9, ll10, ll11, ll12, ll13, ll14, ll15, ll16, ll17, ll18, ll19, ll20, ll21, ll22, ll23, ll24, ll25, ll26, ll27, ll28, ll29, ll30, ll31, ll32, ll33, ll34, ll35, ll36, ll37, ll38, ll39, ll40, Nat.reduceSub, Nat.reduceAdd, Nat.reduceEqDiff, if_true, if_false, ifp_t, ifp_f, reduceIte, Bool.true_eq_false, Bool.false_eq_true, Option.map_some, Option.map_none, Option.bind_some, Option.bind_none]
    unfold eGen
    rw [ag]
    simp only [R.bind]
    rw [if_pos (by unfold ti; rw [ttL, tt, ttL, tt, ttL_ints]; rfl)]
    have nx' : G_next_arities [.int h, ti l] = some ((nxA h 0 l).map fun a => .int ((a : Nat) : Int)) := nx
    rw [nx']
  have sm : bSum2 [ti l] [] = .ok (.int l.sum) [] := ti_sum l []
  have hst : startD 4 [D.int h, ti l] = [some (.int h), some (ti l), none, none] := rfl
  rw [hst]
  by_cases hz : l.sum = 0
  · have e0 : ∀ S, dEq false (.int l.sum) (.int 0) S = .ok (.bl true) S := fun S => by rw [hz]; rfl
    have em : nxA h 0 l = [] := nxA_zero h l 0 fun x hx => by have := sum_geN c1 x hx; omega
    refine ⟨[some (.int h), some (ti l), none, none], [.tup []], [some (.int h), some (ti l), none, none], [], ⟨true, ?_, ?_⟩, ⟨[], by rw [gx, em]; rfl, rfl, rfl⟩, ?_⟩
    · generalize ti l = TL at *
      simp only [eVar, eC, eOp, eT, eAnd, eOr, eNot, eIf, eAndV, eOrV, eNotV, eCall, aNil, aCons, aStar, sOf, eTup, eFl, eLoc, eSl, oNone, oSome, iOf, eNeg, eChain, eMt, bOf, eDict0, eRev, eListRg, iZipD, sRaise1, sRaise0, eCallV, List.lookup, R.bind_ok, R.bind_er, R.bind_stuck, R.toS_ok, R.toS_er, R.toS_stuck, SR.next_nx, SR.next_rt, SR.next_er, SR.next_bk, SR.next_ct, SR.next_stuck, sNil, sSeq, sBrk, sCnt, sExp, sRet, sRetN, sIf, sSet, sAsg, sAug, sPar2, sPar3, tN, DL.tTup, DL.tNil, DL.tCons, DL.tSub, iSeq, srcOf_tup, srcOf_fl, srcOf_kl, srcOf_ti, iRange1, iRange2, sFor, startD, List.map_cons, List.map_nil, List.length_cons, List.length_nil, List.replicate, List.cons_append, List.nil_append, List.getElem?_cons_zero, List.getElem?_cons_succ, List.set_cons_zero, List.set_cons_succ, dSub_int, dFdiv_int, dMod_int, dLt_int, dLe_int, dGt_int, dGe_int, dAddI_int, dSubI_int, dIsN_non, isN, dAdd_int, ll0, ll1, ll2, ll3, ll4, ll5, ll6, ll7, ll8, ll9, ll10, ll11, ll12, ll13, ll14, ll15, ll16, ll17, ll18, ll19, ll20, ll21, ll22, ll23, ll24, ll25, ll26, ll27, ll28, ll29, ll30, ll31, ll32, ll33, ll34, ll35, ll36, ll37, ll38, ll39, ll40, Nat.reduceSub, Nat.reduceAdd, Nat.reduceEqDiff, if_true, if_false, ifp_t, ifp_f, reduceIte, Bool.true_eq_false, Bool.false_eq_true, Option.map_some, Option.map_none, Option.bind_some, Option.bind_none, sm, e0]
    · rw [if_pos rfl]
      refine ⟨rfl, .tup [], rfl, rfl, ?_⟩
      show eTup aNil _ [] = _
      have t0 : (ifp (([] : List D).length ≤ sizeLine) (R.ok (D.tup []) []) .stuck : R D) = .ok (.tup []) [] := ifp_pos (Nat.zero_le _)
      simp only [eVar, eC, eOp, eT, eAnd, eOr, eNot, eIf, eAndV, eOrV, eNotV, eCall, aNil, aCons, aStar, sOf, eTup, eFl, eLoc, eSl, oNone, oSome, iOf, eNeg, eChain, eMt, bOf, eDict0, eRev, eListRg, iZipD, sRaise1, sRaise0, eCallV, List.lookup, R.bind_ok, R.bind_er, R.bind_stuck, R.toS_ok, R.toS_er, R.toS_stuck, SR.next_nx, SR.next_rt, SR.next_er, SR.next_bk, SR.next_ct, SR.next_stuck, sNil, sSeq, sBrk, sCnt, sExp, sRet, sRetN, sIf, sSet, sAsg, sAug, sPar2, sPar3, tN, DL.tTup, DL.tNil, DL.tCons, DL.tSub, iSeq, srcOf_tup, srcOf_fl, srcOf_kl, srcOf_ti, iRange1, iRange2, sFor, startD, List.map_cons, List.map_nil, List.length_cons, List.length_nil, List.replicate, List.cons_append, List.nil_append, List.getElem?_cons_zero, List.getElem?_cons_succ, List.set_cons_zero, List.set_cons_succ, dSub_int, dFdiv_int, dMod_int, dLt_int, dLe_int, dGt_int, dGe_int, dAddI_int, dSubI_int, dIsN_non, isN, dAdd_int, ll0, ll1, ll2, ll3, ll4, ll5, ll6, ll7, ll8, ll9, ll10, ll11, ll12, ll13, ll14, ll15, ll16, ll17, ll18, ll19, ll20, ll21, ll22, ll23, ll24, ll25, ll26, ll27, ll28, ll29, ll30, ll31, ll32, ll33, ll34, ll35, ll36, ll37, ll38, ll39, ll40, Nat.reduceSub, Nat.reduceAdd, Nat.reduceEqDiff, if_true, if_false, ifp_t, ifp_f, reduceIte, Bool.true_eq_false, Bool.false_eq_true, Option.map_some, Option.map_none, Option.bind_some, Option.bind_none, t0]
    · rw [hz]
      rfl
  · obtain ⟨m, hm⟩ : ∃ m : Nat, l.sum = ((m + 1 : Nat) : Int) := ⟨l.sum.toNat - 1, by omega⟩
    have e0 : ∀ S, dEq false (.int l.sum) (.int 0) S = .ok (.bl false) S := fun S => by
      have e : (l.sum == 0) = false := by simpa using hz
      rw [dEq_int, e]; rfl
    have ha : ∀ a ∈ nxA h 0 l, a < l.length ∧ 0 < l.getD a 0 := fun a hm => by
      have := nx_mem hm
      exact ⟨by omega, by simpa using this.2.2.1⟩
    obtain ⟨ρ', o⟩ := rows_out (n := n) (h := h) c hm (nxA h 0 l) ha none none rfl
    refine ⟨ρ', [], [some (.int h), some (ti l), none, none], _, ⟨false, ?_, ?_⟩, ⟨_, gx, o⟩, ?_⟩
    · generalize ti l = TL at *
      simp only [eVar, eC, eOp, eT, eAnd, eOr, eNot, eIf, eAndV, eOrV, eNotV, eCall, aNil, aCons, aStar, sOf, eTup, eFl, eLoc, eSl, oNone, oSome, iOf, eNeg, eChain, eMt, bOf, eDict0, eRev, eListRg, iZipD, sRaise1, sRaise0, eCallV, List.lookup, R.bind_ok, R.bind_er, R.bind_stuck, R.toS_ok, R.toS_er, R.toS_stuck, SR.next_nx, SR.next_rt, SR.next_er, SR.next_bk, SR.next_ct, SR.next_stuck, sNil, sSeq, sBrk, sCnt, sExp, sRet, sRetN, sIf, sSet, sAsg, sAug, sPar2, sPar3, tN, DL.tTup, DL.tNil, DL.tCons, DL.tSub, iSeq, srcOf_tup, srcOf_fl, srcOf_kl, srcOf_ti, iRange1, iRange2, sFor, startD, List.map_cons, List.map_nil, List.length_cons, List.length_nil, List.replicate, List.cons_append, List.nil_append, List.getElem?_cons_zero, List.getElem?_cons_succ, List.set_cons_zero, List.set_cons_succ, dSub_int, dFdiv_int, dMod_int, dLt_int, dLe_int, dGt_int, dGe_int, dAddI_int, dSubI_int, dIsN_non, isN, dAdd_int, ll0, ll1, ll2, ll3, ll4, ll5, ll6, ll7, ll8, ll9, ll10, ll11, ll12, ll13, ll14, ll15, ll16, ll17, ll18, ll19, ll20, ll21, ll22, ll23, ll24, ll25, ll26, ll27, ll28, ll29, ll30, ll31, ll32, ll33, ll34, ll35, ll36, ll37, ll38, ll39, ll40, Nat.reduceSub, Nat.reduceAdd, Nat.reduceEqDiff, if_true, if_false, ifp_t, ifp_f, reduceIte, Bool.true_eq_false, Bool.false_eq_true, Option.map_some, Option.map_none, Option.bind_some, Option.bind_none, sm, e0]
    · rw [if_neg (by decide)]
      exact ⟨rfl, rfl⟩
    · rw [hm, Int.toNat_natCast, cmpl, List.nil_append, List.map_flatMap]
      congr 1
      funext a
      rw [List.map_map]
      rfl
/-- each_ready -/
def G_each_ready : List D → Option (List D) := fun ds => match ds with
  | [.tup cs] => G_rows_from 40 [.int 0, .tup cs]
  | _ => none
noncomputable def B_each_ready : GM := gYf (eGen (G_rows_from 40) (aCons (eC (.int 0)) (aCons (eCall bTuple (aCons (eVar 0) aNil)) aNil)))
theorem gt_each_ready : ∀ ds xs, G_each_ready ds = some xs → ttL xs = true := fun ds xs e => by
  unfold G_each_ready at e
  split at e
  · exact gt_rows_from _ _ e
  · cases e
theorem gb_each_ready : ∀ ds xs, G_each_ready ds = some xs → ds.length = 1 ∧ ∃ ρ', B_each_ready (startD 1 ds) xs ρ' := fun ds xs e => by
  unfold G_each_ready at e
  split at e
  · rename_i cs
    refine ⟨rfl, [some (.tup cs)], rfl, ?_⟩
    obtain ⟨h, l, e1, c, rfl⟩ := rows_inv e
    have e2 : h = 0 ∧ cs = l.map D.int := by
      simp only [List.cons.injEq, D.int.injEq] at e1
      unfold ti at e1
      exact ⟨e1.1.symm, by simpa using e1.2.1⟩
    obtain ⟨rfl, rfl⟩ := e2
    have tp : bTuple [D.tup (l.map D.int)] [] = .ok (.tup (l.map D.int)) [] := rfl
    have ag : (aCons (eC (.int 0)) (aCons (eCall bTuple (aCons (eVar 0) aNil)) aNil)) [some (.tup (l.map D.int))] [] = .ok [.int 0, .tup (l.map D.int)] [] := by
      generalize D.tup (l.map D.int) = TL at *
      simp only [eVar, eC, eOp, eT, eAnd, eOr, eNot, eIf, eAndV, eOrV, eNotV, eCall, aNil, aCons, aStar, sOf, eTup, eFl, eLoc, eSl, oNone, oSome, iOf, eNeg, eChain, eMt, bOf, eDict0, eRev, eListRg, iZipD, sRaise1, sRaise0, eCallV, List.lookup, R.bind_ok, R.bind_er, R.bind_stuck, R.toS_ok, R.toS_er, R.toS_stuck, SR.next_nx, SR.next_rt, SR.next_er, SR.next_bk, SR.next_ct, SR.next_stuck, sNil, sSeq, sBrk, sCnt, sExp, sRet, sRetN, sIf, sSet, sAsg, sAug, sPar2, sPar3, tN, DL.tTup, DL.tNil, DL.tCons, DL.tSub, iSeq, srcOf_tup, srcOf_fl, srcOf_kl, srcOf_ti, iRange1, iRange2, sFor, startD, List.map_cons, List.map_nil, List.length_cons, List.length_nil, List.replicate, List.cons_append, List.nil_append, List.getElem?_cons_zero, List.getElem?_cons_succ, List.set_cons_zero, List.set_cons_succ, dSub_int, dFdiv_int, dMod_int, dLt_int, dLe_int, dGt_int, dGe_int, dAddI_int, dSubI_int, dIsN_non, isN, dAdd_int, ll0, ll1, ll2, ll3, ll4, ll5, ll6, ll7, ll8, ll9, ll10, ll11, ll12, ll13, ll14, ll15, ll16, ll17, ll18, ll19, ll20, ll21, ll22, ll23, ll24, ll25, ll26, ll27, ll28, ll29, ll30, ll31, ll32, ll33, ll34, ll35, ll36, ll37, ll38, ll39, ll40, Nat.reduceSub, Nat.reduceAdd, Nat.reduceEqDiff, if_true, if_false, ifp_t, ifp_f, reduceIte, Bool.true_eq_false, Bool.false_eq_true, Option.map_some, Option.map_none, Option.bind_some, Option.bind_none, tp]
    show eGen _ _ [some (.tup (l.map D.int))] [] = _
    unfold eGen
    rw [ag]
    simp only [R.bind]
    rw [if_pos (by rw [ttL, tt, ttL, tt, ttL_ints]; rfl), e]
  · cases e
theorem each_G {l : List Int} (c : CntOk l 40 = true) : G_each_ready [ti l] = some ((cmpl l.sum.toNat 0 l).map ti) := rows_G c
end DL
namespace DL
open PySem PySem.Spec L2
open PyProof.Rows hiding St
structure ZE (X : Cx) (e : Expr) (t : TE) : Prop where
  run : ∀ (pins : List (Addr × Obj)) (s : Shared) (σ : L2.St) (H : Hp) (Q : VK), Inv X pins σ H s → t σ H Q → wpAny (mY X.prog X.w) X.A (eval e X.env) (fun u s' => EP X pins σ Q u s' ∧ KeptU s s') (fun e s' => X.xe e s' ∧ KeptU s s') s
structure ZS (X : Cx) (st : Stmt) (t : TS) : Prop where
  run : ∀ (pins : List (Addr × Obj)) (s : Shared) (σ : L2.St) (H : Hp) (D : Ends), Inv X pins σ H s → t D σ H → wpAny (mY X.prog X.w) X.A (exec st X.env) (fun u s' => SP X pins D u s' ∧ KeptU s s') (fun e s' => X.xe e s' ∧ KeptU s s') s
structure ZSs (X : Cx) (st : List Stmt) (t : TS) : Prop where
  run : ∀ (pins : List (Addr × Obj)) (s : Shared) (σ : L2.St) (H : Hp) (D : Ends), Inv X pins σ H s → t D σ H → wpAny (mY X.prog X.w) X.A (execs st X.env) (fun u s' => SP X pins D u s' ∧ KeptU s s') (fun e s' => X.xe e s' ∧ KeptU s s') s
section
variable {X : Cx} {e : Expr} {st : Stmt} {rest : List Stmt} {te : TE} {t u : TS} {tc : L2.TT} {pos : Pos}
theorem ZE.imp {t u : TE} (h : ZE X e t) (i : ∀ σ H Q, u σ H Q → t σ H Q) : ZE X e u := ⟨fun pins s σ H Q I q => h.run pins s σ H Q I (i σ H Q q)⟩
theorem ZS.imp (h : ZS X st t) (i : ∀ D σ H, u D σ H → t D σ H) : ZS X st u := ⟨fun pins s σ H D I q => h.run pins s σ H D I (i D σ H q)⟩
theorem ZSs.imp (h : ZSs X rest t) (i : ∀ D σ H, u D σ H → t D σ H) : ZSs X rest u := ⟨fun pins s σ H D I q => h.run pins s σ H D I (i D σ H q)⟩
end
end DL
namespace DL
open PySem PySem.Spec L2 GenW
open PyProof.Rows hiding St
end DL
namespace DL
open PySem PySem.Spec L2 GenW
open PyProof.Rows hiding St
end DL
namespace DL
open PySem PySem.Spec L2 GenW
open PyProof.Rows hiding St
end DL
namespace TX
open PySem PySem.Spec L2 DL
open PyProof.Rows hiding St
def topS (i : Nat) : Stmt := PySem.Challenge.pw_ringpostfix_k46_whole_share_of_ready_row.main.body.getD i (.Pass ⟨0, 0, 0, 0⟩)
abbrev st__law_stream : Stmt := topS 20
abbrev nm__law_stream : List Str := ["_law_script", "_law_cells", "_law_cell"]
abbrev st__law_draw : Stmt := topS 21
abbrev nm__law_draw : List Str := ["_law_stream_here", "_law_many", "_law_rest", "_law_turn", "_law_cell", "_law_mixed"]
abbrev st__law_pick : Stmt := topS 22
abbrev nm__law_pick : List Str := ["_law_stream_here", "_law_items"]
abbrev st__law_counts : Stmt := topS 24
abbrev nm__law_counts : List Str := ["_law_stream_here", "_law_most", "_law_menus", "_law_counts_here", "_law_menu", "_law_k", "_law_token"]
abbrev st__law_less : Stmt := topS 25
abbrev nm__law_less : List Str := ["_law_counts_here", "_law_token"]
abbrev st__law_orders : Stmt := topS 26
abbrev nm__law_orders : List Str := ["_law_counts_here", "_law_found", "_law_token", "_law_many", "_law_rest"]
abbrev st_count_rows : Stmt := topS 13
abbrev nm_count_rows : List Str := ["counts", "found", "size", "many", "step"]
abbrev st_heights_of : Stmt := topS 6
abbrev nm_heights_of : List Str := ["row", "found", "height", "arity"]
abbrev st_need_of : Stmt := topS 7
abbrev nm_need_of : List Str := ["row"]
abbrev st_is_integer : Stmt := topS 3
abbrev nm_is_integer : List Str := ["value", "low", "high"]
abbrev st_check_place : Stmt := topS 4
abbrev nm_check_place : List Str := ["ring", "value"]
abbrev st_turned : Stmt := topS 5
abbrev nm_turned : List Str := ["ring", "place"]
abbrev st_need : Stmt := topS 8
abbrev nm_need : List Str := ["ring", "place"]
abbrev st_beginnings : Stmt := topS 10
abbrev nm_beginnings : List Str := ["ring", "place"]
abbrev st__law_missing : Stmt := topS 23
abbrev nm__law_missing : List Str := ["_law_row", "_law_depth", "_law_missing_here", "_law_token"]
abbrev st__law_ready_orders : Stmt := topS 27
abbrev nm__law_ready_orders : List Str := ["_law_counts_here", "_law_row"]
abbrev st_balance_of : Stmt := topS 12
abbrev nm_balance_of : List Str := ["counts", "arity", "many"]
abbrev st_count_ready : Stmt := topS 14
abbrev nm_count_ready : List Str := ["counts"]
abbrev st__law_surplus : Stmt := topS 28
abbrev nm__law_surplus : List Str := ["_law_counts_here", "_law_token", "_law_many"]
abbrev st_next_arities : Stmt := topS 16
abbrev nm_next_arities : List Str := ["height", "counts", "arity", "many"]
abbrev st_taken_from : Stmt := topS 15
abbrev nm_taken_from : List Str := ["counts", "arity"]
abbrev st_rows_from : Stmt := topS 17
abbrev nm_rows_from : List Str := ["height", "counts", "arity", "rest"]
abbrev st_each_ready : Stmt := topS 18
abbrev nm_each_ready : List Str := ["counts"]
abbrev st_law : Stmt := topS 29
abbrev nm_law : List Str := ["_law_script", "_law_stream_here", "_law_turn", "_law_counts_here", "_law_rows", "_law_size", "_law_fine", "_law_row"]
noncomputable def L1__law_counts (ρ : Ev) (S : Sto) : SR :=
  (sSeq (sSet 6 (eCall F__law_pick (aCons (eVar 0) (aCons (eVar 4) aNil))))
    (sAsg (eOp dAdd (eOp dIx (eVar 3) (eVar 6)) (eC (.int 1))) (tSub (eVar 3) (eVar 6)))) ρ S
noncomputable def B__law_counts : Ev → Sto → SR :=
  (sSeq (sSet 2 (eFl (aCons (eFl (aCons (eC (.int 0)) (aCons (eC (.int 0)) (aCons (eC (.int 1)) (aCons (eC (.int 2)) aNil))))) (aCons (eFl (aCons (eC (.int 0)) (aCons (eC (.int 0)) (aCons (eC (.int 0)) (aCons (eC (.int 2)) (aCons (eC (.int 3)) aNil)))))) (aCons (eFl (aCons (eC (.int 0)) (aCons (eC (.int 1)) aNil))) (aCons (eFl (aCons (eC (.int 0)) (aCons (eC (.int 0)) (aCons (eC (.int 0)) (aCons (eC (.int 0)) (aCons (eC (.int 4)) (aCons (eC (.int 5)) (aCons (eC (.int 1)) aNil)))))))) (aCons (eFl (aCons (eC (.int 0)) (aCons (eC (.int 2)) aNil))) (aCons (eFl (aCons (eC (.int 1)) (aCons (eC (.int 2)) aNil))) aNil))))))))
    (sSeq (sPar2 3 4 (aCons (eOp dMulL (eFl (aCons (eC (.int 0)) aNil)) (eC (.int 6))) (aCons (eCall F__law_pick (aCons (eVar 0) (aCons (eVar 2) aNil))) aNil)))
    (sSeq (sFor (iRange1 (aCons (eOp dAdd (eC (.int 1)) (eCall F__law_draw (aCons (eVar 0) (aCons (eVar 1) aNil)))) aNil)) (tN 5) L1__law_counts sNil)
    (sRet (eCall bTuple (aCons (eVar 3) aNil))))))
noncomputable def F__law_counts : Fn := fnC close 7 2 B__law_counts
noncomputable def B__law_less : Ev → Sto → SR :=
  (sRet (eOp dAdd (eOp dAdd (eSl mkFl (eVar 0) oNone (oSome (eVar 1))) (eTup (aCons (eOp dSub (eOp dIx (eVar 0) (eVar 1)) (eC (.int 1))) aNil))) (eSl mkFl (eVar 0) (oSome (eOp dAdd (eVar 1) (eC (.int 1)))) oNone)))
noncomputable def F__law_less : Fn := fnC close 2 2 B__law_less
noncomputable def E1__law_orders (rec : Fn) (ρ : Ev) (S : Sto) : R D :=
  (eOp dAdd (eTup (aCons (eVar 2) aNil)) (eVar 4)) ρ S
noncomputable def L1__law_orders (rec : Fn) (ρ : Ev) (S : Sto) : SR :=
  (sIf (eT (eOp dGt (eVar 3) (eC (.int 0)))) (sExp (eMt isLst mExtend (eVar 1) (aCons (eLc finFl (iSeq (eCall rec (aCons (eCall F__law_less (aCons (eVar 0) (aCons (eVar 2) aNil))) aNil))) (tN 4) [4] cYes (E1__law_orders rec)) aNil))) sNil) ρ S
noncomputable def B__law_orders (rec : Fn) : Ev → Sto → SR :=
  (sSeq (sIf (eT (eOp (dEq false) (eCall bSum2 (aCons (eVar 0) aNil)) (eC (.int 0)))) (sRet (eFl (aCons (eTup aNil) aNil))) sNil)
    (sSeq (sSet 1 (eLoc aNil))
    (sSeq (sFor (iEnumD (aCons (eVar 0) aNil)) (tTup 2 (tCons (tN 2) (tCons (tN 3) tNil))) (L1__law_orders rec) sNil)
    (sRet (eVar 1)))))
noncomputable def F__law_orders : Nat → Fn
  | 0 => fun _ _ => .stuck
  | n + 1 => fnC close 5 1 (B__law_orders (F__law_orders n))
noncomputable def E1__law_ready_orders (ρ : Ev) (S : Sto) : R D :=
  (eVar 1) ρ S
noncomputable def Q1__law_ready_orders (ρ : Ev) (S : Sto) : R Bool :=
  (eT (eOp (dEq false) (eOp dIx (eCall F__law_missing (aCons (eVar 1) aNil)) (eC (.int 0))) (eC (.int 0)))) ρ S
noncomputable def B__law_ready_orders : Ev → Sto → SR :=
  (sRet (eLc finFl (iSeq (eCall (F__law_orders 40) (aCons (eVar 0) aNil))) (tN 1) [1] Q1__law_ready_orders E1__law_ready_orders))
noncomputable def F__law_ready_orders : Fn := fnC close 2 1 B__law_ready_orders
noncomputable def B_count_ready : Ev → Sto → SR :=
  (sRet (eOp dFdiv (eOp dMulT (eCall F_count_rows (aCons (eVar 0) aNil)) (eCall bMax (aCons (eC (.int 0)) (aCons (eCall F_balance_of (aCons (eVar 0) aNil)) aNil)))) (eCall bSum2 (aCons (eVar 0) aNil))))
noncomputable def F_count_ready : Fn := fnC close 1 1 B_count_ready
noncomputable def E1__law_surplus (ρ : Ev) (S : Sto) : R D :=
  (eOp dMulT (eVar 1) (eVar 2)) ρ S
noncomputable def B__law_surplus : Ev → Sto → SR :=
  (sRet (eOp dSub (eCall bSum2 (aCons (eVar 0) aNil)) (eCall bSum2 (aCons (eLc finFl (iEnumD (aCons (eVar 0) aNil)) (tTup 2 (tCons (tN 1) (tCons (tN 2) tNil))) [1, 2] cYes E1__law_surplus) aNil))))
noncomputable def F__law_surplus : Fn := fnC close 3 1 B__law_surplus
noncomputable def E1_law (ρ : Ev) (S : Sto) : R D :=
  (eVar 7) ρ S
noncomputable def Q1_law (ρ : Ev) (S : Sto) : R Bool :=
  (eT (eOp (dIn false) (eC (.int 0)) (eCall F_beginnings (aCons (eVar 7) aNil)))) ρ S
noncomputable def L1_law (ρ : Ev) (S : Sto) : SR :=
  (sSeq (sSet 3 (eCall F__law_counts (aCons (eVar 1) (aCons (eC (.int 6)) aNil))))
    (sSeq (sPar2 4 5 (aCons (eCall (F__law_orders 40) (aCons (eVar 3) aNil)) (aCons (eCall bSum2 (aCons (eVar 3) aNil)) aNil)))
    (sSeq (sIf (eOr (eT (eOp (dEq true) (eCall bLen (aCons (eVar 4) aNil)) (eCall F_count_rows (aCons (eVar 3) aNil)))) (eT (eOp (dEq true) (eLenSet (eVar 4)) (eCall bLen (aCons (eVar 4) aNil))))) (sRet (eC (.bl false))) sNil)
    (sSeq (sSet 6 (eLc finFl (iSeq (eVar 4)) (tN 7) [7] Q1_law E1_law))
    (sSeq (sIf (eOr (eT (eOp (dEq true) (eVar 6) (eCall F__law_ready_orders (aCons (eVar 3) aNil)))) (eT (eOp (dEq true) (eCall F_count_ready (aCons (eVar 3) aNil)) (eCall bLen (aCons (eVar 6) aNil))))) (sRet (eC (.bl false))) sNil)
    (sSeq (sIf (eT (eOp (dEq true) (eOp dMulT (eCall bLen (aCons (eVar 6) aNil)) (eVar 5)) (eOp dMulT (eCall bLen (aCons (eVar 4) aNil)) (eCall bMax (aCons (eC (.int 0)) (aCons (eCall F__law_surplus (aCons (eVar 3) aNil)) aNil)))))) (sRet (eC (.bl false))) sNil)
    (sIf (eT (eOp (dEq true) (eListG (eGen G_each_ready (aCons (eVar 3) aNil))) (eVar 6))) (sRet (eC (.bl false))) sNil))))))) ρ S
noncomputable def B_law : Ev → Sto → SR :=
  (sSeq (sSet 1 (eCall F__law_stream (aCons (eVar 0) aNil)))
    (sSeq (sFor (iRange1 (aCons (eC (.int 4)) aNil)) (tN 2) L1_law sNil)
    (sRet (eC (.bl true)))))
noncomputable def F_law : Fn := fnC close 8 1 B_law
end TX
namespace TX
open PySem PySem.Spec L2 DL
open PyProof.Rows hiding St
def nzs : Nat → List Int → List Nat
  | _, [] => []
  | a, x :: cs => (if 0 < x then [a] else []) ++ nzs (a + 1) cs
def ords : Nat → List Int → List (List Int)
  | 0, _ => [[]]
  | n + 1, c => (nzs 0 c).flatMap fun a => (ords n (decr c a)).map fun r => ((a : Nat) : Int) :: r
theorem nzs_mem : ∀ {c : List Int} {k a : Nat}, a ∈ nzs k c → k ≤ a ∧ a < k + c.length ∧ 0 < c.getD (a - k) 0
  | [], k, a, hm => by cases hm
  | x :: cs, k, a, hm => by
    rw [nzs] at hm
    rcases List.mem_append.mp hm with hm | hm
    · split at hm
      · rename_i hc
        rw [List.mem_singleton.mp hm]
        exact ⟨Nat.le_refl _, by simp, by simpa using hc⟩
      · cases hm
    · obtain ⟨h1, h2, h3⟩ := nzs_mem hm
      refine ⟨by omega, by rw [List.length_cons]; omega, ?_⟩
      have e : a - k = (a - (k + 1)) + 1 := by omega
      rw [e, List.getD_cons_succ]
      exact h3
theorem nx_nzs (h : Int) : ∀ (c : List Int) (k : Nat), nxA h k c = (nzs k c).filter fun a => decide (((a : Nat) : Int) ≤ h)
  | [], k => rfl
  | x :: cs, k => by
    rw [nxA, nzs, List.filter_append, nx_nzs h cs (k + 1)]
    congr 1
    by_cases h1 : 0 < x
    · rw [if_pos h1]
      by_cases h2 : ((k : Nat) : Int) ≤ h
      · rw [if_pos ⟨h1, h2⟩]; simp [h2]
      · rw [if_neg (fun z => h2 z.2)]; simp [h2]
    · rw [if_neg h1, if_neg (fun z => h1 z.1)]; rfl
/-- those of them that can be read from a height on -/
theorem ords_ok : ∀ (n : Nat) (h : Int) (c : List Int), (ords n c).filter (okH h) = cmpl n h c
  | 0, h, c => rfl
  | n + 1, h, c => by
    rw [ords, cmpl, nx_nzs]
    generalize nzs 0 c = as
    induction as with
    | nil => rfl
    | cons a as ih =>
      rw [List.flatMap_cons, List.filter_append, ih, List.filter_cons]
      have e : ((ords n (decr c a)).map fun r => ((a : Nat) : Int) :: r).filter (okH h) = if ((a : Nat) : Int) ≤ h then (cmpl n (h + 1 - (a : Nat)) (decr c a)).map (fun r => ((a : Nat) : Int) :: r) else [] := by
        rw [← ords_ok n (h + 1 - (a : Nat)) (decr c a), List.filter_map]
        by_cases h1 : ((a : Nat) : Int) ≤ h
        · rw [if_pos h1]
          congr 1
          refine List.filter_congr fun r _ => ?_
          show okH h (((a : Nat) : Int) :: r) = _
          rw [okH, decide_eq_true h1, Bool.true_and]
        · rw [if_neg h1]
          have : (ords n (decr c a)).filter ((okH h) ∘ fun r => ((a : Nat) : Int) :: r) = [] := by
            refine List.filter_eq_nil_iff.mpr fun r _ => ?_
            show ¬ okH h (((a : Nat) : Int) :: r) = true
            rw [okH, decide_eq_false h1]; simp
          rw [this]; rfl
      rw [e]
      by_cases h1 : ((a : Nat) : Int) ≤ h
      · rw [if_pos h1, if_pos (decide_eq_true h1), List.flatMap_cons]
      · rw [if_neg h1, if_neg (by rw [decide_eq_false h1]; decide), List.nil_append]
theorem ords_len : ∀ {n : Nat} {c r : List Int}, r ∈ ords n c → r.length = n
  | 0, c, r, h => by rw [ords] at h; rw [List.mem_singleton.mp h]; rfl
  | n + 1, c, r, h => by
    rw [ords, List.mem_flatMap] at h
    obtain ⟨a, _, h⟩ := h
    obtain ⟨q, hq, rfl⟩ := List.mem_map.mp h
    rw [List.length_cons, ords_len hq]
theorem less_ok {c : List Int} {a : Nat} (ha : a < c.length) (hl : c.length ≤ 100) (S : Sto) : F__law_less [ti c, .int ((a : Nat) : Int)] S = .ok (ti (decr c a)) S := by
  refine fnC_rt rfl ?_ rfl
  have hst : startD 2 [ti c, D.int ((a : Nat) : Int)] = [some (ti c), some (.int ((a : Nat) : Int))] := rfl
  rw [hst]
  have s1 := sl_to c a mkFl
  have s2 := sl_from c (a + 1) mkFl
  rw [Int.natCast_add, Int.natCast_one] at s2
  have ix := ix_at (r := c) (i := a) (x := c[a]) (List.getElem?_eq_getElem ha)
  have t1 : ∀ S, (ifp ([D.int (c[a] - 1)].length ≤ sizeLine) (R.ok (D.tup [D.int (c[a] - 1)]) S) .stuck : R D) = .ok (ti [c[a] - 1]) S := fun S => ifp_pos (Nat.le_trans (show 1 ≤ 10 by omega) (by decide))
  have a1 := add_ti (c.take a) [c[a] - 1] (by rw [List.length_take, List.length_singleton]; exact Nat.le_trans (show min a c.length + 1 ≤ 1000 by omega) (by decide))
  have a2 := add_ti (c.take a ++ [c[a] - 1]) (c.drop (a + 1)) (by simp; exact Nat.le_trans (show min a c.length + 1 + (c.length - (a + 1)) ≤ 1000 by omega) (by decide))
  have e : c.take a ++ [c[a] - 1] ++ c.drop (a + 1) = decr c a := by
    unfold decr
    rw [List.append_assoc, List.getD_eq_getElem?_getD, List.getElem?_eq_getElem ha]
    rfl
  rw [e] at a2
  unfold B__law_less
  generalize ti (decr c a) = TD at *
  simp only [sRet, eTup, eSl, eVar, oNone, oSome, iOf, aCons, aNil, eOp, eC, List.getElem?_cons_zero, List.getElem?_cons_succ, R.bind_ok, s1, s2, ix, dSub_int, dAdd_int, t1, a1, a2, R.toS_ok]
theorem low_row (n : Nat) (r : List Int) : low n (ti r) = true := by
  show lowL n (r.map D.int) = true
  exact lowL_of fun d hd => by
    obtain ⟨x, _, rfl⟩ := List.mem_map.mp hd
    rfl
theorem unK_row (r : List Int) : unK (ti r) = ti r := rfl
theorem nzs_few : ∀ (c : List Int) (k : Nat), (nzs k c).length ≤ c.length
  | [], k => Nat.le_refl _
  | x :: cs, k => by
    rw [nzs, List.length_append, List.length_cons]
    have := nzs_few cs (k + 1)
    split <;> simp <;> omega
theorem sum_le {α : Type} (f : α → Nat) (b : Nat) : ∀ l : List α, (∀ x ∈ l, f x ≤ b) → (l.map f).sum ≤ l.length * b
  | [], _ => by simp
  | x :: l, h => by
    rw [List.map_cons, List.sum_cons, List.length_cons, Nat.add_mul, Nat.one_mul]
    have h1 := h x List.mem_cons_self
    have h2 := sum_le f b l fun y hy => h y (List.mem_cons_of_mem _ hy)
    omega
theorem ords_few : ∀ (n : Nat) (c : List Int), c.length = 6 → (ords n c).length ≤ 6 ^ n
  | 0, c, _ => Nat.le_refl _
  | n + 1, c, h => by
    rw [ords, List.length_flatMap]
    have h1 := sum_le (fun a => ((ords n (decr c a)).map fun r => ((a : Nat) : Int) :: r).length) (6 ^ n) (nzs 0 c) (fun a ha => by
      obtain ⟨_, a2, _⟩ := nzs_mem ha
      rw [Nat.zero_add] at a2
      show ((ords n (decr c a)).map _).length ≤ _
      rw [List.length_map]
      exact ords_few n (decr c a) (by rw [decr_len a2]; exact h))
    have h2 : (nzs 0 c).length * 6 ^ n ≤ 6 * 6 ^ n := Nat.mul_le_mul_right _ (by have := nzs_few c 0; omega)
    rw [Nat.pow_succ]
    omega
theorem addT_row {a : Int} {r : List Int} (h : r.length ≤ 1000) (S : Sto) : dAdd (.tup [.int a]) (ti r) S = .ok (ti (a :: r)) S := by
  have z := add_ti [a] r (by rw [List.length_singleton]; exact Nat.le_trans (show 1 + r.length ≤ 1001 by omega) (by decide))
  exact z S
theorem ord_loop {F : Fn} {n : Nat} {c : List Int} (n6 : n < 7) (c6 : c.length = 6) (hF : ∀ a, a ∈ nzs 0 c → ∀ S, F [ti (decr c a)] S = .ok (.fl ((ords n (decr c a)).map ti)) S) (S : Sto) : ∀ (cs : List Int) (k : Nat) (acc : List (List Int)) (x2 x3 x4 : Option D), c.drop k = cs → (∀ a ∈ nzs k cs, a ∈ nzs 0 c) → acc.length + cs.length * 6 ^ n ≤ 1000000 →
    ∃ y2 y3 y4, forD yes (tTup 2 (tCons (tN 2) (tCons (tN 3) tNil))) (L1__law_orders F) sNil (enumD k (cs.map D.int)) [some (ti c), some (.loc S.length), x2, x3, x4] (S ++ [.lst (acc.map ti)]) = .nx [some (ti c), some (.loc S.length), y2, y3, y4] (S ++ [.lst ((acc ++ (nzs k cs).flatMap fun a => (ords n (decr c a)).map fun r => ((a : Nat) : Int) :: r).map ti)])
  | [], k, acc, x2, x3, x4, _, _, _ => ⟨x2, x3, x4, by
    show forD yes _ _ _ [] _ _ = _
    rw [forD_nil trivial]
    simp [nzs, sNil]⟩
  | x :: cs, k, acc, x2, x3, x4, hd, hm, hl => by
    have hd2 : c.drop (k + 1) = cs := by
      have := congrArg List.tail hd
      rwa [List.tail_drop] at this
    rw [List.length_cons, Nat.add_mul, Nat.one_mul] at hl
    have kc : k < c.length := by
      have := congrArg List.length hd
      rw [List.length_drop, List.length_cons] at this
      omega
    have e0 : enumD k ((x :: cs).map D.int) = .tup [.int ((k : Nat) : Int), .int x] :: enumD (k + 1) (cs.map D.int) := rfl
    by_cases hx : 0 < x
    · have hk : k ∈ nzs 0 c := hm k (by rw [nzs, if_pos hx]; exact List.mem_append_left _ (List.mem_singleton.mpr rfl))
      have of := ords_few n (decr c k) (by rw [decr_len kc]; exact c6)
      obtain ⟨y2, y3, y4, e⟩ := ord_loop n6 c6 hF S cs (k + 1) (acc ++ (ords n (decr c k)).map fun r => ((k : Nat) : Int) :: r) (some (.int ((k : Nat) : Int))) (some (.int x)) x4 hd2 (fun a ha => hm a (by rw [nzs]; exact List.mem_append_right _ ha)) (by rw [List.length_append, List.length_map]; omega)
      refine ⟨y2, y3, y4, ?_⟩
      have g1 : ∀ S, dGt (.int x) (.int 0) S = .ok (.bl true) S := fun S => by rw [dGt_int, decide_eq_true (show x > 0 from hx)]
      have lk := less_ok (c := c) kc (by omega)
      have fr := hF k hk
      have key := eLc_pure (T := tN 4) (vs := [4]) (c := cYes) (f := E1__law_orders F) (ρ := [some (ti c), some (.loc S.length), some (.int ((k : Nat) : Int)), some (.int x), x4]) (S := S ++ [.lst (acc.map ti)]) (src := iSeq (eCall F (aCons (eCall F__law_less (aCons (eVar 0) (aCons (eVar 2) aNil))) aNil))) ((ords n (decr c k)).map ti) (fun d => [some (ti c), some (.loc S.length), some (.int ((k : Nat) : Int)), some (.int x), some d]) (fun _ => true) (fun d => match unK d with
        | .tup ds => .tup (.int ((k : Nat) : Int) :: ds)
        | _ => .non) (by
          generalize ti (decr c k) = TD at *
          generalize ti c = TC at *
          generalize (ords n (decr c k)).map ti = OR at *
          simp only [eVar, eC, eOp, eT, eAnd, eOr, eNot, eIf, eAndV, eOrV, eNotV, eCall, aNil, aCons, aStar, sOf, eTup, eFl, eLoc, eSl, oNone, oSome, iOf, eNeg, eChain, eMt, bOf, eDict0, eRev, eListRg, iZipD, sRaise1, sRaise0, eCallV, List.lookup, R.bind_ok, R.bind_er, R.bind_stuck, R.toS_ok, R.toS_er, R.toS_stuck, SR.next_nx, SR.next_rt, SR.next_er, SR.next_bk, SR.next_ct, SR.next_stuck, sNil, sSeq, sBrk, sCnt, sExp, sRet, sRetN, sIf, sSet, sAsg, sAug, sPar2, sPar3, tN, DL.tTup, DL.tNil, DL.tCons, DL.tSub, iSeq, srcOf_tup, srcOf_fl, srcOf_kl, srcOf_ti, iRange1, iRange2, sFor, startD, List.map_cons, List.map_nil, List.length_cons, List.length_nil, List.replicate, List.cons_append, List.nil_append, List.getElem?_cons_zero, List.getElem?_cons_succ, List.set_cons_zero, List.set_cons_succ, dSub_int, dFdiv_int, dMod_int, dLt_int, dLe_int, dGt_int, dGe_int, dAddI_int, dSubI_int, dIsN_non, isN, dAdd_int, ll0, ll1, ll2, ll3, ll4, ll5, ll6, ll7, ll8, ll9, ll10, ll11, ll12, ll13, ll14, ll15, ll16, ll17, ll18, ll19, ll20, ll21, ll22, ll23, ll24, ll25, ll26, ll27, ll28, ll29, ll30, ll31, ll32, ll33, ll34, ll35, ll36, ll37, ll38, ll39, ll40, Nat.reduceSub, Nat.reduceAdd, Nat.reduceEqDiff, if_true, if_false, ifp_t, ifp_f, reduceIte, Bool.true_eq_false, Bool.false_eq_true, Option.map_some, Option.map_none, Option.bind_some, Option.bind_none, tSq, sSet2, seqOf_fl, seqOf_tup, seqOf_ti, lk, fr]) (by
          intro d hd S'
          obtain ⟨r, hr, rfl⟩ := List.mem_map.mp hd
          refine ⟨rfl, rfl, fun _ => ?_⟩
          have rl := ords_len hr
          have az := addT_row (a := ((k : Nat) : Int)) (r := r) (by omega)
          have t1 : ∀ S, (ifp ([D.int ((k : Nat) : Int)].length ≤ sizeLine) (R.ok (D.tup [D.int ((k : Nat) : Int)]) S) .stuck : R D) = .ok (.tup [D.int ((k : Nat) : Int)]) S := fun S => ifp_pos (Nat.le_trans (show 1 ≤ 10 by omega) (by decide))
          rw [unK_row]
          show E1__law_orders F _ S' = .ok (.tup (.int ((k : Nat) : Int) :: r.map D.int)) S'
          have er : ti (((k : Nat) : Int) :: r) = .tup (.int ((k : Nat) : Int) :: r.map D.int) := rfl
          rw [← er]
          generalize ti (((k : Nat) : Int) :: r) = RR at *
          generalize ti r = RZ at *
          simp only [eVar, eC, eOp, eT, eAnd, eOr, eNot, eIf, eAndV, eOrV, eNotV, eCall, aNil, aCons, aStar, sOf, eTup, eFl, eLoc, eSl, oNone, oSome, iOf, eNeg, eChain, eMt, bOf, eDict0, eRev, eListRg, iZipD, sRaise1, sRaise0, eCallV, List.lookup, R.bind_ok, R.bind_er, R.bind_stuck, R.toS_ok, R.toS_er, R.toS_stuck, SR.next_nx, SR.next_rt, SR.next_er, SR.next_bk, SR.next_ct, SR.next_stuck, sNil, sSeq, sBrk, sCnt, sExp, sRet, sRetN, sIf, sSet, sAsg, sAug, sPar2, sPar3, tN, DL.tTup, DL.tNil, DL.tCons, DL.tSub, iSeq, srcOf_tup, srcOf_fl, srcOf_kl, srcOf_ti, iRange1, iRange2, sFor, startD, List.map_cons, List.map_nil, List.length_cons, List.length_nil, List.replicate, List.cons_append, List.nil_append, List.getElem?_cons_zero, List.getElem?_cons_succ, List.set_cons_zero, List.set_cons_succ, dSub_int, dFdiv_int, dMod_int, dLt_int, dLe_int, dGt_int, dGe_int, dAddI_int, dSubI_int, dIsN_non, isN, dAdd_int, ll0, ll1, ll2, ll3, ll4, ll5, ll6, ll7, ll8, ll9, ll10, ll11, ll12, ll13, ll14, ll15, ll16, ll17, ll18, ll19, ll20, ll21, ll22, ll23, ll24, ll25, ll26, ll27, ll28, ll29, ll30, ll31, ll32, ll33, ll34, ll35, ll36, ll37, ll38, ll39, ll40, Nat.reduceSub, Nat.reduceAdd, Nat.reduceEqDiff, if_true, if_false, ifp_t, ifp_f, reduceIte, Bool.true_eq_false, Bool.false_eq_true, Option.map_some, Option.map_none, Option.bind_some, Option.bind_none, tSq, sSet2, seqOf_fl, seqOf_tup, seqOf_ti, E1__law_orders, t1, az]) (by rw [List.length_map]; exact Nat.le_trans (Nat.le_trans of (Nat.pow_le_pow_right (by decide) (show n ≤ 6 by omega))) (by decide)) (by
          intro d hd _
          obtain ⟨r, hr, rfl⟩ := List.mem_map.mp hd
          rw [unK_row]
          exact low_row _ (((k : Nat) : Int) :: r))
      rw [List.filter_eq_self.mpr (fun _ _ => rfl), List.map_map] at key
      have ek : (ords n (decr c k)).map ((fun d => match unK d with
        | .tup ds => D.tup (.int ((k : Nat) : Int) :: ds)
        | _ => .non) ∘ ti) = ((ords n (decr c k)).map fun r => ((k : Nat) : Int) :: r).map ti := by
        rw [List.map_map]
        refine List.map_congr_left fun r _ => ?_
        show (match unK (ti r) with
          | .tup ds => D.tup (.int ((k : Nat) : Int) :: ds)
          | _ => .non) = _
        rw [unK_row]
        rfl
      rw [ek] at key
      have isl : isLst (S ++ [.lst (acc.map ti)]) (.loc S.length) = true := isLst_at (getL_end S _)
      have ex := extend_at (n := S.length) (es := ((ords n (decr c k)).map fun r => ((k : Nat) : Int) :: r).map ti) (getL_end S (acc.map ti)) (by rw [List.length_map, List.length_map, List.length_map]; omega)
      have es : (S ++ [Ob.lst (acc.map ti)]).set S.length (.lst (acc.map ti ++ ((ords n (decr c k)).map fun r => ((k : Nat) : Int) :: r).map ti)) = S ++ [.lst ((acc ++ (ords n (decr c k)).map fun r => ((k : Nat) : Int) :: r).map ti)] := by
        rw [List.set_append_right _ _ (Nat.le_refl _), Nat.sub_self, List.map_append]; rfl
      rw [es] at ex
      have body : L1__law_orders F [some (ti c), some (.loc S.length), some (.int ((k : Nat) : Int)), some (.int x), x4] (S ++ [.lst (acc.map ti)]) = .nx [some (ti c), some (.loc S.length), some (.int ((k : Nat) : Int)), some (.int x), x4] (S ++ [.lst ((acc ++ (ords n (decr c k)).map fun r => ((k : Nat) : Int) :: r).map ti)]) := by
        unfold L1__law_orders
        generalize S ++ [Ob.lst ((acc ++ (ords n (decr c k)).map fun r => ((k : Nat) : Int) :: r).map ti)] = S3 at *
        generalize ((ords n (decr c k)).map fun r => ((k : Nat) : Int) :: r).map ti = RS at *
        generalize S ++ [Ob.lst (acc.map ti)] = SS at *
        generalize eLc finFl (iSeq (eCall F (aCons (eCall F__law_less (aCons (eVar 0) (aCons (eVar 2) aNil))) aNil))) (tN 4) [4] cYes (E1__law_orders F) = LC at key ⊢
        generalize ti c = TC at *
        simp only [eVar, eC, eOp, eT, eAnd, eOr, eNot, eIf, eAndV, eOrV, eNotV, eCall, aNil, aCons, aStar, sOf, eTup, eFl, eLoc, eSl, oNone, oSome, iOf, eNeg, eChain, eMt, bOf, eDict0, eRev, eListRg, iZipD, sRaise1, sRaise0, eCallV, List.lookup, R.bind_ok, R.bind_er, R.bind_stuck, R.toS_ok, R.toS_er, R.toS_stuck, SR.next_nx, SR.next_rt, SR.next_er, SR.next_bk, SR.next_ct, SR.next_stuck, sNil, sSeq, sBrk, sCnt, sExp, sRet, sRetN, sIf, sSet, sAsg, sAug, sPar2, sPar3, tN, DL.tTup, DL.tNil, DL.tCons, DL.tSub, iSeq, srcOf_tup, srcOf_fl, srcOf_kl, srcOf_ti, iRange1, iRange2, sFor, startD, List.map_cons, List.map_nil, List.length_cons, List.length_nil, List.replicate, List.cons_append, List.nil_append, List.getElem?_cons_zero, List.getElem?_cons_succ, List.set_cons_zero, List.set_cons_succ, dSub_int, dFdiv_int, dMod_int, dLt_int, dLe_int, dGt_int, dGe_int, dAddI_int, dSubI_int, dIsN_non, isN, dAdd_int, ll0, ll1, ll2, ll3, ll4, ll5, ll6, ll7, ll8, ll9, ll10, ll11, ll12, ll13, ll14, ll15, ll16, ll17, ll18, ll19, ll20, ll21, ll22, ll23, ll24, ll25, ll26, ll27, ll28, ll29, ll30, ll31, ll32, ll33, ll34, ll35, ll36, ll37, ll38, ll39, ll40, Nat.reduceSub, Nat.reduceAdd, Nat.reduceEqDiff, if_true, if_false, ifp_t, ifp_f, reduceIte, Bool.true_eq_false, Bool.false_eq_true, Option.map_some, Option.map_none, Option.bind_some, Option.bind_none, tSq, sSet2, seqOf_fl, seqOf_tup, seqOf_ti, g1, isl, key, ex]
      rw [e0, forD_cons (ρ1 := [some (ti c), some (.loc S.length), some (.int ((k : Nat) : Int)), some (.int x), x4]) (S1 := S ++ [.lst (acc.map ti)]) trivial rfl body, e, nzs, if_pos hx, List.flatMap_append, List.append_assoc]
      simp
    · obtain ⟨y2, y3, y4, e⟩ := ord_loop n6 c6 hF S cs (k + 1) acc (some (.int ((k : Nat) : Int))) (some (.int x)) x4 hd2 (fun a ha => hm a (by rw [nzs]; exact List.mem_append_right _ ha)) (Nat.le_trans (Nat.add_le_add_left (Nat.le_add_right _ _) _) hl)
      refine ⟨y2, y3, y4, ?_⟩
      have g1 : ∀ S, dGt (.int x) (.int 0) S = .ok (.bl false) S := fun S => by rw [dGt_int, decide_eq_false (show ¬ x > 0 from hx)]
      have body : L1__law_orders F [some (ti c), some (.loc S.length), some (.int ((k : Nat) : Int)), some (.int x), x4] (S ++ [.lst (acc.map ti)]) = .nx [some (ti c), some (.loc S.length), some (.int ((k : Nat) : Int)), some (.int x), x4] (S ++ [.lst (acc.map ti)]) := by
        simp only [eVar, eC, eOp, eT, eAnd, eOr, eNot, eIf, eAndV, eOrV, eNotV, eCall, aNil, aCons, aStar, sOf, eTup, eFl, eLoc, eSl, oNone, oSome, iOf, eNeg, eChain, eMt, bOf, eDict0, eRev, eListRg, iZipD, sRaise1, sRaise0, eCallV, List.lookup, R.bind_ok, R.bind_er, R.bind_stuck, R.toS_ok, R.toS_er, R.toS_stuck, SR.next_nx, SR.next_rt, SR.next_er, SR.next_bk, SR.next_ct, SR.next_stuck, sNil, sSeq, sBrk, sCnt, sExp, sRet, sRetN, sIf, sSet, sAsg, sAug, sPar2, sPar3, tN, DL.tTup, DL.tNil, DL.tCons, DL.tSub, iSeq, srcOf_tup, srcOf_fl, srcOf_kl, srcOf_ti, iRange1, iRange2, sFor, startD, List.map_cons, List.map_nil, List.length_cons, List.length_nil, List.replicate, List.cons_append, List.nil_append, List.getElem?_cons_zero, List.getElem?_cons_succ, List.set_cons_zero, List.set_cons_succ, dSub_int, dFdiv_int, dMod_int, dLt_int, dLe_int, dGt_int, dGe_int, dAddI_int, dSubI_int, dIsN_non, isN, dAdd_int, ll0, ll1, ll2, ll3, ll4, ll5, ll6, ll7, ll8, ll9, ll10, ll11, ll12, ll13, ll14, ll15, ll16, ll17, ll18, ll19, ll20, ll21, ll22, ll23, ll24, ll25, ll26, ll27, ll28, ll29, ll30, ll31, ll32, ll33, ll34, ll35, ll36, ll37, ll38, ll39, ll40, Nat.reduceSub, Nat.reduceAdd, Nat.reduceEqDiff, if_true, if_false, ifp_t, ifp_f, reduceIte, Bool.true_eq_false, Bool.false_eq_true, Option.map_some, Option.map_none, Option.bind_some, Option.bind_none, tSq, sSet2, seqOf_fl, seqOf_tup, seqOf_ti, L1__law_orders, g1]
      rw [e0, forD_cons (ρ1 := [some (ti c), some (.loc S.length), some (.int ((k : Nat) : Int)), some (.int x), x4]) (S1 := S ++ [.lst (acc.map ti)]) trivial rfl body, e, nzs, if_neg hx, List.nil_append]
theorem orders_ok : ∀ (k n : Nat) (c : List Int), n < k → n ≤ 7 → c.length = 6 → (∀ x ∈ c, 0 ≤ x) → c.sum = ((n : Nat) : Int) → ∀ S, F__law_orders k [ti c] S = .ok (.fl ((ords n c).map ti)) S
  | 0, n, c, h, _, _, _, _, _ => by omega
  | k + 1, n, c, hk, n6, c6, cn, cs, S => by
    have hst : startD 5 [ti c] = [some (ti c), none, none, none, none] := rfl
    have sm := ktp_sum c
    rw [cs] at sm
    cases n with
    | zero =>
      refine fnC_rt rfl ?_ rfl
      rw [hst]
      have q0 : ∀ S, dEq false (.int ((0 : Nat) : Int)) (.int 0) S = .ok (.bl true) S := fun S => by rw [dEq_int]; rfl
      have t0 : ∀ S, (ifp (([] : List D).length ≤ sizeLine) (R.ok (D.tup []) S) .stuck : R D) = .ok (.tup []) S := fun S => ifp_pos (Nat.zero_le _)
      have f1 : ∀ (a : D) S, (ifp ([a].length ≤ sizeLine) (R.ok (D.fl [a]) S) .stuck : R D) = .ok (.fl [a]) S := fun a S => ifp_pos (Nat.le_trans (show 1 ≤ 10 by omega) (by decide))
      unfold B__law_orders
      generalize ti c = TC at *
      simp only [eVar, eC, eOp, eT, eAnd, eOr, eNot, eIf, eAndV, eOrV, eNotV, eCall, aNil, aCons, aStar, sOf, eTup, eFl, eLoc, eSl, oNone, oSome, iOf, eNeg, eChain, eMt, bOf, eDict0, eRev, eListRg, iZipD, sRaise1, sRaise0, eCallV, List.lookup, R.bind_ok, R.bind_er, R.bind_stuck, R.toS_ok, R.toS_er, R.toS_stuck, SR.next_nx, SR.next_rt, SR.next_er, SR.next_bk, SR.next_ct, SR.next_stuck, sNil, sSeq, sBrk, sCnt, sExp, sRet, sRetN, sIf, sSet, sAsg, sAug, sPar2, sPar3, tN, DL.tTup, DL.tNil, DL.tCons, DL.tSub, iSeq, srcOf_tup, srcOf_fl, srcOf_kl, srcOf_ti, iRange1, iRange2, sFor, startD, List.map_cons, List.map_nil, List.length_cons, List.length_nil, List.replicate, List.cons_append, List.nil_append, List.getElem?_cons_zero, List.getElem?_cons_succ, List.set_cons_zero, List.set_cons_succ, dSub_int, dFdiv_int, dMod_int, dLt_int, dLe_int, dGt_int, dGe_int, dAddI_int, dSubI_int, dIsN_non, isN, dAdd_int, ll0, ll1, ll2, ll3, ll4, ll5, ll6, ll7, ll8, ll9, ll10, ll11, ll12, ll13, ll14, ll15, ll16, ll17, ll18, ll19, ll20, ll21, ll22, ll23, ll24, ll25, ll26, ll27, ll28, ll29, ll30, ll31, ll32, ll33, ll34, ll35, ll36, ll37, ll38, ll39, ll40, Nat.reduceSub, Nat.reduceAdd, Nat.reduceEqDiff, if_true, if_false, ifp_t, ifp_f, reduceIte, Bool.true_eq_false, Bool.false_eq_true, Option.map_some, Option.map_none, Option.bind_some, Option.bind_none, tSq, sSet2, seqOf_fl, seqOf_tup, seqOf_ti, sm, q0, t0, f1]
      rfl
    | succ n =>
      have q0 : ∀ S, dEq false (.int ((n + 1 : Nat) : Int)) (.int 0) S = .ok (.bl false) S := fun S => by
        rw [dEq_int]
        have : (((n + 1 : Nat) : Int) == 0) = false := by simp; omega
        rw [this]; rfl
      have hF : ∀ a, a ∈ nzs 0 c → ∀ S, F__law_orders k [ti (decr c a)] S = .ok (.fl ((ords n (decr c a)).map ti)) S := fun a ha S => by
        obtain ⟨_, a2, a3⟩ := nzs_mem ha
        rw [Nat.zero_add] at a2
        rw [Nat.sub_zero] at a3
        exact orders_ok k n (decr c a) (by omega) (by omega) (by rw [decr_len a2]; exact c6) (decr_nn cn a3) (by rw [decr_sum a2, cs]; omega) S
      have p6 : 6 ^ n ≤ 6 ^ 6 := Nat.pow_le_pow_right (by decide) (by omega)
      obtain ⟨y2, y3, y4, e⟩ := ord_loop (by omega) c6 hF S c 0 [] none none none rfl (fun a ha => ha) (by rw [c6]; simp; omega)
      have e1 : [] ++ (nzs 0 c).flatMap (fun a => (ords n (decr c a)).map fun r => ((a : Nat) : Int) :: r) = ords (n + 1) c := by rw [List.nil_append, ords]
      rw [e1] at e
      have lc0 : ∀ S, (ifp (([] : List D).length ≤ sizeLine) (R.ok (D.loc S.length) (S ++ [Ob.lst []])) .stuck : R D) = R.ok (D.loc S.length) (S ++ [Ob.lst []]) := fun S => ifp_pos (Nat.zero_le _)
      have ie : ∀ S, iEnumD (aCons (eVar 0) aNil) [some (ti c), some (.loc S.length), none, none, none] (S ++ [.lst []]) = .ok (enumD 0 (c.map D.int), yes) (S ++ [.lst []]) := fun S => rfl
      refine fnC_list (l := [.lst ((ords (n + 1) c).map ti)]) (k := S.length) rfl ?_ (Nat.le_refl _) (by simp) (getL_end S _) (lowL_of fun d hd => by
        obtain ⟨r, _, rfl⟩ := List.mem_map.mp hd
        exact low_row _ r)
      rw [hst]
      unfold B__law_orders
      have e' : forD yes (tTup 2 (tCons (tN 2) (tCons (tN 3) tNil))) (L1__law_orders (F__law_orders k)) sNil (enumD 0 (c.map D.int)) [some (ti c), some (.loc S.length), none, none, none] (S ++ [.lst []]) = .nx [some (ti c), some (.loc S.length), y2, y3, y4] (S ++ [.lst ((ords (n + 1) c).map ti)]) := e
      have ie' := ie S
      generalize S ++ [Ob.lst ((ords (n + 1) c).map ti)] = S3 at *
      generalize hL : L1__law_orders (F__law_orders k) = LL at *
      generalize enumD 0 (c.map D.int) = EN at *
      generalize ti c = TC at *
      simp only [eVar, eC, eOp, eT, eAnd, eOr, eNot, eIf, eAndV, eOrV, eNotV, eCall, aNil, aCons, aStar, sOf, eTup, eFl, eLoc, eSl, oNone, oSome, iOf, eNeg, eChain, eMt, bOf, eDict0, eRev, eListRg, iZipD, sRaise1, sRaise0, eCallV, List.lookup, R.bind_ok, R.bind_er, R.bind_stuck, R.toS_ok, R.toS_er, R.toS_stuck, SR.next_nx, SR.next_rt, SR.next_er, SR.next_bk, SR.next_ct, SR.next_stuck, sNil, sSeq, sBrk, sCnt, sExp, sRet, sRetN, sIf, sSet, sAsg, sAug, sPar2, sPar3, tN, DL.tTup, DL.tNil, DL.tCons, DL.tSub, iSeq, srcOf_tup, srcOf_fl, srcOf_kl, srcOf_ti, iRange1, iRange2, sFor, startD, List.map_cons, List.map_nil, List.length_cons, List.length_nil, List.replicate, List.cons_append, List.nil_append, List.getElem?_cons_zero, List.getElem?_cons_succ, List.set_cons_zero, List.set_cons_succ, dSub_int, dFdiv_int, dMod_int, dLt_int, dLe_int, dGt_int, dGe_int, dAddI_int, dSubI_int, dIsN_non, isN, dAdd_int, ll0, ll1, ll2, ll3, ll4, ll5, ll6, ll7, ll8, ll9, ll10, ll11, ll12, ll13, ll14, ll15, ll16, ll17, ll18, ll19, ll20, ll21, ll22, ll23, ll24, ll25, ll26, ll27, ll28, ll29, ll30, ll31, ll32, ll33, ll34, ll35, ll36, ll37, ll38, ll39, ll40, Nat.reduceSub, Nat.reduceAdd, Nat.reduceEqDiff, if_true, if_false, ifp_t, ifp_f, reduceIte, Bool.true_eq_false, Bool.false_eq_true, Option.map_some, Option.map_none, Option.bind_some, Option.bind_none, tSq, sSet2, seqOf_fl, seqOf_tup, seqOf_ti, sm, q0, lc0, ie', e']
def okD (d : D) : Bool := match unK d with
  | .tup ds => (match intsD ds with
    | some l => okH 0 l
    | none => false)
  | _ => false
theorem okD_row (r : List Int) : okD (ti r) = okH 0 r := by
  unfold okD
  rw [unK_row]
  show (match intsD (r.map D.int) with
    | some l => okH 0 l
    | none => false) = _
  rw [intsD_map]
theorem ready_orders_ok {n : Nat} {c : List Int} (n6 : n ≤ 7) (c6 : c.length = 6) (cn : ∀ x ∈ c, 0 ≤ x) (cs : c.sum = ((n : Nat) : Int)) (S : Sto) : F__law_ready_orders [ti c] S = .ok (.fl ((cmpl n 0 c).map ti)) S := by
  refine fnC_rt rfl ?_ rfl
  have hst : startD 2 [ti c] = [some (ti c), none] := rfl
  rw [hst]
  have od := orders_ok 40 n c (by omega) n6 c6 cn cs
  have of := ords_few n c c6
  have key := eLc_pure (T := tN 1) (vs := [1]) (c := Q1__law_ready_orders) (f := E1__law_ready_orders) (ρ := [some (ti c), none]) (S := S) (src := iSeq (eCall (F__law_orders 40) (aCons (eVar 0) aNil))) ((ords n c).map ti) (fun d => [some (ti c), some d]) okD id (by
      generalize ti c = TC at *
      generalize (ords n c).map ti = OR at *
      simp only [eVar, eC, eOp, eT, eAnd, eOr, eNot, eIf, eAndV, eOrV, eNotV, eCall, aNil, aCons, aStar, sOf, eTup, eFl, eLoc, eSl, oNone, oSome, iOf, eNeg, eChain, eMt, bOf, eDict0, eRev, eListRg, iZipD, sRaise1, sRaise0, eCallV, List.lookup, R.bind_ok, R.bind_er, R.bind_stuck, R.toS_ok, R.toS_er, R.toS_stuck, SR.next_nx, SR.next_rt, SR.next_er, SR.next_bk, SR.next_ct, SR.next_stuck, sNil, sSeq, sBrk, sCnt, sExp, sRet, sRetN, sIf, sSet, sAsg, sAug, sPar2, sPar3, tN, DL.tTup, DL.tNil, DL.tCons, DL.tSub, iSeq, srcOf_tup, srcOf_fl, srcOf_kl, srcOf_ti, iRange1, iRange2, sFor, startD, List.map_cons, List.map_nil, List.length_cons, List.length_nil, List.replicate, List.cons_append, List.nil_append, List.getElem?_cons_zero, List.getElem?_cons_succ, List.set_cons_zero, List.set_cons_succ, dSub_int, dFdiv_int, dMod_int, dLt_int, dLe_int, dGt_int, dGe_int, dAddI_int, dSubI_int, dIsN_non, isN, dAdd_int, ll0, ll1, ll2, ll3, ll4, ll5, ll6, ll7, ll8, ll9, ll10, ll11, ll12, ll13, ll14, ll15, ll16, ll17, ll18, ll19, ll20, ll21, ll22, ll23, ll24, ll25, ll26, ll27, ll28, ll29, ll30, ll31, ll32, ll33, ll34, ll35, ll36, ll37, ll38, ll39, ll40, Nat.reduceSub, Nat.reduceAdd, Nat.reduceEqDiff, if_true, if_false, ifp_t, ifp_f, reduceIte, Bool.true_eq_false, Bool.false_eq_true, Option.map_some, Option.map_none, Option.bind_some, Option.bind_none, tSq, sSet2, seqOf_fl, seqOf_tup, seqOf_ti, od]) (by
      intro d hd S'
      obtain ⟨r, hr, rfl⟩ := List.mem_map.mp hd
      refine ⟨rfl, ?_, fun _ => rfl⟩
      have ms := missing_ok r
      have un : ∀ S, (R.ok (unK (ti r)) S : R D) = .ok (ti r) S := fun S => by rw [unK_row]
      have ix : ∀ (a b : D) S, dIx (.fl [a, b]) (.int 0) S = .ok a S := fun a b S => rfl
      have q0 : ∀ S, dEq false (.int (ne r)) (.int 0) S = .ok (.bl (okH 0 r)) S := fun S => by
        rw [dEq_int]
        congr 2
        have := ne_okH r 0
        show (ne r == 0) = okH 0 r
        have h2 : ne r = 0 ↔ okH 0 r = true := this
        cases ho : okH 0 r with
        | true => simpa using h2.mpr ho
        | false =>
          have : ¬ ne r = 0 := fun z => by rw [h2.mp z] at ho; cases ho
          simpa using this
      rw [okD_row]
      generalize ti c = TC at *
      generalize ti r = TR at *
      generalize ti r = RZ at *
      simp only [eVar, eC, eOp, eT, eAnd, eOr, eNot, eIf, eAndV, eOrV, eNotV, eCall, aNil, aCons, aStar, sOf, eTup, eFl, eLoc, eSl, oNone, oSome, iOf, eNeg, eChain, eMt, bOf, eDict0, eRev, eListRg, iZipD, sRaise1, sRaise0, eCallV, List.lookup, R.bind_ok, R.bind_er, R.bind_stuck, R.toS_ok, R.toS_er, R.toS_stuck, SR.next_nx, SR.next_rt, SR.next_er, SR.next_bk, SR.next_ct, SR.next_stuck, sNil, sSeq, sBrk, sCnt, sExp, sRet, sRetN, sIf, sSet, sAsg, sAug, sPar2, sPar3, tN, DL.tTup, DL.tNil, DL.tCons, DL.tSub, iSeq, srcOf_tup, srcOf_fl, srcOf_kl, srcOf_ti, iRange1, iRange2, sFor, startD, List.map_cons, List.map_nil, List.length_cons, List.length_nil, List.replicate, List.cons_append, List.nil_append, List.getElem?_cons_zero, List.getElem?_cons_succ, List.set_cons_zero, List.set_cons_succ, dSub_int, dFdiv_int, dMod_int, dLt_int, dLe_int, dGt_int, dGe_int, dAddI_int, dSubI_int, dIsN_non, isN, dAdd_int, ll0, ll1, ll2, ll3, ll4, ll5, ll6, ll7, ll8, ll9, ll10, ll11, ll12, ll13, ll14, ll15, ll16, ll17, ll18, ll19, ll20, ll21, ll22, ll23, ll24, ll25, ll26, ll27, ll28, ll29, ll30, ll31, ll32, ll33, ll34, ll35, ll36, ll37, ll38, ll39, ll40, Nat.reduceSub, Nat.reduceAdd, Nat.reduceEqDiff, if_true, if_false, ifp_t, ifp_f, reduceIte, Bool.true_eq_false, Bool.false_eq_true, Option.map_some, Option.map_none, Option.bind_some, Option.bind_none, tSq, sSet2, seqOf_fl, seqOf_tup, seqOf_ti, Q1__law_ready_orders, eUn, un, ms, ix, q0]) (by rw [List.length_map]; exact Nat.le_trans (Nat.le_trans of (Nat.pow_le_pow_right (by decide) n6)) (by decide)) (by
      intro d hd _
      obtain ⟨r, hr, rfl⟩ := List.mem_map.mp hd
      exact low_row _ r)
  have e : (((ords n c).map ti).filter okD).map id = (cmpl n 0 c).map ti := by
    rw [List.map_id, List.filter_map, ← ords_ok n 0 c]
    congr 1
    refine List.filter_congr fun r _ => ?_
    exact okD_row r
  rw [e] at key
  unfold B__law_ready_orders
  generalize eLc finFl (iSeq (eCall (F__law_orders 40) (aCons (eVar 0) aNil))) (tN 1) [1] Q1__law_ready_orders E1__law_ready_orders = LC at key ⊢
  simp only [eVar, eC, eOp, eT, eAnd, eOr, eNot, eIf, eAndV, eOrV, eNotV, eCall, aNil, aCons, aStar, sOf, eTup, eFl, eLoc, eSl, oNone, oSome, iOf, eNeg, eChain, eMt, bOf, eDict0, eRev, eListRg, iZipD, sRaise1, sRaise0, eCallV, List.lookup, R.bind_ok, R.bind_er, R.bind_stuck, R.toS_ok, R.toS_er, R.toS_stuck, SR.next_nx, SR.next_rt, SR.next_er, SR.next_bk, SR.next_ct, SR.next_stuck, sNil, sSeq, sBrk, sCnt, sExp, sRet, sRetN, sIf, sSet, sAsg, sAug, sPar2, sPar3, tN, DL.tTup, DL.tNil, DL.tCons, DL.tSub, iSeq, srcOf_tup, srcOf_fl, srcOf_kl, srcOf_ti, iRange1, iRange2, sFor, startD, List.map_cons, List.map_nil, List.length_cons, List.length_nil, List.replicate, List.cons_append, List.nil_append, List.getElem?_cons_zero, List.getElem?_cons_succ, List.set_cons_zero, List.set_cons_succ, dSub_int, dFdiv_int, dMod_int, dLt_int, dLe_int, dGt_int, dGe_int, dAddI_int, dSubI_int, dIsN_non, isN, dAdd_int, ll0, ll1, ll2, ll3, ll4, ll5, ll6, ll7, ll8, ll9, ll10, ll11, ll12, ll13, ll14, ll15, ll16, ll17, ll18, ll19, ll20, ll21, ll22, ll23, ll24, ll25, ll26, ll27, ll28, ll29, ll30, ll31, ll32, ll33, ll34, ll35, ll36, ll37, ll38, ll39, ll40, Nat.reduceSub, Nat.reduceAdd, Nat.reduceEqDiff, if_true, if_false, ifp_t, ifp_f, reduceIte, Bool.true_eq_false, Bool.false_eq_true, Option.map_some, Option.map_none, Option.bind_some, Option.bind_none, tSq, sSet2, seqOf_fl, seqOf_tup, seqOf_ti, key]
def menus9 : List D := [.fl [.int 0, .int 0, .int 1, .int 2], .fl [.int 0, .int 0, .int 0, .int 2, .int 3], .fl [.int 0, .int 1], .fl [.int 0, .int 0, .int 0, .int 0, .int 4, .int 5, .int 1], .fl [.int 0, .int 2], .fl [.int 1, .int 2]]
def menusL : List (List Int) := [[0, 0, 1, 2], [0, 0, 0, 2, 3], [0, 1], [0, 0, 0, 0, 4, 5, 1], [0, 2], [1, 2]]
theorem menus9_ok : ∀ d ∈ menus9, ∃ ms : List Int, d = .fl (ms.map D.int) ∧ ms ≠ [] ∧ ms.length ≤ 7 ∧ (∀ t ∈ ms, Arity t) ∧ ms ∈ menusL := by
  have am : ∀ l : List Int, (l.all fun t => decide (0 ≤ t ∧ t ≤ 5)) = true → ∀ t ∈ l, Arity t := fun l hl t ht => by
    have := List.all_eq_true.mp hl t ht
    simpa [Arity] using this
  intro d hd
  unfold menus9 at hd
  simp only [List.mem_cons, List.not_mem_nil, or_false] at hd
  rcases hd with rfl | rfl | rfl | rfl | rfl | rfl
  · exact ⟨[0, 0, 1, 2], rfl, by simp, by simp, am _ (by decide), by decide⟩
  · exact ⟨[0, 0, 0, 2, 3], rfl, by simp, by simp, am _ (by decide), by decide⟩
  · exact ⟨[0, 1], rfl, by simp, by simp, am _ (by decide), by decide⟩
  · exact ⟨[0, 0, 0, 0, 4, 5, 1], rfl, by simp, by simp, am _ (by decide), by decide⟩
  · exact ⟨[0, 2], rfl, by simp, by simp, am _ (by decide), by decide⟩
  · exact ⟨[1, 2], rfl, by simp, by simp, am _ (by decide), by decide⟩
def incr (c : List Int) (a : Nat) : List Int := c.set a (c.getD a 0 + 1)
theorem incr_sum : ∀ {c : List Int} {a : Nat}, a < c.length → (incr c a).sum = c.sum + 1
  | x :: cs, 0, _ => by unfold incr; simp; omega
  | x :: cs, a + 1, h => by
    have ih := incr_sum (c := cs) (a := a) (by simpa using h)
    unfold incr at ih ⊢
    simp only [List.set_cons_succ, List.sum_cons, List.getD_cons_succ]
    omega
theorem incr_nn {c : List Int} {a : Nat} (hc : ∀ x ∈ c, 0 ≤ x) : ∀ x ∈ incr c a, 0 ≤ x := fun x hx => by
  unfold incr at hx
  rcases List.mem_or_eq_of_mem_set hx with h | rfl
  · exact hc x h
  · by_cases ha : a < c.length
    · have := hc c[a] (List.getElem_mem ha)
      rw [List.getD_eq_getElem?_getD, List.getElem?_eq_getElem ha]
      show 0 ≤ c[a] + 1
      omega
    · rw [List.getD_eq_getElem?_getD, List.getElem?_eq_none (by omega)]; decide
theorem counts_turn {S : Sto} {n : Nat} {rest : Sto} {c ms : List Int} (st : Strm S n (rest ++ [.lst (c.map D.int)])) (hn : n + 10 < 2 ^ 60) (c6 : c.length = 6) (m0 : ms ≠ []) (m7 : ms.length ≤ 7) (ma : ∀ t ∈ ms, Arity t) (x1 x2 x5 x6 : Option D) :
    ∃ a S' , a < 6 ∧ ((a : Nat) : Int) ∈ ms ∧ L1__law_counts [some (.loc 1), x1, x2, some (.loc (rest.length + 2)), some (.fl (ms.map D.int)), x5, x6] S = .nx [some (.loc 1), x1, x2, some (.loc (rest.length + 2)), some (.fl (ms.map D.int)), x5, some (.int ((a : Nat) : Int))] S' ∧ Strm S' (n + 1) (rest ++ [.lst ((incr c a).map D.int)]) := by
  obtain ⟨d, S1, p1, p2, s1⟩ := pick_fl st (xs := ms.map D.int) (by simpa using m0) (by rw [List.length_map]; exact Nat.lt_of_le_of_lt m7 (by decide)) (by omega)
  obtain ⟨t, ht, rfl⟩ := List.mem_map.mp p2
  obtain ⟨a, rfl, ha⟩ := ar_nat (ma t ht)
  have g := s1.getL_end
  have hx : c[a]? = some (c.getD a 0) := by
    rw [List.getD_eq_getElem?_getD, List.getElem?_eq_getElem (by omega)]; rfl
  have ix : dIx (.loc (rest.length + 2)) (.int ((a : Nat) : Int)) S1 = .ok (.int (c.getD a 0)) S1 := by
    have e : seqOf S1 (.loc (rest.length + 2)) = some (c.map D.int) := s1.getQ_end
    show (match seqOf S1 (.loc (rest.length + 2)) with
      | some xs => (match atI xs ((a : Nat) : Int) with
        | some d => R.ok d S1
        | none => .stuck)
      | none => .stuck) = _
    rw [e]
    simp only
    rw [atI_nn (by omega) (by rw [List.length_map]; omega), Int.toNat_natCast, List.getElem?_map, hx]
    rfl
  have ds := dSet_at (v := .int (c.getD a 0 + 1)) g (k := a) (by rw [List.length_map]; omega)
  have st2 := s1.set_end (.lst ((incr c a).map D.int))
  have es : (c.map D.int).set a (.int (c.getD a 0 + 1)) = (incr c a).map D.int := by unfold incr; rw [List.map_set]
  rw [es] at ds
  refine ⟨a, _, ha, ht, ?_, st2⟩
  unfold L1__law_counts
  generalize S1.set (rest.length + 2) (.lst ((incr c a).map D.int)) = S2 at *
  generalize ms.map D.int = MS at *
  simp only [eVar, eC, eOp, eT, eAnd, eOr, eNot, eIf, eAndV, eOrV, eNotV, eCall, aNil, aCons, aStar, sOf, eTup, eFl, eLoc, eSl, oNone, oSome, iOf, eNeg, eChain, eMt, bOf, eDict0, eRev, eListRg, iZipD, sRaise1, sRaise0, eCallV, List.lookup, R.bind_ok, R.bind_er, R.bind_stuck, R.toS_ok, R.toS_er, R.toS_stuck, SR.next_nx, SR.next_rt, SR.next_er, SR.next_bk, SR.next_ct, SR.next_stuck, sNil, sSeq, sBrk, sCnt, sExp, sRet, sRetN, sIf, sSet, sAsg, sAug, sPar2, sPar3, tN, DL.tTup, DL.tNil, DL.tCons, DL.tSub, iSeq, srcOf_tup, srcOf_fl, srcOf_kl, srcOf_ti, iRange1, iRange2, sFor, startD, List.map_cons, List.map_nil, List.length_cons, List.length_nil, List.replicate, List.cons_append, List.nil_append, List.getElem?_cons_zero, List.getElem?_cons_succ, List.set_cons_zero, List.set_cons_succ, dSub_int, dFdiv_int, dMod_int, dLt_int, dLe_int, dGt_int, dGe_int, dAddI_int, dSubI_int, dIsN_non, isN, dAdd_int, ll0, ll1, ll2, ll3, ll4, ll5, ll6, ll7, ll8, ll9, ll10, ll11, ll12, ll13, ll14, ll15, ll16, ll17, ll18, ll19, ll20, ll21, ll22, ll23, ll24, ll25, ll26, ll27, ll28, ll29, ll30, ll31, ll32, ll33, ll34, ll35, ll36, ll37, ll38, ll39, ll40, Nat.reduceSub, Nat.reduceAdd, Nat.reduceEqDiff, if_true, if_false, ifp_t, ifp_f, reduceIte, Bool.true_eq_false, Bool.false_eq_true, Option.map_some, Option.map_none, Option.bind_some, Option.bind_none, tSq, sSet2, seqOf_fl, seqOf_tup, seqOf_ti, p1, ix, DL.tSub, ds]
theorem mem_le_sum : ∀ {l : List Int} {x : Int}, (∀ y ∈ l, 0 ≤ y) → x ∈ l → x ≤ l.sum
  | [], x, _, h => by cases h
  | y :: l, x, hn, h => by
    rw [List.sum_cons]
    have nn := sum_nn0 (l := l) fun z hz => hn z (List.mem_cons_of_mem _ hz)
    have y0 := hn y List.mem_cons_self
    rcases List.mem_cons.mp h with rfl | h
    · omega
    · have := mem_le_sum (fun z hz => hn z (List.mem_cons_of_mem _ hz)) h
      omega
theorem count_ready_ok {n : Nat} {c : List Int} (n0 : 0 < n) (n6 : n ≤ 6) (c6 : c.length = 6) (cn : ∀ x ∈ c, 0 ≤ x) (cs : c.sum = ((n : Nat) : Int)) (S : Sto) : F_count_ready [ti c] S = .ok (.int (((cmpl n 0 c).length : Nat) : Int)) S := by
  refine fnC_rt rfl ?_ rfl
  have hst : startD 1 [ti c] = [some (ti c)] := rfl
  rw [hst]
  have cr := count_rows_ok cn (by omega)
  have bo := balance_of_ok (c := c) (by omega) (fun x hx => ⟨cn x hx, by have := mem_le_sum cn hx; omega⟩)
  have bm := bMax_two 0 (balC 0 c)
  have le := count_rows_le cn (by omega)
  have p16 : (16 : Int) ^ 15 < 2 ^ 64 := by decide
  have ml := mulT_int (i := crF c) (j := max 0 (balC 0 c)) ⟨by omega, by omega⟩
  have su := ti_sum c
  have fd := fdiv_int (i := crF c * max 0 (balC 0 c)) (j := c.sum) (by omega) (by omega)
  rw [counted c6 cn cs n0 n6] at fd
  unfold B_count_ready
  generalize crF c * max 0 (balC 0 c) = M at *
  generalize ti c = TC at *
  simp only [eVar, eC, eOp, eT, eAnd, eOr, eNot, eIf, eAndV, eOrV, eNotV, eCall, aNil, aCons, aStar, sOf, eTup, eFl, eLoc, eSl, oNone, oSome, iOf, eNeg, eChain, eMt, bOf, eDict0, eRev, eListRg, iZipD, sRaise1, sRaise0, eCallV, List.lookup, R.bind_ok, R.bind_er, R.bind_stuck, R.toS_ok, R.toS_er, R.toS_stuck, SR.next_nx, SR.next_rt, SR.next_er, SR.next_bk, SR.next_ct, SR.next_stuck, sNil, sSeq, sBrk, sCnt, sExp, sRet, sRetN, sIf, sSet, sAsg, sAug, sPar2, sPar3, tN, DL.tTup, DL.tNil, DL.tCons, DL.tSub, iSeq, srcOf_tup, srcOf_fl, srcOf_kl, srcOf_ti, iRange1, iRange2, sFor, startD, List.map_cons, List.map_nil, List.length_cons, List.length_nil, List.replicate, List.cons_append, List.nil_append, List.getElem?_cons_zero, List.getElem?_cons_succ, List.set_cons_zero, List.set_cons_succ, dSub_int, dFdiv_int, dMod_int, dLt_int, dLe_int, dGt_int, dGe_int, dAddI_int, dSubI_int, dIsN_non, isN, dAdd_int, ll0, ll1, ll2, ll3, ll4, ll5, ll6, ll7, ll8, ll9, ll10, ll11, ll12, ll13, ll14, ll15, ll16, ll17, ll18, ll19, ll20, ll21, ll22, ll23, ll24, ll25, ll26, ll27, ll28, ll29, ll30, ll31, ll32, ll33, ll34, ll35, ll36, ll37, ll38, ll39, ll40, Nat.reduceSub, Nat.reduceAdd, Nat.reduceEqDiff, if_true, if_false, ifp_t, ifp_f, reduceIte, Bool.true_eq_false, Bool.false_eq_true, Option.map_some, Option.map_none, Option.bind_some, Option.bind_none, tSq, sSet2, seqOf_fl, seqOf_tup, seqOf_ti, cr, bo, bm, ml, su, fd]
theorem counts_ok {S : Sto} {n : Nat} {rest : Sto} (h : Strm S n rest) {most : Int} (mo0 : 0 < most) (mo7 : most ≤ 7) (hn : n + 20 < 2 ^ 60) : ∃ (c : List Int) (m : Nat) (S' : Sto), F__law_counts [.loc 1, .int most] S = .ok (ti c) S' ∧ c.length = 6 ∧ (∀ x ∈ c, 0 ≤ x) ∧ c.sum = ((m : Nat) : Int) ∧ 0 < m ∧ ((m : Nat) : Int) ≤ most ∧ Strm S' (n + 20) rest ∧ ∃ ms ∈ menusL, ∀ k, 0 < c.getD k 0 → ((k : Nat) : Int) ∈ ms := by
  have sA := h.app [.lst (([0, 0, 0, 0, 0, 0] : List Int).map D.int)]
  have hlen : S.length = rest.length + 2 := h.len
  have ml : dMulL (.fl [.int 0]) (.int 6) S = .ok (.loc (rest.length + 2)) (S ++ [.lst (([0, 0, 0, 0, 0, 0] : List Int).map D.int)]) := by
    show ifp (-(2 ^ 63) ≤ (6 : Int) ∧ (6 : Int) < 2 ^ 63 ∧ [D.int 0].length * (6 : Int).toNat ≤ sizeLine) (mkLoc (List.replicate (6 : Int).toNat [D.int 0]).flatten S) .stuck = _
    rw [ifp_pos ⟨by decide, by decide, Nat.le_trans (show 1 * 6 ≤ 1000 by omega) (by decide)⟩, ← hlen]
    rfl
  obtain ⟨d, S1, p1, p2, s1⟩ := pick_fl sA (xs := menus9) (by unfold menus9; simp) (by unfold menus9; simp) (by omega)
  obtain ⟨ms, rfl, m0, m7, ma, mm⟩ := menus9_ok d p2
  obtain ⟨z, S2, z1, z2, z3, s2⟩ := draw_ok s1 (m := most) mo0 (log2_small 60 (by omega) (by decide) (by decide)) (by omega)
  obtain ⟨size, hsz⟩ : ∃ size : Nat, 1 + z = (size : Int) := ⟨(1 + z).toNat, by omega⟩
  have hr : ((-(2 ^ 62) : Int) ≤ (size : Int) ∧ (size : Int) < 2 ^ 62) = True := by simp; omega
  obtain ⟨ρ', S3, ⟨x5, x6, c, rfl, s3, c6, cn, cs, sp⟩, hf⟩ := forD_all (T := tN 5) (B := L1__law_counts) (Z := sNil) (fun i ρ S => ∃ x5 x6, ∃ c : List Int, ρ = [some (.loc 1), some (.int most), some (.fl menus9), some (.loc (rest.length + 2)), some (.fl (ms.map D.int)), x5, x6] ∧ Strm S (n + 2 + i) (rest ++ [.lst (c.map D.int)]) ∧ c.length = 6 ∧ (∀ x ∈ c, 0 ≤ x) ∧ c.sum = ((i : Nat) : Int) ∧ ∀ k, 0 < c.getD k 0 → ((k : Nat) : Int) ∈ ms)
    (rangeD 0 size) 0 [some (.loc 1), some (.int most), some (.fl menus9), some (.loc (rest.length + 2)), some (.fl (ms.map D.int)), none, none] S2 ⟨none, none, _, rfl, s2, rfl, by simp, rfl, fun k hk => by rcases k with _ | _ | _ | _ | _ | _ | k <;> simp at hk⟩ (by
      rintro j d ρ S' hj ⟨x5, x6, c, rfl, sj, c6, cn, cs, sp⟩
      obtain ⟨hj', rfl⟩ := rangeD_get hj
      rw [Nat.zero_add] at sj cs ⊢
      obtain ⟨a, S'', ha, ham, t3, t4⟩ := counts_turn sj (by omega) c6 m0 m7 ma (some (.int most)) (some (.fl menus9)) (some (.int (0 + (j : Int)))) x6
      refine ⟨_, _, _, S'', rfl, .inl t3, _, _, incr c a, rfl, t4, by unfold incr; rw [List.length_set]; exact c6, incr_nn cn, ?_, fun k hk => ?_⟩
      · rw [incr_sum (by omega), cs]; rfl
      · by_cases e : a = k
        · rw [← e]; exact ham
        · refine sp k ?_
          unfold incr at hk
          rw [List.getD_eq_getElem?_getD, List.getElem?_set_ne e, ← List.getD_eq_getElem?_getD] at hk
          exact hk)
  rw [rangeD_len, Nat.zero_add] at s3 cs
  have tp : bTuple [.loc (rest.length + 2)] S3 = .ok (ti c) S3 := bTuple_loc s3.getQ_end
  have hst : startD 7 [D.loc 1, .int most] = [some (.loc 1), some (.int most), none, none, none, none, none] := rfl
  have key := fnC_strm (n := 7) (m := 2) (B := B__law_counts) (ds := [D.loc 1, .int most]) (S := S) (S6 := S3) (d := ti c) h (l := [.lst (c.map D.int)]) s3 (by simp) rfl ?_ (by show lowL _ _ = true; exact lowL_ints _ _)
  · exact ⟨c, size, _, key.1, c6, cn, cs, by omega, by omega, key.2.mono (by omega), ms, mm, sp⟩
  · rw [hst]
    unfold B__law_counts
    have f2 : ∀ (a b : D) S, (ifp ([a, b].length ≤ sizeLine) (R.ok (D.fl [a, b]) S) .stuck : R D) = .ok (.fl [a, b]) S := fun a b S => ifp_pos (Nat.le_trans (show 2 ≤ 10 by omega) (by decide))
    have f1 : ∀ (a : D) S, (ifp ([a].length ≤ sizeLine) (R.ok (D.fl [a]) S) .stuck : R D) = .ok (.fl [a]) S := fun a S => ifp_pos (Nat.le_trans (show 1 ≤ 10 by omega) (by decide))
    unfold menus9 at p1 hf
    generalize hD : ms.map D.int = MS at *
    generalize S ++ [Ob.lst (([0, 0, 0, 0, 0, 0] : List Int).map D.int)] = SA at *
    simp only [eVar, eC, eOp, eT, eAnd, eOr, eNot, eIf, eAndV, eOrV, eNotV, eCall, aNil, aCons, aStar, sOf, eTup, eFl, eLoc, eSl, oNone, oSome, iOf, eNeg, eChain, eMt, bOf, eDict0, eRev, eListRg, iZipD, sRaise1, sRaise0, eCallV, List.lookup, R.bind_ok, R.bind_er, R.bind_stuck, R.toS_ok, R.toS_er, R.toS_stuck, SR.next_nx, SR.next_rt, SR.next_er, SR.next_bk, SR.next_ct, SR.next_stuck, sNil, sSeq, sBrk, sCnt, sExp, sRet, sRetN, sIf, sSet, sAsg, sAug, sPar2, sPar3, tN, DL.tTup, DL.tNil, DL.tCons, DL.tSub, iSeq, srcOf_tup, srcOf_fl, srcOf_kl, srcOf_ti, iRange1, iRange2, sFor, startD, List.map_cons, List.map_nil, List.length_cons, List.length_nil, List.replicate, List.cons_append, List.nil_append, List.getElem?_cons_zero, List.getElem?_cons_succ, List.set_cons_zero, List.set_cons_succ, dSub_int, dFdiv_int, dMod_int, dLt_int, dLe_int, dGt_int, dGe_int, dAddI_int, dSubI_int, dIsN_non, isN, dAdd_int, ll0, ll1, ll2, ll3, ll4, ll5, ll6, ll7, ll8, ll9, ll10, ll11, ll12, ll13, ll14, ll15, ll16, ll17, ll18, ll19, ll20, ll21, ll22, ll23, ll24, ll25, ll26, ll27, ll28, ll29, ll30, ll31, ll32, ll33, ll34, ll35, ll36, ll37, ll38, ll39, ll40, Nat.reduceSub, Nat.reduceAdd, Nat.reduceEqDiff, if_true, if_false, ifp_t, ifp_f, reduceIte, Bool.true_eq_false, Bool.false_eq_true, Option.map_some, Option.map_none, Option.bind_some, Option.bind_none, tSq, sSet2, seqOf_fl, seqOf_tup, seqOf_ti, ml, p1, z1, hsz, hr, Int.toNat_natCast, hf, tp]
def supp (ms c : List Int) : Bool := (List.range 6).all fun k => decide (c.getD k 0 ≤ 0) || ms.contains ((k : Nat) : Int)
theorem all_46 : ((List.range 7).all fun n => (comps 6 n).all fun c => menusL.all fun ms => !(supp ms c) || (decide ((ords n c).length ≤ 300) && decide ((((ords n c).length : Nat) : Int) = crF c) && decide ((((cmpl n 0 c).length : Nat) : Int) * ((n : Nat) : Int) = (((ords n c).length : Nat) : Int) * max 0 (balC 0 c)))) = true := by decide +kernel
structure Cts (c : List Int) (n : Nat) : Prop where
  n0 : 0 < n
  n6 : n ≤ 6
  c6 : c.length = 6
  cn : ∀ x ∈ c, 0 ≤ x
  cs : c.sum = ((n : Nat) : Int)
  ms : ∃ ms ∈ menusL, ∀ k, 0 < c.getD k 0 → ((k : Nat) : Int) ∈ ms
section
variable {c : List Int} {n : Nat}
theorem Cts.facts (k : Cts c n) : (ords n c).length ≤ 300 ∧ (((ords n c).length : Nat) : Int) = crF c ∧ (((cmpl n 0 c).length : Nat) : Int) * ((n : Nat) : Int) = (((ords n c).length : Nat) : Int) * max 0 (balC 0 c) := by
  obtain ⟨ms, hm, sp⟩ := k.ms
  have h := List.all_eq_true.mp all_46 n (List.mem_range.mpr (by have := k.n6; omega))
  have m := comps_mem k.cn k.cs
  rw [k.c6] at m
  have h2 := List.all_eq_true.mp (List.all_eq_true.mp h c m) ms hm
  have sy : supp ms c = true := by
    unfold supp
    refine List.all_eq_true.mpr fun j hj => ?_
    by_cases z : 0 < c.getD j 0
    · have := List.contains_iff_mem.mpr (sp j z)
      rw [this]; simp
    · rw [decide_eq_true (by omega)]; rfl
  rw [sy] at h2
  simp only [Bool.not_true, Bool.false_or, Bool.and_eq_true, decide_eq_true_eq] at h2
  exact ⟨h2.1.1, h2.1.2, h2.2⟩
end
theorem nzs_nd : ∀ (c : List Int) (k : Nat), (nzs k c).Nodup
  | [], k => List.nodup_nil
  | x :: cs, k => by
    rw [nzs]
    split
    · refine List.nodup_cons.mpr ⟨fun h => ?_, nzs_nd cs (k + 1)⟩
      have := nzs_mem h
      omega
    · exact nzs_nd cs (k + 1)
theorem heads_nd {f : Nat → List (List Int)} (hf : ∀ a, (f a).Nodup) : ∀ as : List Nat, as.Nodup → (as.flatMap fun a => (f a).map fun r => ((a : Nat) : Int) :: r).Nodup
  | [], _ => List.nodup_nil
  | a :: as, h => by
    obtain ⟨h1, h2⟩ := List.nodup_cons.mp h
    rw [List.flatMap_cons]
    refine List.nodup_append.mpr ⟨?_, heads_nd hf as h2, fun x hx y hy e => ?_⟩
    · exact List.pairwise_map.mpr ((hf a).imp fun {r s} hrs e => hrs (List.cons.inj e).2)
    · subst e
      obtain ⟨r, _, rfl⟩ := List.mem_map.mp hx
      obtain ⟨b, hb, hy⟩ := List.mem_flatMap.mp hy
      obtain ⟨s, _, e2⟩ := List.mem_map.mp hy
      have := (List.cons.inj e2).1
      have : b = a := by omega
      exact h1 (this ▸ hb)
theorem ords_nd : ∀ (n : Nat) (c : List Int), (ords n c).Nodup
  | 0, c => by rw [ords]; simp
  | n + 1, c => by
    rw [ords]
    exact heads_nd (fun a => ords_nd n (decr c a)) _ (nzs_nd c 0)
theorem rowsT_ti : ∀ rs : List (List Int), rowsT (rs.map ti) = some rs
  | [] => rfl
  | r :: rs => by
    have h1 : rowT (ti r) = some r := intsOf_map r
    rw [List.map_cons, rowsT, h1, rowsT_ti rs]
theorem lenSet_ok {rs : List (List Int)} (h : rs.length ≤ 300) (nd : rs.Nodup) (S : Sto) : dLenSet (.fl (rs.map ti)) S = .ok (.int ((rs.length : Nat) : Int)) S := by
  unfold dLenSet
  dsimp only
  rw [rowsT_ti]
  exact if_pos ⟨h, nd⟩
theorem pyL_int : ∀ r : List Int, pyL (r.map D.int) = some (r.map PyData.int)
  | [] => rfl
  | x :: r => by rw [List.map_cons, pyL, pyL_int r]; rfl
theorem pyL_ti : ∀ rs : List (List Int), pyL (rs.map ti) = some (rs.map fun r => PyData.tuple (r.map PyData.int))
  | [] => rfl
  | r :: rs => by
    have h1 : py (ti r) = some (.tuple (r.map PyData.int)) := by unfold ti; rw [py, pyL_int]; rfl
    rw [List.map_cons, pyL, h1, pyL_ti rs]; rfl
theorem lay_int : ∀ r : List Int, PyData.canLayAll0 (r.map PyData.int) = true ∧ PyData.depthAll (r.map PyData.int) = 0
  | [] => ⟨rfl, rfl⟩
  | x :: r => by
    obtain ⟨h1, h2⟩ := lay_int r
    exact ⟨by simp [PyData.canLayAll0, PyData.canLay0, h1], by simp [PyData.depthAll, PyData.depth, h2]⟩
theorem lay_ti : ∀ rs : List (List Int), PyData.canLayAll0 (rs.map fun r => PyData.tuple (r.map PyData.int)) = true ∧ PyData.depthAll (rs.map fun r => PyData.tuple (r.map PyData.int)) ≤ 1
  | [] => ⟨rfl, by simp [PyData.depthAll]⟩
  | r :: rs => by
    obtain ⟨h1, h2⟩ := lay_ti rs
    obtain ⟨h3, h4⟩ := lay_int r
    exact ⟨by simp [PyData.canLayAll0, PyData.canLay0, h1, h3], by simp [PyData.depthAll, PyData.depth, h4]; omega⟩
theorem eq_rows (rs : List (List Int)) (S : Sto) : dEq true (.fl (rs.map ti)) (.fl (rs.map ti)) S = .ok (.bl false) S := by
  have p1 : pyS S (.fl (rs.map ti)) = some (.list (rs.map fun r => PyData.tuple (r.map PyData.int))) := by
    show py (.fl (rs.map ti)) = _
    rw [py, pyL_ti]; rfl
  obtain ⟨h1, h2⟩ := lay_ti rs
  have cl : (PyData.list (rs.map fun r => PyData.tuple (r.map PyData.int))).canLay0 = true := by simp [PyData.canLay0, h1]
  have sh : SeqAt.shaped (PyData.list (rs.map fun r => PyData.tuple (r.map PyData.int))) = true := by
    simp [SeqAt.shaped, PyData.canLay0, h1, PyData.depth]
    omega
  show dEqP true (.fl (rs.map ti)) (.fl (rs.map ti)) S = _
  rw [dEqP_py p1 p1 sh sh, SeqAt.eqv_refl _ cl]; rfl
theorem spent : ∀ (c : List Int) (k : Nat), ((c.zipIdx k).map fun q => ((q.2 : Nat) : Int) * q.1).sum = c.sum - balC k c
  | [], k => rfl
  | x :: cs, k => by
    have h : x * (1 - ((k : Nat) : Int)) = x - ((k : Nat) : Int) * x := by rw [Int.mul_sub, Int.mul_one, Int.mul_comm x]
    rw [List.zipIdx_cons, List.map_cons, List.sum_cons, spent cs (k + 1), balC, List.sum_cons, h]
    show ((k : Nat) : Int) * x + (cs.sum - balC (k + 1) cs) = x + cs.sum - (x - ((k : Nat) : Int) * x + balC (k + 1) cs)
    generalize ((k : Nat) : Int) * x = kx
    omega
theorem surplus_ok {c : List Int} (cl : c.length ≤ 100) (hc : ∀ x ∈ c, 0 ≤ x ∧ x ≤ 1000) (S : Sto) : F__law_surplus [ti c] S = .ok (.int (balC 0 c)) S := by
  have hst : startD 3 [ti c] = [some (ti c), none, none] := rfl
  have sq : iEnumD (aCons (eVar 0) aNil) [some (ti c), none, none] S = .ok ((c.zipIdx 0).map (fun q => D.tup [.int (q.2 : Int), .int q.1]), yes) S := by
    have : iEnumD (aCons (eVar 0) aNil) [some (ti c), none, none] S = .ok (enumD 0 (c.map D.int), yes) S := rfl
    rw [this, enumD_ints]
  have key := eLc_pure (T := tTup 2 (tCons (tN 1) (tCons (tN 2) tNil))) (vs := [1, 2]) (c := cYes) (f := E1__law_surplus) (ρ := [some (ti c), none, none]) (S := S) (src := iEnumD (aCons (eVar 0) aNil)) ((c.zipIdx 0).map (fun q => D.tup [.int (q.2 : Int), .int q.1])) (fun d => match d with
    | .tup [a, b] => [some (ti c), some a, some b]
    | _ => []) (fun _ => true) (fun d => match d with
    | .tup [.int a, .int b] => .int (a * b)
    | _ => .non) sq (by
      intro d hd S'
      obtain ⟨q, hq, rfl⟩ := List.mem_map.mp hd
      refine ⟨rfl, rfl, fun _ => ?_⟩
      have hm : q.1 ∈ c := (List.mem_zipIdx hq).2.2 ▸ List.getElem_mem _
      obtain ⟨m1, m2⟩ := hc q.1 hm
      have q2 := (List.mem_zipIdx hq).2.1
      have ml := mulT_int (i := ((q.2 : Nat) : Int)) (j := q.1) ⟨by omega, by omega⟩
      show E1__law_surplus [some (ti c), some (.int (q.2 : Int)), some (.int q.1)] S' = _
      generalize ti c = TC
      simp only [eVar, eC, eOp, eT, eAnd, eOr, eNot, eIf, eAndV, eOrV, eNotV, eCall, aNil, aCons, aStar, sOf, eTup, eFl, eLoc, eSl, oNone, oSome, iOf, eNeg, eChain, eMt, bOf, eDict0, eRev, eListRg, iZipD, sRaise1, sRaise0, eCallV, List.lookup, R.bind_ok, R.bind_er, R.bind_stuck, R.toS_ok, R.toS_er, R.toS_stuck, SR.next_nx, SR.next_rt, SR.next_er, SR.next_bk, SR.next_ct, SR.next_stuck, sNil, sSeq, sBrk, sCnt, sExp, sRet, sRetN, sIf, sSet, sAsg, sAug, sPar2, sPar3, tN, DL.tTup, DL.tNil, DL.tCons, DL.tSub, iSeq, srcOf, iRange1, iRange2, sFor, startD, List.map_cons, List.map_nil, List.length_cons, List.length_nil, List.replicate, List.cons_append, List.nil_append, List.getElem?_cons_zero, List.getElem?_cons_succ, List.set_cons_zero, List.set_cons_succ, dSub_int, dFdiv_int, dMod_int, dLt_int, dLe_int, dGt_int, dGe_int, dAddI_int, dSubI_int, dIsN_non, isN, dAdd_int, ll0, ll1, ll2, ll3, ll4, ll5, ll6, ll7, ll8, ll9, ll10, ll11, ll12, ll13, ll14, ll15, ll16, ll17, ll18, ll19, ll20, ll21, ll22, ll23, ll24, ll25, ll26, ll27, ll28, ll29, ll30, ll31, ll32, ll33, ll34, ll35, ll36, ll37, ll38, ll39, ll40, Nat.reduceSub, Nat.reduceAdd, Nat.reduceEqDiff, if_true, if_false, ifp_t, ifp_f, reduceIte, Bool.true_eq_false, Bool.false_eq_true, Option.map_some, Option.map_none, Option.bind_some, Option.bind_none, tSq, sSet2, seqOf_fl, seqOf_tup, seqOf_ti, E1__law_surplus, ml]) (by rw [List.length_map, List.length_zipIdx]; exact Nat.le_trans cl (by decide)) (by
      intro d hd _
      obtain ⟨q, hq, rfl⟩ := List.mem_map.mp hd
      rfl)
  rw [List.filter_eq_self.mpr (fun _ _ => rfl), List.map_map] at key
  have e : (c.zipIdx 0).map ((fun d => match d with
    | D.tup [.int a, .int b] => D.int (a * b)
    | _ => .non) ∘ fun q => D.tup [.int (q.2 : Int), .int q.1]) = ((c.zipIdx 0).map fun q => ((q.2 : Nat) : Int) * q.1).map D.int := by
    rw [List.map_map]
    rfl
  rw [e] at key
  have bs := sum_fli ((c.zipIdx 0).map fun q => ((q.2 : Nat) : Int) * q.1)
  rw [spent] at bs
  have su := ti_sum c
  refine fnC_rt rfl ?_ rfl
  rw [hst]
  unfold B__law_surplus
  have fin : c.sum - (c.sum - balC 0 c) = balC 0 c := by omega
  generalize eLc finFl (iEnumD (aCons (eVar 0) aNil)) (tTup 2 (tCons (tN 1) (tCons (tN 2) tNil))) [1, 2] cYes E1__law_surplus = LC at key ⊢
  generalize D.fl (((c.zipIdx 0).map fun q => ((q.2 : Nat) : Int) * q.1).map D.int) = FL at *
  generalize ti c = TC at *
  simp only [eVar, eC, eOp, eT, eAnd, eOr, eNot, eIf, eAndV, eOrV, eNotV, eCall, aNil, aCons, aStar, sOf, eTup, eFl, eLoc, eSl, oNone, oSome, iOf, eNeg, eChain, eMt, bOf, eDict0, eRev, eListRg, iZipD, sRaise1, sRaise0, eCallV, List.lookup, R.bind_ok, R.bind_er, R.bind_stuck, R.toS_ok, R.toS_er, R.toS_stuck, SR.next_nx, SR.next_rt, SR.next_er, SR.next_bk, SR.next_ct, SR.next_stuck, sNil, sSeq, sBrk, sCnt, sExp, sRet, sRetN, sIf, sSet, sAsg, sAug, sPar2, sPar3, tN, DL.tTup, DL.tNil, DL.tCons, DL.tSub, iSeq, srcOf, iRange1, iRange2, sFor, startD, List.map_cons, List.map_nil, List.length_cons, List.length_nil, List.replicate, List.cons_append, List.nil_append, List.getElem?_cons_zero, List.getElem?_cons_succ, List.set_cons_zero, List.set_cons_succ, dSub_int, dFdiv_int, dMod_int, dLt_int, dLe_int, dGt_int, dGe_int, dAddI_int, dSubI_int, dIsN_non, isN, dAdd_int, ll0, ll1, ll2, ll3, ll4, ll5, ll6, ll7, ll8, ll9, ll10, ll11, ll12, ll13, ll14, ll15, ll16, ll17, ll18, ll19, ll20, ll21, ll22, ll23, ll24, ll25, ll26, ll27, ll28, ll29, ll30, ll31, ll32, ll33, ll34, ll35, ll36, ll37, ll38, ll39, ll40, Nat.reduceSub, Nat.reduceAdd, Nat.reduceEqDiff, if_true, if_false, ifp_t, ifp_f, reduceIte, Bool.true_eq_false, Bool.false_eq_true, Option.map_some, Option.map_none, Option.bind_some, Option.bind_none, tSq, sSet2, seqOf_fl, seqOf_tup, seqOf_ti, su, key, bs, fin]
theorem fine_ok {c : List Int} {n : Nat} (k : Cts c n) (x0 x1 x2 x3 x5 x6 x7 : Option D) (S : Sto) : eLc finFl (iSeq (eVar 4)) (tN 7) [7] Q1_law E1_law [x0, x1, x2, x3, some (.fl ((ords n c).map ti)), x5, x6, x7] S = .ok (.fl ((cmpl n 0 c).map ti)) S := by
  obtain ⟨f1, f2, f3⟩ := k.facts
  have key := eLc_pure (T := tN 7) (vs := [7]) (c := Q1_law) (f := E1_law) (ρ := [x0, x1, x2, x3, some (.fl ((ords n c).map ti)), x5, x6, x7]) (S := S) (src := iSeq (eVar 4)) ((ords n c).map ti) (fun d => [x0, x1, x2, x3, some (.fl ((ords n c).map ti)), x5, x6, some d]) okD id (by
      generalize (ords n c).map ti = OR
      simp only [eVar, eC, eOp, eT, eAnd, eOr, eNot, eIf, eAndV, eOrV, eNotV, eCall, aNil, aCons, aStar, sOf, eTup, eFl, eLoc, eSl, oNone, oSome, iOf, eNeg, eChain, eMt, bOf, eDict0, eRev, eListRg, iZipD, sRaise1, sRaise0, eCallV, List.lookup, R.bind_ok, R.bind_er, R.bind_stuck, R.toS_ok, R.toS_er, R.toS_stuck, SR.next_nx, SR.next_rt, SR.next_er, SR.next_bk, SR.next_ct, SR.next_stuck, sNil, sSeq, sBrk, sCnt, sExp, sRet, sRetN, sIf, sSet, sAsg, sAug, sPar2, sPar3, tN, DL.tTup, DL.tNil, DL.tCons, DL.tSub, iSeq, srcOf, iRange1, iRange2, sFor, startD, List.map_cons, List.map_nil, List.length_cons, List.length_nil, List.replicate, List.cons_append, List.nil_append, List.getElem?_cons_zero, List.getElem?_cons_succ, List.set_cons_zero, List.set_cons_succ, dSub_int, dFdiv_int, dMod_int, dLt_int, dLe_int, dGt_int, dGe_int, dAddI_int, dSubI_int, dIsN_non, isN, dAdd_int, ll0, ll1, ll2, ll3, ll4, ll5, ll6, ll7, ll8, ll9, ll10, ll11, ll12, ll13, ll14, ll15, ll16, ll17, ll18, ll19, ll20, ll21, ll22, ll23, ll24, ll25, ll26, ll27, ll28, ll29, ll30, ll31, ll32, ll33, ll34, ll35, ll36, ll37, ll38, ll39, ll40, Nat.reduceSub, Nat.reduceAdd, Nat.reduceEqDiff, if_true, if_false, ifp_t, ifp_f, reduceIte, Bool.true_eq_false, Bool.false_eq_true, Option.map_some, Option.map_none, Option.bind_some, Option.bind_none, tSq, sSet2, seqOf_fl, seqOf_tup, seqOf_ti]) (by
      intro d hd S'
      obtain ⟨r, hr, rfl⟩ := List.mem_map.mp hd
      refine ⟨rfl, ?_, fun _ => rfl⟩
      have hl := ords_len hr
      have h0 := k.n0
      have h6 := k.n6
      have bo := beginnings_ok r (by omega)
      have iz := in_tup_ni false 0 (begs r)
      have e : decide (0 ∈ begs r) = okH 0 r := by
        have h1 : 0 ∈ begs r ↔ okH 0 r = true := by
          rw [mem_begs]
          have hrot : rot r 0 = r := by unfold rot; simp
          rw [hrot]
          have h2 : ne r = 0 ↔ okH 0 r = true := ne_okH r 0
          exact ⟨fun z => h2.mp z.2, fun z => ⟨by omega, h2.mpr z⟩⟩
        cases ho : okH 0 r with
        | true => exact decide_eq_true (h1.mpr ho)
        | false => exact decide_eq_false fun z => by rw [h1.mp z] at ho; cases ho
      have iz' : ∀ S, dIn false (.int 0) (.tup (ni (begs r))) S = .ok (.bl (okH 0 r)) S := fun S => by
        have z := iz S
        rw [← e]; exact z
      rw [okD_row]
      generalize (ords n c).map ti = OR
      generalize D.tup (ni (begs r)) = BR at *
      generalize ti r = TR at *
      simp only [eVar, eC, eOp, eT, eAnd, eOr, eNot, eIf, eAndV, eOrV, eNotV, eCall, aNil, aCons, aStar, sOf, eTup, eFl, eLoc, eSl, oNone, oSome, iOf, eNeg, eChain, eMt, bOf, eDict0, eRev, eListRg, iZipD, sRaise1, sRaise0, eCallV, List.lookup, R.bind_ok, R.bind_er, R.bind_stuck, R.toS_ok, R.toS_er, R.toS_stuck, SR.next_nx, SR.next_rt, SR.next_er, SR.next_bk, SR.next_ct, SR.next_stuck, sNil, sSeq, sBrk, sCnt, sExp, sRet, sRetN, sIf, sSet, sAsg, sAug, sPar2, sPar3, tN, DL.tTup, DL.tNil, DL.tCons, DL.tSub, iSeq, srcOf, iRange1, iRange2, sFor, startD, List.map_cons, List.map_nil, List.length_cons, List.length_nil, List.replicate, List.cons_append, List.nil_append, List.getElem?_cons_zero, List.getElem?_cons_succ, List.set_cons_zero, List.set_cons_succ, dSub_int, dFdiv_int, dMod_int, dLt_int, dLe_int, dGt_int, dGe_int, dAddI_int, dSubI_int, dIsN_non, isN, dAdd_int, ll0, ll1, ll2, ll3, ll4, ll5, ll6, ll7, ll8, ll9, ll10, ll11, ll12, ll13, ll14, ll15, ll16, ll17, ll18, ll19, ll20, ll21, ll22, ll23, ll24, ll25, ll26, ll27, ll28, ll29, ll30, ll31, ll32, ll33, ll34, ll35, ll36, ll37, ll38, ll39, ll40, Nat.reduceSub, Nat.reduceAdd, Nat.reduceEqDiff, if_true, if_false, ifp_t, ifp_f, reduceIte, Bool.true_eq_false, Bool.false_eq_true, Option.map_some, Option.map_none, Option.bind_some, Option.bind_none, tSq, sSet2, seqOf_fl, seqOf_tup, seqOf_ti, Q1_law, bo, iz']) (by rw [List.length_map]; exact Nat.le_trans f1 (by decide)) (by
      intro d hd _
      obtain ⟨r, hr, rfl⟩ := List.mem_map.mp hd
      exact low_row _ r)
  have e : (((ords n c).map ti).filter okD).map id = (cmpl n 0 c).map ti := by
    rw [List.map_id, List.filter_map, ← ords_ok n 0 c]
    congr 1
    refine List.filter_congr fun r _ => ?_
    exact okD_row r
  rw [e] at key
  exact key
theorem turn46 {S : Sto} {n : Nat} (hS : Strm S n []) (hn : n + 100 < 2 ^ 60) (x0 x2 x3 x4 x5 x6 x7 : Option D) : ∃ y3 y4 y5 y6 S', L1_law [x0, some (.loc 1), x2, x3, x4, x5, x6, x7] S = .nx [x0, some (.loc 1), x2, y3, y4, y5, y6, x7] S' ∧ Strm S' (n + 100) [] := by
  obtain ⟨c, m, S1, r1, c6, cn, cs, q0, q6, s1, mm⟩ := counts_ok (most := 6) hS (by decide) (by decide) (by omega)
  have k : Cts c m := ⟨q0, by omega, c6, cn, cs, mm⟩
  obtain ⟨f1, f2, f3⟩ := k.facts
  have od := orders_ok 40 m c (by omega) (by omega) c6 cn cs
  have su := ti_sum c
  rw [cs] at su
  have cr := count_rows_ok cn (show c.sum ≤ 14 by rw [cs]; omega)
  rw [← f2] at cr
  have ls := lenSet_ok f1 (ords_nd m c)
  have fo := fine_ok k x0 (some (.loc 1)) x2 (some (ti c)) (some (.int (m : Int))) x6 x7
  have ro := ready_orders_ok (show m ≤ 7 by omega) c6 cn cs
  have co := count_ready_ok q0 k.n6 c6 cn cs
  have er := eq_rows (cmpl m 0 c)
  have so := surplus_ok (c := c) (by omega) (fun x hx => ⟨cn x hx, by have := mem_le_sum cn hx; omega⟩)
  have bm := bMax_two 0 (balC 0 c)
  have ln1 : ∀ S, bLen [.fl ((ords m c).map ti)] S = .ok (.int (((ords m c).length : Nat) : Int)) S := fun S => by
    show R.ok (D.int ((((ords m c).map ti).length : Nat) : Int)) S = _
    rw [List.length_map]
  have ln2 : ∀ S, bLen [.fl ((cmpl m 0 c).map ti)] S = .ok (.int (((cmpl m 0 c).length : Nat) : Int)) S := fun S => by
    show R.ok (D.int ((((cmpl m 0 c).map ti).length : Nat) : Int)) S = _
    rw [List.length_map]
  have lc : (cmpl m 0 c).length ≤ 300 := Nat.le_trans (by rw [← ords_ok]; exact List.length_filter_le _ _) f1
  have m1 := mulT_int (i := (((cmpl m 0 c).length : Nat) : Int)) (j := ((m : Nat) : Int)) ⟨by omega, by omega⟩
  have m2 := mulT_int (i := (((ords m c).length : Nat) : Int)) (j := max 0 (balC 0 c)) ⟨by omega, by omega⟩
  rw [← f3] at m2
  have nq : ∀ (i : Int) S, dEq true (.int i) (.int i) S = .ok (.bl false) S := fun i S => by rw [dEq_int]; simp
  have cok : CntOk c 40 = true := cnt_mk cn (by omega) (by omega) (by omega)
  have gn : ∀ (ρ : Ev) (S : Sto), ρ[3]? = some (some (ti c)) → eListG (eGen G_each_ready (aCons (eVar 3) aNil)) ρ S = .ok (.fl ((cmpl m 0 c).map ti)) S := fun ρ S h => by
    have e := each_G cok
    rw [cs, Int.toNat_natCast] at e
    have t1 : ttL [ti c] = true := by
      unfold ti
      simp only [ttL, tt, ttL_ints, Bool.and_self]
    unfold eListG eGen
    have a : (aCons (eVar 3) aNil) ρ S = .ok [ti c] S := by
      simp only [aCons, aNil, eVar, h, R.bind_ok]
    rw [a]
    show (R.bind (if ttL [ti c] = true then (match G_each_ready [ti c] with
      | some xs => R.ok xs S
      | none => .stuck) else .stuck) fun xs S1 => ifp (xs.length ≤ sizeLine) (R.ok (D.fl xs) S1) .stuck) = _
    rw [if_pos t1, e]
    exact ifp_pos (by rw [List.length_map]; exact Nat.le_trans lc (by decide))
  have gn' := gn [x0, some (.loc 1), x2, some (ti c), some (.fl ((ords m c).map ti)), some (.int (m : Int)), some (.fl ((cmpl m 0 c).map ti)), x7] S1 rfl
  refine ⟨some (ti c), some (.fl ((ords m c).map ti)), some (.int (m : Int)), some (.fl ((cmpl m 0 c).map ti)), S1, ?_, s1.mono (by omega)⟩
  unfold L1_law
  have fo' := fo S1
  generalize eLc finFl (iSeq (eVar 4)) (tN 7) [7] Q1_law E1_law = LC at *
  generalize eListG (eGen G_each_ready (aCons (eVar 3) aNil)) = LG at *
  generalize (((cmpl m 0 c).length : Nat) : Int) * ((m : Nat) : Int) = PR at *
  generalize (((ords m c).length : Nat) : Int) = LO at *
  generalize (((cmpl m 0 c).length : Nat) : Int) = LC2 at *
  generalize max 0 (balC 0 c) = MX at *
  generalize D.fl ((ords m c).map ti) = OR at *
  generalize D.fl ((cmpl m 0 c).map ti) = RW at *
  generalize ti c = TC at *
  simp only [eVar, eC, eOp, eT, eAnd, eOr, eNot, eIf, eAndV, eOrV, eNotV, eCall, aNil, aCons, aStar, sOf, eTup, eFl, eLoc, eSl, oNone, oSome, iOf, eNeg, eChain, eMt, bOf, eDict0, eRev, eListRg, iZipD, sRaise1, sRaise0, eCallV, List.lookup, R.bind_ok, R.bind_er, R.bind_stuck, R.toS_ok, R.toS_er, R.toS_stuck, SR.next_nx, SR.next_rt, SR.next_er, SR.next_bk, SR.next_ct, SR.next_stuck, sNil, sSeq, sBrk, sCnt, sExp, sRet, sRetN, sIf, sSet, sAsg, sAug, sPar2, sPar3, tN, DL.tTup, DL.tNil, DL.tCons, DL.tSub, iSeq, srcOf, iRange1, iRange2, sFor, startD, List.map_cons, List.map_nil, List.length_cons, List.length_nil, List.replicate, List.cons_append, List.nil_append, List.getElem?_cons_zero, List.getElem?_cons_succ, List.set_cons_zero, List.set_cons_succ, dSub_int, dFdiv_int, dMod_int, dLt_int, dLe_int, dGt_int, dGe_int, dAddI_int, dSubI_int, dIsN_non, isN, dAdd_int, ll0, ll1, ll2, ll3, ll4, ll5, ll6, ll7, ll8, ll9, ll10, ll11, ll12, ll13, ll14, ll15, ll16, ll17, ll18, ll19, ll20, ll21, ll22, ll23, ll24, ll25, ll26, ll27, ll28, ll29, ll30, ll31, ll32, ll33, ll34, ll35, ll36, ll37, ll38, ll39, ll40, Nat.reduceSub, Nat.reduceAdd, Nat.reduceEqDiff, if_true, if_false, ifp_t, ifp_f, reduceIte, Bool.true_eq_false, Bool.false_eq_true, Option.map_some, Option.map_none, Option.bind_some, Option.bind_none, tSq, sSet2, seqOf_fl, seqOf_tup, seqOf_ti, eLenSet, r1, od, su, ln1, cr, nq, ls, fo', ro, er, co, ln2, m1, so, bm, m2, gn']
theorem law_ok : LawOk F_law := by
  refine law_std (N := 4) (cost := 100) (fun sc ρ => ∃ x2 x3 x4 x5 x6 x7, ρ = [sc, some (.loc 1), x2, x3, x4, x5, x6, x7]) (by decide) (by decide) (fun sc => ⟨_, _, _, _, _, _, rfl⟩) (by decide) ?_
  rintro sc d ρ S n ⟨x2, x3, x4, x5, x6, x7, rfl⟩ hS hn
  obtain ⟨y3, y4, y5, y6, S', h1, h2⟩ := turn46 hS hn sc (some d) x3 x4 x5 x6 x7
  exact ⟨_, _, h1, ⟨_, _, _, _, _, _, rfl⟩, h2⟩
end TX
namespace TX
open PySem PySem.Spec L2 DL
open PyProof.Rows hiding St
structure Tx (K : PySem.W.Frag) (mg : Str → Option Value) (f__law_stream f__law_draw f__law_pick f__law_counts f__law_less f__law_orders f_count_rows f_heights_of f_need_of f_is_integer f_check_place f_turned f_need f_beginnings f__law_missing f__law_ready_orders f_balance_of f_count_ready f__law_surplus f_next_arities f_taken_from f_rows_from f_each_ready f_law : Addr) : Prop where
  mg__law_stream : mg "_law_stream" = some (.ref f__law_stream)
  kp__law_stream : PySem.W.keepIn K (.ref f__law_stream) = true
  mg__law_draw : mg "_law_draw" = some (.ref f__law_draw)
  kp__law_draw : PySem.W.keepIn K (.ref f__law_draw) = true
  mg__law_pick : mg "_law_pick" = some (.ref f__law_pick)
  kp__law_pick : PySem.W.keepIn K (.ref f__law_pick) = true
  mg__law_counts : mg "_law_counts" = some (.ref f__law_counts)
  kp__law_counts : PySem.W.keepIn K (.ref f__law_counts) = true
  mg__law_less : mg "_law_less" = some (.ref f__law_less)
  kp__law_less : PySem.W.keepIn K (.ref f__law_less) = true
  mg__law_orders : mg "_law_orders" = some (.ref f__law_orders)
  kp__law_orders : PySem.W.keepIn K (.ref f__law_orders) = true
  mg_count_rows : mg "count_rows" = some (.ref f_count_rows)
  kp_count_rows : PySem.W.keepIn K (.ref f_count_rows) = true
  mg_heights_of : mg "heights_of" = some (.ref f_heights_of)
  kp_heights_of : PySem.W.keepIn K (.ref f_heights_of) = true
  mg_need_of : mg "need_of" = some (.ref f_need_of)
  kp_need_of : PySem.W.keepIn K (.ref f_need_of) = true
  mg_is_integer : mg "is_integer" = some (.ref f_is_integer)
  kp_is_integer : PySem.W.keepIn K (.ref f_is_integer) = true
  mg_check_place : mg "check_place" = some (.ref f_check_place)
  kp_check_place : PySem.W.keepIn K (.ref f_check_place) = true
  mg_turned : mg "turned" = some (.ref f_turned)
  kp_turned : PySem.W.keepIn K (.ref f_turned) = true
  mg_need : mg "need" = some (.ref f_need)
  kp_need : PySem.W.keepIn K (.ref f_need) = true
  mg_beginnings : mg "beginnings" = some (.ref f_beginnings)
  kp_beginnings : PySem.W.keepIn K (.ref f_beginnings) = true
  mg__law_missing : mg "_law_missing" = some (.ref f__law_missing)
  kp__law_missing : PySem.W.keepIn K (.ref f__law_missing) = true
  mg__law_ready_orders : mg "_law_ready_orders" = some (.ref f__law_ready_orders)
  kp__law_ready_orders : PySem.W.keepIn K (.ref f__law_ready_orders) = true
  mg_balance_of : mg "balance_of" = some (.ref f_balance_of)
  kp_balance_of : PySem.W.keepIn K (.ref f_balance_of) = true
  mg_count_ready : mg "count_ready" = some (.ref f_count_ready)
  kp_count_ready : PySem.W.keepIn K (.ref f_count_ready) = true
  mg__law_surplus : mg "_law_surplus" = some (.ref f__law_surplus)
  kp__law_surplus : PySem.W.keepIn K (.ref f__law_surplus) = true
  mg_next_arities : mg "next_arities" = some (.ref f_next_arities)
  kp_next_arities : PySem.W.keepIn K (.ref f_next_arities) = true
  mg_taken_from : mg "taken_from" = some (.ref f_taken_from)
  kp_taken_from : PySem.W.keepIn K (.ref f_taken_from) = true
  mg_rows_from : mg "rows_from" = some (.ref f_rows_from)
  kp_rows_from : PySem.W.keepIn K (.ref f_rows_from) = true
  mg_each_ready : mg "each_ready" = some (.ref f_each_ready)
  kp_each_ready : PySem.W.keepIn K (.ref f_each_ready) = true
  n_range : mg "range" = none
  n_sum : mg "sum" = none
  n_len : mg "len" = none
  n_set : mg "set" = none
  n_max : mg "max" = none
  n_list : mg "list" = none
  n_abs : mg "abs" = none
  n_tuple : mg "tuple" = none
  n_enumerate : mg "enumerate" = none
  n_min : mg "min" = none
  n_int : mg "int" = none
  n_isinstance : mg "isinstance" = none
  n_bool : mg "bool" = none
section
variable {P : Program} {w : World} {K : PySem.W.Frag} {mg : Str → Option Value} {base : Heap} {f__law_stream f__law_draw f__law_pick f__law_counts f__law_less f__law_orders f_count_rows f_heights_of f_need_of f_is_integer f_check_place f_turned f_need f_beginnings f__law_missing f__law_ready_orders f_balance_of f_count_ready f__law_surplus f_next_arities f_taken_from f_rows_from f_each_ready f_law : Addr}
theorem sc__law_stream : FnScope nm__law_stream ["_law_script"] (defScope st__law_stream) := ⟨rfl, rfl, rfl, by decide +kernel, rfl, by decide +kernel, by decide +kernel⟩
set_option maxHeartbeats 4000000 in
theorem fn__law_stream {fd : FuncData} (T : Tx K mg f__law_stream f__law_draw f__law_pick f__law_counts f__law_less f__law_orders f_count_rows f_heights_of f_need_of f_is_integer f_check_place f_turned f_need f_beginnings f__law_missing f__law_ready_orders f_balance_of f_count_ready f__law_surplus f_next_arities f_taken_from f_rows_from f_each_ready f_law) (Fu : Fun K "_law_stream" "_law_stream" st__law_stream f__law_stream fd) : FnD true P w K mg base 1 f__law_stream F__law_stream := by
  have nd := (sc__law_stream).nd
  exact fnD_of Fu sc__law_stream (Fu.binds fun _ _ _ _ _ _ us hl => match us, hl with | [_], _ => rfl) cl_keep fun cdv A outer s H E hr hG tk po =>
    (dss_cons (ds_setLc 1 (own := [("_law_cell", 2)]) fin_fl (ct_name 2) rfl nd (di_seq (de_var 0)) (blkOk_by (own := [("_law_cell", 2)]) (N := nm__law_stream) (sc := defScope st__law_stream) (by decide +kernel)) (fun _ _ _ _ _ => pg_name (i := 2) nd rfl (Or.inl rfl)) (fun _ _ _ _ _ => dts_nil) (fun _ _ _ _ _ => (de_callB call_abs k_abs T.n_abs (by decide +kernel) (da_cons (de_var 2) da_nil))))
    (dss_one (ds_ret (de_loc (da_cons (de_lc (own := [("_law_cell", 2)]) fin_loc (ct_name 2) rfl nd (di_seq (de_var 1)) (blkOk_by (own := [("_law_cell", 2)]) (N := nm__law_stream) (sc := defScope st__law_stream) (by decide +kernel)) (fun _ _ _ _ _ => pg_name (i := 2) nd rfl (Or.inl rfl)) (fun _ _ _ _ _ => (dts_one (dt_cmp op_ge k_ge (de_var 2) (de_op op_pow k_pow de_int de_int) (nomark _)))) (fun _ _ _ _ _ => (de_var 2))) (da_cons (de_op or_add k_add (de_var 1) (de_fl (da_cons (de_op or_add k_add (de_callB c_len k_len T.n_len (by decide +kernel) (da_cons (de_var 1) da_nil)) de_int) da_nil))) (da_cons de_int da_nil)))))))
theorem sc__law_draw : FnScope nm__law_draw ["_law_stream_here", "_law_many"] (defScope st__law_draw) := ⟨rfl, rfl, rfl, by decide +kernel, rfl, by decide +kernel, by decide +kernel⟩
set_option maxHeartbeats 4000000 in
theorem fn__law_draw {fd : FuncData} (T : Tx K mg f__law_stream f__law_draw f__law_pick f__law_counts f__law_less f__law_orders f_count_rows f_heights_of f_need_of f_is_integer f_check_place f_turned f_need f_beginnings f__law_missing f__law_ready_orders f_balance_of f_count_ready f__law_surplus f_next_arities f_taken_from f_rows_from f_each_ready f_law) (Fu : Fun K "_law_draw" "_law_draw" st__law_draw f__law_draw fd) : FnD true P w K mg base 1 f__law_draw F__law_draw := by
  have nd := (sc__law_draw).nd
  exact fnD_of Fu sc__law_draw (Fu.binds fun _ _ _ _ _ _ us hl => match us, hl with | [_, _], _ => rfl) cl_drop fun cdv A outer s H E hr hG tk po =>
    (dss_cons (ds_while 4000 po (dt_cmp (or_ne hr.units) k_neD (de_ix (de_var 0) de_int) (de_fl da_nil) (nomark _)) (dss_cons (ds_set 2 nd (de_ix (de_ix (de_var 0) de_int) de_int))
    (dss_cons (ds_if (dt_cmp op_gt k_gt (de_var 2) de_int (nomark _)) (dss_cons (ds_asg (de_op op_fdivW k_fdiv (de_var 2) (de_var 1)) (dg_sub (W := (fun cls d _ H' => E cls d H')) (de_ix (de_var 0) de_int) de_int))
    (dss_one (ds_ret (de_op op_modN k_mod (de_var 2) (de_var 1))))) dss_nil)
    (dss_one (ds_expr (de_bm PySem.F.plainAttrs_list PySem.F.slot_list_pop PySem.F.type_list_pop mt_popAt k_popAt chk_lst (de_ix (de_var 0) de_int) (da_cons de_int da_nil)))))))
    (dss_cons (ds_set 3 nd (de_op or_add k_add (de_ix (de_var 0) de_int) de_int))
    (dss_cons (ds_asg (de_var 3) (dg_sub (W := (fun cls d _ H' => E cls d H')) (de_var 0) de_int))
    (dss_cons (ds_set 4 nd (de_op op_modN k_mod (de_ix (de_ix (de_var 0) de_int) (de_op op_modN k_mod (de_var 3) (de_callB c_len k_len T.n_len (by decide +kernel) (da_cons (de_ix (de_var 0) de_int) da_nil)))) de_int))
    (dss_cons (ds_set 5 nd (de_op op_modN k_mod (de_op or_add k_add (de_op or_add k_add (de_op or_mul k_mul (de_var 4) (de_op or_add k_add de_int (de_op or_mul k_mul de_int (de_var 3)))) (de_op or_mul k_mul (de_op or_mul k_mul de_int (de_var 3)) (de_var 3))) de_int) de_int))
    (dss_one (ds_ret (de_op op_modN k_mod (de_op op_fdivW k_fdiv (de_op op_modN k_mod (de_op or_mul k_mul (de_var 5) (de_var 5)) de_int) de_int) (de_var 1)))))))))
theorem sc__law_pick : FnScope nm__law_pick ["_law_stream_here", "_law_items"] (defScope st__law_pick) := ⟨rfl, rfl, rfl, by decide +kernel, rfl, by decide +kernel, by decide +kernel⟩
set_option maxHeartbeats 4000000 in
theorem fn__law_pick {fd : FuncData} (T : Tx K mg f__law_stream f__law_draw f__law_pick f__law_counts f__law_less f__law_orders f_count_rows f_heights_of f_need_of f_is_integer f_check_place f_turned f_need f_beginnings f__law_missing f__law_ready_orders f_balance_of f_count_ready f__law_surplus f_next_arities f_taken_from f_rows_from f_each_ready f_law) (Fu : Fun K "_law_pick" "_law_pick" st__law_pick f__law_pick fd) (G__law_draw : FnD true P w K mg base 1 f__law_draw F__law_draw) : FnD true P w K mg base 2 f__law_pick F__law_pick := by
  have nd := (sc__law_pick).nd
  exact fnD_of Fu sc__law_pick (Fu.binds fun _ _ _ _ _ _ us hl => match us, hl with | [_, _], _ => rfl) cl_drop fun cdv A outer s H E hr hG tk po =>
    (dss_one (ds_ret (de_ix (de_var 1) (de_callD G__law_draw (hr.mono (by decide)) hG tk T.mg__law_draw T.kp__law_draw (da_cons (de_var 0) (da_cons (de_callB c_len k_len T.n_len (by decide +kernel) (da_cons (de_var 1) da_nil)) da_nil))))))
theorem sc__law_counts : FnScope nm__law_counts ["_law_stream_here", "_law_most"] (defScope st__law_counts) := ⟨rfl, rfl, rfl, by decide +kernel, rfl, by decide +kernel, by decide +kernel⟩
set_option maxHeartbeats 4000000 in
theorem fn__law_counts {fd : FuncData} (T : Tx K mg f__law_stream f__law_draw f__law_pick f__law_counts f__law_less f__law_orders f_count_rows f_heights_of f_need_of f_is_integer f_check_place f_turned f_need f_beginnings f__law_missing f__law_ready_orders f_balance_of f_count_ready f__law_surplus f_next_arities f_taken_from f_rows_from f_each_ready f_law) (Fu : Fun K "_law_counts" "_law_counts" st__law_counts f__law_counts fd) (G__law_pick : FnD true P w K mg base 2 f__law_pick F__law_pick) (G__law_draw : FnD true P w K mg base 1 f__law_draw F__law_draw) : FnD true P w K mg base 3 f__law_counts F__law_counts := by
  have nd := (sc__law_counts).nd
  exact fnD_of Fu sc__law_counts (Fu.binds fun _ _ _ _ _ _ us hl => match us, hl with | [_, _], _ => rfl) cl_drop fun cdv A outer s H E hr hG tk po =>
    (dss_cons (ds_set 2 nd (de_fl (da_cons (de_fl (da_cons de_int (da_cons de_int (da_cons de_int (da_cons de_int da_nil))))) (da_cons (de_fl (da_cons de_int (da_cons de_int (da_cons de_int (da_cons de_int (da_cons de_int da_nil)))))) (da_cons (de_fl (da_cons de_int (da_cons de_int da_nil))) (da_cons (de_fl (da_cons de_int (da_cons de_int (da_cons de_int (da_cons de_int (da_cons de_int (da_cons de_int (da_cons de_int da_nil)))))))) (da_cons (de_fl (da_cons de_int (da_cons de_int da_nil))) (da_cons (de_fl (da_cons de_int (da_cons de_int da_nil))) da_nil))))))))
    (dss_cons (ds_par2 3 4 rfl nd (da_cons (de_op op_rep k_mulL (de_fl (da_cons de_int da_nil)) de_int) (da_cons (de_callD G__law_pick (hr.mono (by decide)) hG tk T.mg__law_pick T.kp__law_pick (da_cons (de_var 0) (da_cons (de_var 2) da_nil))) da_nil)))
    (dss_cons (ds_for po rfl (di_range1 rfl T.n_range (da_cons (de_op or_add k_add de_int (de_callD G__law_draw (hr.mono (by decide)) hG tk T.mg__law_draw T.kp__law_draw (da_cons (de_var 0) (da_cons (de_var 1) da_nil)))) da_nil)) (dg_name 5 nd) (dss_cons (ds_set 6 nd (de_callD G__law_pick (hr.mono (by decide)) hG tk T.mg__law_pick T.kp__law_pick (da_cons (de_var 0) (da_cons (de_var 4) da_nil))))
    (dss_one (ds_asg (de_op or_add k_add (de_ix (de_var 3) (de_var 6)) de_int) (dg_sub (W := (fun cls d _ H' => E cls d H')) (de_var 3) (de_var 6))))) dss_nil)
    (dss_one (ds_ret (de_callTy call_tuple_of k_tuple T.n_tuple (by decide +kernel) (da_cons (de_var 3) da_nil)))))))
theorem sc__law_less : FnScope nm__law_less ["_law_counts_here", "_law_token"] (defScope st__law_less) := ⟨rfl, rfl, rfl, by decide +kernel, rfl, by decide +kernel, by decide +kernel⟩
set_option maxHeartbeats 4000000 in
theorem fn__law_less {fd : FuncData} (T : Tx K mg f__law_stream f__law_draw f__law_pick f__law_counts f__law_less f__law_orders f_count_rows f_heights_of f_need_of f_is_integer f_check_place f_turned f_need f_beginnings f__law_missing f__law_ready_orders f_balance_of f_count_ready f__law_surplus f_next_arities f_taken_from f_rows_from f_each_ready f_law) (Fu : Fun K "_law_less" "_law_less" st__law_less f__law_less fd) : FnD true P w K mg base 1 f__law_less F__law_less := by
  have nd := (sc__law_less).nd
  exact fnD_of Fu sc__law_less (Fu.binds fun _ _ _ _ _ _ us hl => match us, hl with | [_, _], _ => rfl) cl_drop fun cdv A outer s H E hr hG tk po =>
    (dss_one (ds_ret (de_op or_add k_add (de_op or_add k_add (de_sl mk_fl (de_var 0) do_none (do_some (de_var 1))) (de_tup (da_cons (de_op op_sub k_sub (de_ix (de_var 0) (de_var 1)) de_int) da_nil))) (de_sl mk_fl (de_var 0) (do_some (de_op or_add k_add (de_var 1) de_int)) do_none))))
theorem sc__law_orders : FnScope nm__law_orders ["_law_counts_here"] (defScope st__law_orders) := ⟨rfl, rfl, rfl, by decide +kernel, rfl, by decide +kernel, by decide +kernel⟩
set_option maxHeartbeats 4000000 in
theorem fn__law_orders {fd : FuncData} (T : Tx K mg f__law_stream f__law_draw f__law_pick f__law_counts f__law_less f__law_orders f_count_rows f_heights_of f_need_of f_is_integer f_check_place f_turned f_need f_beginnings f__law_missing f__law_ready_orders f_balance_of f_count_ready f__law_surplus f_next_arities f_taken_from f_rows_from f_each_ready f_law) (Fu : Fun K "_law_orders" "_law_orders" st__law_orders f__law_orders fd) (G__law_less : FnD true P w K mg base 1 f__law_less F__law_less) (n : Nat) : FnD true P w K mg base (2 + n) f__law_orders (F__law_orders n) := by
  induction n with
  | zero => exact fnD_stuck
  | succ n G__law_orders =>
  have nd := (sc__law_orders).nd
  show FnD true P w K mg base (2 + n + 1) f__law_orders (fnC close 5 1 (B__law_orders (F__law_orders n)))
  exact fnD_of Fu sc__law_orders (Fu.binds fun _ _ _ _ _ _ us hl => match us, hl with | [_], _ => rfl) cl_drop fun cdv A outer s H E hr hG tk po =>
    (dss_cons (ds_if (dt_cmp (or_eq hr.units) k_eqD (de_callB (cr_sum2 rfl) k_sum2 T.n_sum (by decide +kernel) (da_cons (de_var 0) da_nil)) de_int (nomark _)) (dss_one (ds_ret (de_fl (da_cons (de_tup da_nil) da_nil)))) dss_nil)
    (dss_cons (ds_set 1 nd (de_loc da_nil))
    (dss_cons (ds_for po rfl (di_enum rfl T.n_enumerate (da_cons (de_var 0) da_nil)) (dg_tup rfl (dgs_cons (dg_name 2 nd) (dgs_cons (dg_name 3 nd) dgs_nil))) (dss_one (ds_if (dt_cmp op_gt k_gt (de_var 3) de_int (nomark _)) (dss_one (ds_expr (de_bm PySem.F.plainAttrs_list PySem.F.slot_list_extend PySem.F.type_list_extend mt_extend k_extend chk_lst (de_var 1) (da_cons (de_lc (own := [("_law_rest", 4)]) fin_fl (ct_name 4) rfl nd (di_seq (de_callD G__law_orders (hr.mono (by omega)) hG tk T.mg__law_orders T.kp__law_orders (da_cons (de_callD G__law_less (hr.mono (by omega)) hG tk T.mg__law_less T.kp__law_less (da_cons (de_var 0) (da_cons (de_var 2) da_nil))) da_nil))) (blkOk_by (own := [("_law_rest", 4)]) (N := nm__law_orders) (sc := defScope st__law_orders) (by decide +kernel)) (fun _ _ _ _ _ => pg_name (i := 4) nd rfl (Or.inl rfl)) (fun _ _ _ _ _ => dts_nil) (fun _ _ _ _ _ => (de_op or_add k_add (de_tup (da_cons (de_var 2) da_nil)) (de_var 4)))) da_nil)))) dss_nil)) dss_nil)
    (dss_one (ds_ret (de_var 1))))))
theorem sc_count_rows : FnScope nm_count_rows ["counts"] (defScope st_count_rows) := ⟨rfl, rfl, rfl, by decide +kernel, rfl, by decide +kernel, by decide +kernel⟩
set_option maxHeartbeats 4000000 in
theorem fn_count_rows {fd : FuncData} (T : Tx K mg f__law_stream f__law_draw f__law_pick f__law_counts f__law_less f__law_orders f_count_rows f_heights_of f_need_of f_is_integer f_check_place f_turned f_need f_beginnings f__law_missing f__law_ready_orders f_balance_of f_count_ready f__law_surplus f_next_arities f_taken_from f_rows_from f_each_ready f_law) (Fu : Fun K "count_rows" "count_rows" st_count_rows f_count_rows fd) : FnD false P w K mg base 1 f_count_rows F_count_rows := by
  have nd := (sc_count_rows).nd
  exact fnD_of Fu sc_count_rows (Fu.binds fun _ _ _ _ _ _ us hl => match us, hl with | [_], _ => rfl) cl_drop fun cdv A outer s H E hr hG tk po =>
    (dss_cons (ds_asg (de_tup (da_cons de_int (da_cons de_int da_nil))) (dg_tup rfl (dgs_cons (dg_name 1 nd) (dgs_cons (dg_name 2 nd) dgs_nil))))
    (dss_cons (ds_for po rfl (di_seq (de_var 0)) (dg_name 3 nd) (dss_one (ds_for po rfl (di_range1 rfl T.n_range (da_cons (de_var 3) da_nil)) (dg_name 4 nd) (dss_cons (ds_aug 2 nd de_int ip_add k_ipadd)
    (dss_one (ds_set 1 nd (de_op op_fdivW k_fdiv (de_op or_mulT k_mulT (de_var 1) (de_var 2)) (de_op or_add k_add (de_var 4) de_int))))) dss_nil)) dss_nil)
    (dss_one (ds_ret (de_var 1)))))
theorem sc_heights_of : FnScope nm_heights_of ["row"] (defScope st_heights_of) := ⟨rfl, rfl, rfl, by decide +kernel, rfl, by decide +kernel, by decide +kernel⟩
set_option maxHeartbeats 4000000 in
theorem fn_heights_of {fd : FuncData} (T : Tx K mg f__law_stream f__law_draw f__law_pick f__law_counts f__law_less f__law_orders f_count_rows f_heights_of f_need_of f_is_integer f_check_place f_turned f_need f_beginnings f__law_missing f__law_ready_orders f_balance_of f_count_ready f__law_surplus f_next_arities f_taken_from f_rows_from f_each_ready f_law) (Fu : Fun K "heights_of" "heights_of" st_heights_of f_heights_of fd) : FnD false P w K mg base 1 f_heights_of F_heights_of := by
  have nd := (sc_heights_of).nd
  exact fnD_of Fu sc_heights_of (Fu.binds fun _ _ _ _ _ _ us hl => match us, hl with | [_], _ => rfl) cl_drop fun cdv A outer s H E hr hG tk po =>
    (dss_cons (ds_set 1 nd (de_loc da_nil))
    (dss_cons (ds_set 2 nd de_int)
    (dss_cons (ds_for po rfl (di_seq (de_var 0)) (dg_name 3 nd) (dss_cons (ds_aug 2 nd (de_op op_sub k_sub de_int (de_var 3)) ip_add k_ipadd)
    (dss_one (ds_expr (de_bm PySem.F.plainAttrs_list PySem.F.slot_list_append PySem.F.type_list_append mt_append k_append chk_lst (de_var 1) (da_cons (de_var 2) da_nil))))) dss_nil)
    (dss_one (ds_ret (de_callTy call_tuple_of k_tuple T.n_tuple (by decide +kernel) (da_cons (de_var 1) da_nil)))))))
theorem sc_need_of : FnScope nm_need_of ["row"] (defScope st_need_of) := ⟨rfl, rfl, rfl, by decide +kernel, rfl, by decide +kernel, by decide +kernel⟩
set_option maxHeartbeats 4000000 in
theorem fn_need_of {fd : FuncData} (T : Tx K mg f__law_stream f__law_draw f__law_pick f__law_counts f__law_less f__law_orders f_count_rows f_heights_of f_need_of f_is_integer f_check_place f_turned f_need f_beginnings f__law_missing f__law_ready_orders f_balance_of f_count_ready f__law_surplus f_next_arities f_taken_from f_rows_from f_each_ready f_law) (Fu : Fun K "need_of" "need_of" st_need_of f_need_of fd) (G_heights_of : FnD false P w K mg base 1 f_heights_of F_heights_of) : FnD false P w K mg base 2 f_need_of F_need_of := by
  have nd := (sc_need_of).nd
  exact fnD_of Fu sc_need_of (Fu.binds fun _ _ _ _ _ _ us hl => match us, hl with | [_], _ => rfl) cl_drop fun cdv A outer s H E hr hG tk po =>
    (dss_one (ds_ret (de_op op_sub k_sub de_int (de_callB (c_min rfl) k_min T.n_min (by decide +kernel) (da_cons (de_op or_add k_add (de_fl (da_cons de_int da_nil)) (de_callTy call_list_of (k_list mk_fl) T.n_list (by decide +kernel) (da_cons (de_callD G_heights_of (hr.mono (by decide)) (fun z => nomatch z) tk T.mg_heights_of T.kp_heights_of (da_cons (de_var 0) da_nil)) da_nil))) da_nil)))))
theorem sc_is_integer : FnScope nm_is_integer ["value", "low", "high"] (defScope st_is_integer) := ⟨rfl, rfl, rfl, by decide +kernel, rfl, by decide +kernel, by decide +kernel⟩
set_option maxHeartbeats 4000000 in
theorem fn_is_integer {fd : FuncData} (T : Tx K mg f__law_stream f__law_draw f__law_pick f__law_counts f__law_less f__law_orders f_count_rows f_heights_of f_need_of f_is_integer f_check_place f_turned f_need f_beginnings f__law_missing f__law_ready_orders f_balance_of f_count_ready f__law_surplus f_next_arities f_taken_from f_rows_from f_each_ready f_law) (Fu : Fun K "is_integer" "is_integer" st_is_integer f_is_integer fd) : FnD false P w K mg base 1 f_is_integer F_is_integer := by
  have nd := (sc_is_integer).nd
  exact fnD_of Fu sc_is_integer (Fu.binds fun _ _ _ _ _ _ us hl => match us, hl with | [_, _, _], _ => rfl) cl_drop fun cdv A outer s H E hr hG tk po =>
    (dss_one (ds_ret (de_and (de_callB call_isi k_isi T.n_isinstance (by decide +kernel) (da_cons (de_var 0) (da_cons (de_bty T.n_int (by decide +kernel)) da_nil))) (de_and (de_not (de_callB call_isi k_isi T.n_isinstance (by decide +kernel) (da_cons (de_var 0) (da_cons (de_bty T.n_bool (by decide +kernel)) da_nil)))) (de_one (de_chain op_le k_le op_le k_le (de_var 1) (de_var 0) (de_var 2)))))))
theorem sc_check_place : FnScope nm_check_place ["ring", "value"] (defScope st_check_place) := ⟨rfl, rfl, rfl, by decide +kernel, rfl, by decide +kernel, by decide +kernel⟩
set_option maxHeartbeats 4000000 in
theorem fn_check_place {fd : FuncData} (T : Tx K mg f__law_stream f__law_draw f__law_pick f__law_counts f__law_less f__law_orders f_count_rows f_heights_of f_need_of f_is_integer f_check_place f_turned f_need f_beginnings f__law_missing f__law_ready_orders f_balance_of f_count_ready f__law_surplus f_next_arities f_taken_from f_rows_from f_each_ready f_law) (Fu : Fun K "check_place" "check_place" st_check_place f_check_place fd) (G_is_integer : FnD false P w K mg base 1 f_is_integer F_is_integer) {C_NoPlace : Addr} (T0_NoPlace : XCls K "NoPlace" C_NoPlace) (mc_NoPlace : mg "NoPlace" = some (.ref C_NoPlace)) {I_NoPlace : Addr} (TI_NoPlace : XInit K C_NoPlace I_NoPlace "NoPlace.__init__" "value") : FnD false P w K mg base 2 f_check_place F_check_place := by
  have nd := (sc_check_place).nd
  exact fnD_of Fu sc_check_place (Fu.binds fun _ _ _ _ _ _ us hl => match us, hl with | [_, _], _ => rfl) cl_drop fun cdv A outer s H E hr hG tk po =>
    (dss_one (ds_if (dt_not (dt_val (de_callD G_is_integer (hr.mono (by decide)) (fun z => nomatch z) tk T.mg_is_integer T.kp_is_integer (da_cons (de_var 1) (da_cons de_int (da_cons (de_op op_sub k_sub (de_callB c_len k_len T.n_len (by decide +kernel) (da_cons (de_var 0) da_nil)) de_int) da_nil)))))) (dss_one (ds_raise1 rfl tk T0_NoPlace TI_NoPlace hr mc_NoPlace (da_cons (de_var 1) da_nil))) dss_nil))
theorem sc_turned : FnScope nm_turned ["ring", "place"] (defScope st_turned) := ⟨rfl, rfl, rfl, by decide +kernel, rfl, by decide +kernel, by decide +kernel⟩
set_option maxHeartbeats 4000000 in
theorem fn_turned {fd : FuncData} (T : Tx K mg f__law_stream f__law_draw f__law_pick f__law_counts f__law_less f__law_orders f_count_rows f_heights_of f_need_of f_is_integer f_check_place f_turned f_need f_beginnings f__law_missing f__law_ready_orders f_balance_of f_count_ready f__law_surplus f_next_arities f_taken_from f_rows_from f_each_ready f_law) (Fu : Fun K "turned" "turned" st_turned f_turned fd) (G_check_place : FnD false P w K mg base 2 f_check_place F_check_place) : FnD false P w K mg base 3 f_turned F_turned := by
  have nd := (sc_turned).nd
  exact fnD_of Fu sc_turned (Fu.binds fun _ _ _ _ _ _ us hl => match us, hl with | [_, _], _ => rfl) cl_drop fun cdv A outer s H E hr hG tk po =>
    (dss_cons (ds_expr (de_callD G_check_place (hr.mono (by decide)) (fun z => nomatch z) tk T.mg_check_place T.kp_check_place (da_cons (de_var 0) (da_cons (de_var 1) da_nil))))
    (dss_one (ds_ret (de_tup (da_star (de_sl mk_fl (de_var 0) (do_some (de_var 1)) do_none) (da_star (de_sl mk_fl (de_var 0) do_none (do_some (de_var 1))) da_nil))))))
theorem sc_need : FnScope nm_need ["ring", "place"] (defScope st_need) := ⟨rfl, rfl, rfl, by decide +kernel, rfl, by decide +kernel, by decide +kernel⟩
set_option maxHeartbeats 4000000 in
theorem fn_need {fd : FuncData} (T : Tx K mg f__law_stream f__law_draw f__law_pick f__law_counts f__law_less f__law_orders f_count_rows f_heights_of f_need_of f_is_integer f_check_place f_turned f_need f_beginnings f__law_missing f__law_ready_orders f_balance_of f_count_ready f__law_surplus f_next_arities f_taken_from f_rows_from f_each_ready f_law) (Fu : Fun K "need" "need" st_need f_need fd) (G_need_of : FnD false P w K mg base 2 f_need_of F_need_of) (G_turned : FnD false P w K mg base 3 f_turned F_turned) : FnD false P w K mg base 4 f_need F_need := by
  have nd := (sc_need).nd
  exact fnD_of Fu sc_need (Fu.binds fun _ _ _ _ _ _ us hl => match us, hl with | [_, _], _ => rfl) cl_drop fun cdv A outer s H E hr hG tk po =>
    (dss_one (ds_ret (de_callD G_need_of (hr.mono (by decide)) (fun z => nomatch z) tk T.mg_need_of T.kp_need_of (da_cons (de_callD G_turned (hr.mono (by decide)) (fun z => nomatch z) tk T.mg_turned T.kp_turned (da_cons (de_var 0) (da_cons (de_var 1) da_nil))) da_nil))))
theorem sc_beginnings : FnScope nm_beginnings ["ring"] (defScope st_beginnings) := ⟨rfl, rfl, rfl, by decide +kernel, rfl, by decide +kernel, by decide +kernel⟩
set_option maxHeartbeats 4000000 in
theorem fn_beginnings {fd : FuncData} (T : Tx K mg f__law_stream f__law_draw f__law_pick f__law_counts f__law_less f__law_orders f_count_rows f_heights_of f_need_of f_is_integer f_check_place f_turned f_need f_beginnings f__law_missing f__law_ready_orders f_balance_of f_count_ready f__law_surplus f_next_arities f_taken_from f_rows_from f_each_ready f_law) (Fu : Fun K "beginnings" "beginnings" st_beginnings f_beginnings fd) (G_need : FnD false P w K mg base 4 f_need F_need) : FnD false P w K mg base 5 f_beginnings F_beginnings := by
  have nd := (sc_beginnings).nd
  exact fnD_of Fu sc_beginnings (Fu.binds fun _ _ _ _ _ _ us hl => match us, hl with | [_], _ => rfl) cl_drop fun cdv A outer s H E hr hG tk po =>
    (dss_one (ds_ret (de_callTy call_tuple_of k_tuple T.n_tuple (by decide +kernel) (da_cons (de_lc (own := [("place", 1)]) fin_fl (ct_name 1) rfl nd (di_range1 rfl T.n_range (da_cons (de_callB c_len k_len T.n_len (by decide +kernel) (da_cons (de_var 0) da_nil)) da_nil)) (blkOk_by (own := [("place", 1)]) (N := nm_beginnings) (sc := defScope st_beginnings) (by decide +kernel)) (fun _ _ _ _ _ => pg_name (i := 1) nd rfl (Or.inl rfl)) (fun _ _ _ _ _ => (dts_one (dt_cmp (or_eq hr.units) k_eqD (de_callD G_need (hr.mono (by decide)) (fun z => nomatch z) takes0 T.mg_need T.kp_need (da_cons (de_var 0) (da_cons (de_var 1) da_nil))) de_int (nomark _)))) (fun _ _ _ _ _ => (de_var 1))) da_nil))))
theorem sc__law_missing : FnScope nm__law_missing ["_law_row"] (defScope st__law_missing) := ⟨rfl, rfl, rfl, by decide +kernel, rfl, by decide +kernel, by decide +kernel⟩
set_option maxHeartbeats 4000000 in
theorem fn__law_missing {fd : FuncData} (T : Tx K mg f__law_stream f__law_draw f__law_pick f__law_counts f__law_less f__law_orders f_count_rows f_heights_of f_need_of f_is_integer f_check_place f_turned f_need f_beginnings f__law_missing f__law_ready_orders f_balance_of f_count_ready f__law_surplus f_next_arities f_taken_from f_rows_from f_each_ready f_law) (Fu : Fun K "_law_missing" "_law_missing" st__law_missing f__law_missing fd) : FnD true P w K mg base 1 f__law_missing F__law_missing := by
  have nd := (sc__law_missing).nd
  exact fnD_of Fu sc__law_missing (Fu.binds fun _ _ _ _ _ _ us hl => match us, hl with | [_], _ => rfl) cl_drop fun cdv A outer s H E hr hG tk po =>
    (dss_cons (ds_asg (de_tup (da_cons de_int (da_cons de_int da_nil))) (dg_tup rfl (dgs_cons (dg_name 1 nd) (dgs_cons (dg_name 2 nd) dgs_nil))))
    (dss_cons (ds_for po rfl (di_seq (de_var 0)) (dg_name 3 nd) (dss_cons (ds_if (dt_cmp op_lt k_lt (de_var 1) (de_var 3) (nomark _)) (dss_cons (ds_set 2 nd (de_op op_sub k_sub (de_op or_add k_add (de_var 2) (de_var 3)) (de_var 1)))
    (dss_one (ds_set 1 nd (de_var 3)))) dss_nil)
    (dss_one (ds_set 1 nd (de_op or_add k_add (de_op op_sub k_sub (de_var 1) (de_var 3)) de_int)))) dss_nil)
    (dss_one (ds_ret (de_fl (da_cons (de_var 2) (da_cons (de_var 1) da_nil)))))))
theorem sc__law_ready_orders : FnScope nm__law_ready_orders ["_law_counts_here"] (defScope st__law_ready_orders) := ⟨rfl, rfl, rfl, by decide +kernel, rfl, by decide +kernel, by decide +kernel⟩
set_option maxHeartbeats 4000000 in
theorem fn__law_ready_orders {fd : FuncData} (T : Tx K mg f__law_stream f__law_draw f__law_pick f__law_counts f__law_less f__law_orders f_count_rows f_heights_of f_need_of f_is_integer f_check_place f_turned f_need f_beginnings f__law_missing f__law_ready_orders f_balance_of f_count_ready f__law_surplus f_next_arities f_taken_from f_rows_from f_each_ready f_law) (Fu : Fun K "_law_ready_orders" "_law_ready_orders" st__law_ready_orders f__law_ready_orders fd) (G__law_orders : FnD true P w K mg base 42 f__law_orders (F__law_orders 40)) (G__law_missing : FnD true P w K mg base 1 f__law_missing F__law_missing) : FnD true P w K mg base 43 f__law_ready_orders F__law_ready_orders := by
  have nd := (sc__law_ready_orders).nd
  exact fnD_of Fu sc__law_ready_orders (Fu.binds fun _ _ _ _ _ _ us hl => match us, hl with | [_], _ => rfl) cl_drop fun cdv A outer s H E hr hG tk po =>
    (dss_one (ds_ret (de_lc (own := [("_law_row", 1)]) fin_fl (ct_name 1) rfl nd (di_seq (de_callD G__law_orders (hr.mono (by decide)) hG tk T.mg__law_orders T.kp__law_orders (da_cons (de_var 0) da_nil))) (blkOk_by (own := [("_law_row", 1)]) (N := nm__law_ready_orders) (sc := defScope st__law_ready_orders) (by decide +kernel)) (fun _ _ _ _ _ => pg_name (i := 1) nd rfl (Or.inl rfl)) (fun _ _ _ _ _ => (dts_one (dt_cmp (or_eq hr.units) k_eqD (de_ix (de_callD G__law_missing (hr.mono (by decide)) hG takes0 T.mg__law_missing T.kp__law_missing (da_cons (de_var 1) da_nil)) de_int) de_int (nomark _)))) (fun _ _ _ _ _ => (de_var 1)))))
theorem sc_balance_of : FnScope nm_balance_of ["counts"] (defScope st_balance_of) := ⟨rfl, rfl, rfl, by decide +kernel, rfl, by decide +kernel, by decide +kernel⟩
set_option maxHeartbeats 4000000 in
theorem fn_balance_of {fd : FuncData} (T : Tx K mg f__law_stream f__law_draw f__law_pick f__law_counts f__law_less f__law_orders f_count_rows f_heights_of f_need_of f_is_integer f_check_place f_turned f_need f_beginnings f__law_missing f__law_ready_orders f_balance_of f_count_ready f__law_surplus f_next_arities f_taken_from f_rows_from f_each_ready f_law) (Fu : Fun K "balance_of" "balance_of" st_balance_of f_balance_of fd) : FnD false P w K mg base 1 f_balance_of F_balance_of := by
  have nd := (sc_balance_of).nd
  exact fnD_of Fu sc_balance_of (Fu.binds fun _ _ _ _ _ _ us hl => match us, hl with | [_], _ => rfl) cl_drop fun cdv A outer s H E hr hG tk po =>
    (dss_one (ds_ret (de_callB (cr_sum2 rfl) k_sum2 T.n_sum (by decide +kernel) (da_cons (de_lc (own := [("arity", 1), ("many", 2)]) fin_fl (ct_pair 1 2 (by decide)) rfl nd (di_enum rfl T.n_enumerate (da_cons (de_var 0) da_nil)) (blkOk_by (own := [("arity", 1), ("many", 2)]) (N := nm_balance_of) (sc := defScope st_balance_of) (by decide +kernel)) (fun _ _ _ _ _ => pg_tup rfl (pgs_cons (pg_name (i := 1) nd rfl (Or.inl rfl)) (pgs_cons (pg_name (i := 2) nd rfl (Or.inl rfl)) pgs_nil))) (fun _ _ _ _ _ => dts_nil) (fun _ _ _ _ _ => (de_op or_mulT k_mulT (de_var 2) (de_op op_sub k_sub de_int (de_var 1))))) da_nil))))
theorem sc_count_ready : FnScope nm_count_ready ["counts"] (defScope st_count_ready) := ⟨rfl, rfl, rfl, by decide +kernel, rfl, by decide +kernel, by decide +kernel⟩
set_option maxHeartbeats 4000000 in
theorem fn_count_ready {fd : FuncData} (T : Tx K mg f__law_stream f__law_draw f__law_pick f__law_counts f__law_less f__law_orders f_count_rows f_heights_of f_need_of f_is_integer f_check_place f_turned f_need f_beginnings f__law_missing f__law_ready_orders f_balance_of f_count_ready f__law_surplus f_next_arities f_taken_from f_rows_from f_each_ready f_law) (Fu : Fun K "count_ready" "count_ready" st_count_ready f_count_ready fd) (G_count_rows : FnD false P w K mg base 1 f_count_rows F_count_rows) (G_balance_of : FnD false P w K mg base 1 f_balance_of F_balance_of) : FnD false P w K mg base 2 f_count_ready F_count_ready := by
  have nd := (sc_count_ready).nd
  exact fnD_of Fu sc_count_ready (Fu.binds fun _ _ _ _ _ _ us hl => match us, hl with | [_], _ => rfl) cl_drop fun cdv A outer s H E hr hG tk po =>
    (dss_one (ds_ret (de_op op_fdivW k_fdiv (de_op or_mulT k_mulT (de_callD G_count_rows (hr.mono (by decide)) (fun z => nomatch z) tk T.mg_count_rows T.kp_count_rows (da_cons (de_var 0) da_nil)) (de_callB (c_max rfl) k_max T.n_max (by decide +kernel) (da_cons de_int (da_cons (de_callD G_balance_of (hr.mono (by decide)) (fun z => nomatch z) tk T.mg_balance_of T.kp_balance_of (da_cons (de_var 0) da_nil)) da_nil)))) (de_callB (cr_sum2 rfl) k_sum2 T.n_sum (by decide +kernel) (da_cons (de_var 0) da_nil)))))
theorem sc__law_surplus : FnScope nm__law_surplus ["_law_counts_here"] (defScope st__law_surplus) := ⟨rfl, rfl, rfl, by decide +kernel, rfl, by decide +kernel, by decide +kernel⟩
set_option maxHeartbeats 4000000 in
theorem fn__law_surplus {fd : FuncData} (T : Tx K mg f__law_stream f__law_draw f__law_pick f__law_counts f__law_less f__law_orders f_count_rows f_heights_of f_need_of f_is_integer f_check_place f_turned f_need f_beginnings f__law_missing f__law_ready_orders f_balance_of f_count_ready f__law_surplus f_next_arities f_taken_from f_rows_from f_each_ready f_law) (Fu : Fun K "_law_surplus" "_law_surplus" st__law_surplus f__law_surplus fd) : FnD true P w K mg base 1 f__law_surplus F__law_surplus := by
  have nd := (sc__law_surplus).nd
  exact fnD_of Fu sc__law_surplus (Fu.binds fun _ _ _ _ _ _ us hl => match us, hl with | [_], _ => rfl) cl_drop fun cdv A outer s H E hr hG tk po =>
    (dss_one (ds_ret (de_op op_sub k_sub (de_callB (cr_sum2 rfl) k_sum2 T.n_sum (by decide +kernel) (da_cons (de_var 0) da_nil)) (de_callB (cr_sum2 rfl) k_sum2 T.n_sum (by decide +kernel) (da_cons (de_lc (own := [("_law_token", 1), ("_law_many", 2)]) fin_fl (ct_pair 1 2 (by decide)) rfl nd (di_enum rfl T.n_enumerate (da_cons (de_var 0) da_nil)) (blkOk_by (own := [("_law_token", 1), ("_law_many", 2)]) (N := nm__law_surplus) (sc := defScope st__law_surplus) (by decide +kernel)) (fun _ _ _ _ _ => pg_tup rfl (pgs_cons (pg_name (i := 1) nd rfl (Or.inl rfl)) (pgs_cons (pg_name (i := 2) nd rfl (Or.inl rfl)) pgs_nil))) (fun _ _ _ _ _ => dts_nil) (fun _ _ _ _ _ => (de_op or_mulT k_mulT (de_var 1) (de_var 2)))) da_nil)))))
theorem sc_next_arities : GScope nm_next_arities ["height", "counts"] (defScope st_next_arities) := ⟨rfl, rfl, rfl, by decide +kernel, rfl, by decide +kernel, by decide +kernel⟩
theorem nn_next_arities : ∀ y ∈ (defScope st_next_arities).names, y.2 ≠ .cell ∧ y.2 ≠ .free := by decide +kernel
set_option maxHeartbeats 4000000 in
theorem fn_next_arities {fd : FuncData} (T : Tx K mg f__law_stream f__law_draw f__law_pick f__law_counts f__law_less f__law_orders f_count_rows f_heights_of f_need_of f_is_integer f_check_place f_turned f_need f_beginnings f__law_missing f__law_ready_orders f_balance_of f_count_ready f__law_surplus f_next_arities f_taken_from f_rows_from f_each_ready f_law) (Fu : Fun K "next_arities" "next_arities" st_next_arities f_next_arities fd) : GnU P w K mg base 0 f_next_arities G_next_arities := by
  have nd := (sc_next_arities).nd
  exact gnU_of Fu sc_next_arities nn_next_arities (Fu.binds fun _ _ _ _ _ _ us hl => match us, hl with | [_, _], _ => rfl) gb_next_arities fun cdv L ga =>
    (gssU_one (gsU_forJ (fun X pv H s hX hr => by
      obtain ⟨rfl, rfl, rfl, rfl, rfl⟩ := hX
      exact (dj_enum rfl T.n_enumerate (da_cons (de_var 1) da_nil))) (fun X pv H s hX hr => by
      obtain ⟨rfl, rfl, rfl, rfl, rfl⟩ := hX
      exact (dg_tup rfl (dgs_cons (dg_name 2 nd) (dgs_cons (dg_name 3 nd) dgs_nil)))) (gssU_one (gsU_if (fun X pv H s hX hr => by
      obtain ⟨rfl, rfl, rfl, rfl, rfl⟩ := hX
      exact (dw_t (dw_and (dt_cmp op_gt k_gt (de_var 3) de_int (nomark _)) (dw_and1 (dt_cmp op_le k_le (de_var 2) (de_var 0) (nomark _)))))) (gssU_one (gsU_yield (genv_of sc_next_arities.kind nn_next_arities) (fun X pv H s hX hr => by
      obtain ⟨rfl, rfl, rfl, rfl, rfl⟩ := hX
      exact (de_var 2)))) gssU_nil))))
theorem sc_taken_from : FnScope nm_taken_from ["counts", "arity"] (defScope st_taken_from) := ⟨rfl, rfl, rfl, by decide +kernel, rfl, by decide +kernel, by decide +kernel⟩
set_option maxHeartbeats 4000000 in
theorem fn_taken_from {fd : FuncData} (T : Tx K mg f__law_stream f__law_draw f__law_pick f__law_counts f__law_less f__law_orders f_count_rows f_heights_of f_need_of f_is_integer f_check_place f_turned f_need f_beginnings f__law_missing f__law_ready_orders f_balance_of f_count_ready f__law_surplus f_next_arities f_taken_from f_rows_from f_each_ready f_law) (Fu : Fun K "taken_from" "taken_from" st_taken_from f_taken_from fd) : FnD false P w K mg base 1 f_taken_from F_taken_from := by
  have nd := (sc_taken_from).nd
  exact fnD_of Fu sc_taken_from (Fu.binds fun _ _ _ _ _ _ us hl => match us, hl with | [_, _], _ => rfl) cl_drop fun cdv A outer s H E hr hG tk po =>
    (dss_one (ds_ret (de_tupK (da_star (de_sl mk_fl (de_var 0) do_none (do_some (de_var 1))) (da_cons (de_op op_sub k_sub (de_ix (de_var 0) (de_var 1)) de_int) (da_star (de_sl mk_fl (de_var 0) (do_some (de_op or_add k_add (de_var 1) de_int)) do_none) da_nil))))))
theorem sc_rows_from : GScope nm_rows_from ["height", "counts"] (defScope st_rows_from) := ⟨rfl, rfl, rfl, by decide +kernel, rfl, by decide +kernel, by decide +kernel⟩
theorem nn_rows_from : ∀ y ∈ (defScope st_rows_from).names, y.2 ≠ .cell ∧ y.2 ≠ .free := by decide +kernel
set_option maxHeartbeats 4000000 in
theorem fn_rows_from {fd : FuncData} (T : Tx K mg f__law_stream f__law_draw f__law_pick f__law_counts f__law_less f__law_orders f_count_rows f_heights_of f_need_of f_is_integer f_check_place f_turned f_need f_beginnings f__law_missing f__law_ready_orders f_balance_of f_count_ready f__law_surplus f_next_arities f_taken_from f_rows_from f_each_ready f_law) (Fu : Fun K "rows_from" "rows_from" st_rows_from f_rows_from fd) (G_next_arities : GnU P w K mg base 0 f_next_arities G_next_arities) (G_taken_from : FnD false P w K mg base 1 f_taken_from F_taken_from) (n : Nat) : GnU P w K mg base (2 + 3 * n) f_rows_from (G_rows_from n) := by
  induction n with
  | zero => exact fun X pins s σ H us vs ds xs _ _ _ _ _ _ _ h => (gz_rows_from h).elim
  | succ n G_rows_from =>
  have nd := (sc_rows_from).nd
  exact gnU_of Fu sc_rows_from nn_rows_from (Fu.binds fun _ _ _ _ _ _ us hl => match us, hl with | [_, _], _ => rfl) (gb_rows_from n) fun cdv L ga =>
    (gssU_cons (gsU_if (fun X pv H s hX hr => by
      obtain ⟨rfl, rfl, rfl, rfl, rfl⟩ := hX
      exact (dt_cmp (or_eq hr.units) k_eqD (de_callB (cr_sum2 rfl) k_sum2 T.n_sum (by decide +kernel) (da_cons (de_var 1) da_nil)) de_int (nomark _))) (gssU_one (gsU_yield (genv_of sc_rows_from.kind nn_rows_from) (fun X pv H s hX hr => by
      obtain ⟨rfl, rfl, rfl, rfl, rfl⟩ := hX
      exact (de_tup da_nil)))) gssU_nil)
    (gssU_one (gsU_forG (k := 2 + 3 * (n + 1)) (k' := 0) (by omega) (genv_of sc_rows_from.kind nn_rows_from) (fun X pv H s hX hr => by
      obtain ⟨rfl, rfl, rfl, rfl, rfl⟩ := hX
      exact (pgU_call G_next_arities (hr.mono (by first | exact Nat.le_succ _ | omega | decide)) rfl (fun _ _ z => z) T.mg_next_arities T.kp_next_arities (da_cons (de_var 0) (da_cons (de_var 1) da_nil)))) (fun X pv H s hX hr => by
      obtain ⟨rfl, rfl, rfl, rfl, rfl⟩ := hX
      exact (dg_name 2 nd)) (gssU_one (gsU_forG (k := 2 + 3 * (n + 1)) (k' := 2 + 3 * n) (by omega) (genv_of sc_rows_from.kind nn_rows_from) (fun X pv H s hX hr => by
      obtain ⟨rfl, rfl, rfl, rfl, rfl⟩ := hX
      exact (pgU_call G_rows_from (hr.mono (by first | exact Nat.le_succ _ | omega | decide)) rfl (fun _ _ z => z) T.mg_rows_from T.kp_rows_from (da_cons (de_op op_sub k_sub (de_op or_add k_add (de_var 0) de_int) (de_var 2)) (da_cons (de_un (de_callD G_taken_from (hr.mono (by first | decide | omega)) (fun z => nomatch z) takes0 T.mg_taken_from T.kp_taken_from (da_cons (de_var 1) (da_cons (de_var 2) da_nil)))) da_nil)))) (fun X pv H s hX hr => by
      obtain ⟨rfl, rfl, rfl, rfl, rfl⟩ := hX
      exact (dg_name 3 nd)) (gssU_one (gsU_yield (genv_of sc_rows_from.kind nn_rows_from) (fun X pv H s hX hr => by
      obtain ⟨rfl, rfl, rfl, rfl, rfl⟩ := hX
      exact (de_tup (da_cons (de_var 2) (da_star (de_var 3) da_nil)))))))))))
theorem sc_each_ready : GScope nm_each_ready ["counts"] (defScope st_each_ready) := ⟨rfl, rfl, rfl, by decide +kernel, rfl, by decide +kernel, by decide +kernel⟩
theorem nn_each_ready : ∀ y ∈ (defScope st_each_ready).names, y.2 ≠ .cell ∧ y.2 ≠ .free := by decide +kernel
set_option maxHeartbeats 4000000 in
theorem fn_each_ready {fd : FuncData} (T : Tx K mg f__law_stream f__law_draw f__law_pick f__law_counts f__law_less f__law_orders f_count_rows f_heights_of f_need_of f_is_integer f_check_place f_turned f_need f_beginnings f__law_missing f__law_ready_orders f_balance_of f_count_ready f__law_surplus f_next_arities f_taken_from f_rows_from f_each_ready f_law) (Fu : Fun K "each_ready" "each_ready" st_each_ready f_each_ready fd) (G_rows_from : GnU P w K mg base 122 f_rows_from (G_rows_from 40)) : GnU P w K mg base 125 f_each_ready G_each_ready := by
  have nd := (sc_each_ready).nd
  exact gnU_of Fu sc_each_ready nn_each_ready (Fu.binds fun _ _ _ _ _ _ us hl => match us, hl with | [_], _ => rfl) gb_each_ready fun cdv L ga =>
    (gssU_one (gsU_yf (Nat.le_refl _) (genv_of sc_each_ready.kind nn_each_ready) (fun X pv H s hX hr => by
      obtain ⟨rfl, rfl, rfl, rfl, rfl⟩ := hX
      exact (pgU_call G_rows_from (hr.mono (by first | exact Nat.le_succ _ | omega | decide)) rfl (fun _ _ z => z) T.mg_rows_from T.kp_rows_from (da_cons de_int (da_cons (de_callTy call_tuple_of k_tuple T.n_tuple (by decide +kernel) (da_cons (de_var 0) da_nil)) da_nil))))))
theorem sc_law : FnScope nm_law ["_law_script"] (defScope st_law) := ⟨rfl, rfl, rfl, by decide +kernel, rfl, by decide +kernel, by decide +kernel⟩
set_option maxHeartbeats 4000000 in
theorem fn_law {fd : FuncData} (T : Tx K mg f__law_stream f__law_draw f__law_pick f__law_counts f__law_less f__law_orders f_count_rows f_heights_of f_need_of f_is_integer f_check_place f_turned f_need f_beginnings f__law_missing f__law_ready_orders f_balance_of f_count_ready f__law_surplus f_next_arities f_taken_from f_rows_from f_each_ready f_law) (Fu : Fun K "law" "law" st_law f_law fd) (G__law_stream : FnD true P w K mg base 1 f__law_stream F__law_stream) (G__law_counts : FnD true P w K mg base 3 f__law_counts F__law_counts) (G__law_orders : FnD true P w K mg base 42 f__law_orders (F__law_orders 40)) (G_count_rows : FnD false P w K mg base 1 f_count_rows F_count_rows) (G_beginnings : FnD false P w K mg base 5 f_beginnings F_beginnings) (G__law_ready_orders : FnD true P w K mg base 43 f__law_ready_orders F__law_ready_orders) (G_count_ready : FnD false P w K mg base 2 f_count_ready F_count_ready) (G__law_surplus : FnD true P w K mg base 1 f__law_surplus F__law_surplus) (G_each_ready : GnU P w K mg base 125 f_each_ready G_each_ready) : FnDY true P w K mg base 132 f_law F_law := by
  have nd := (sc_law).nd
  exact fnDY_of2 Fu sc_law (Fu.binds fun _ _ _ _ _ _ us hl => match us, hl with | [_], _ => rfl) cl_drop fun cdv A outer s H hr hG tk po hx =>
    (ydss_cons (ys hx (ds_set 1 nd (de_callD G__law_stream (hr.mono (by decide)) hG tk T.mg__law_stream T.kp__law_stream (da_cons (de_var 0) da_nil)))) (ydss_cons (yds_for hx rfl (di_range1 rfl T.n_range (da_cons de_int da_nil)) (dg_name 2 nd) (ydss_cons (ys hx (ds_set 3 nd (de_callD G__law_counts (hr.mono (by decide)) hG tk T.mg__law_counts T.kp__law_counts (da_cons (de_var 1) (da_cons de_int da_nil))))) (ydss_cons (ys hx (ds_par2 4 5 rfl nd (da_cons (de_callD G__law_orders (hr.mono (by decide)) hG tk T.mg__law_orders T.kp__law_orders (da_cons (de_var 3) da_nil)) (da_cons (de_callB (cr_sum2 rfl) k_sum2 T.n_sum (by decide +kernel) (da_cons (de_var 3) da_nil)) da_nil)))) (ydss_cons (ys hx (ds_if (dw_t (dw_or (dt_cmp (or_ne hr.units) k_neD (de_callB c_len k_len T.n_len (by decide +kernel) (da_cons (de_var 4) da_nil)) (de_callD G_count_rows (hr.mono (by decide)) (fun z => nomatch z) tk T.mg_count_rows T.kp_count_rows (da_cons (de_var 3) da_nil)) (nomark _)) (dw_or1 (dt_cmp (or_ne hr.units) k_neD (de_lenSet rfl hr.units T.n_len T.n_set (de_var 4)) (de_callB c_len k_len T.n_len (by decide +kernel) (da_cons (de_var 4) da_nil)) (nomark _))))) (dss_one (ds_ret de_bl)) dss_nil)) (ydss_cons (ys hx (ds_setLc 6 (own := [("_law_row", 7)]) fin_fl (ct_name 7) rfl nd (di_seq (de_var 4)) (blkOk_by (own := [("_law_row", 7)]) (N := nm_law) (sc := defScope st_law) (by decide +kernel)) (fun _ _ _ _ _ => pg_name (i := 7) nd rfl (Or.inl rfl)) (fun _ _ _ _ _ => (dts_one (dt_cmp or_in (k_in false) de_int (de_callD G_beginnings (hr.mono (by decide)) (fun z => nomatch z) takes0 T.mg_beginnings T.kp_beginnings (da_cons (de_var 7) da_nil)) rfl))) (fun _ _ _ _ _ => (de_var 7)))) (ydss_cons (ys hx (ds_if (dw_t (dw_or (dt_cmp (or_ne hr.units) k_neD (de_var 6) (de_callD G__law_ready_orders (hr.mono (by decide)) hG tk T.mg__law_ready_orders T.kp__law_ready_orders (da_cons (de_var 3) da_nil)) (nomark _)) (dw_or1 (dt_cmp (or_ne hr.units) k_neD (de_callD G_count_ready (hr.mono (by decide)) (fun z => nomatch z) tk T.mg_count_ready T.kp_count_ready (da_cons (de_var 3) da_nil)) (de_callB c_len k_len T.n_len (by decide +kernel) (da_cons (de_var 6) da_nil)) (nomark _))))) (dss_one (ds_ret de_bl)) dss_nil)) (ydss_cons (ys hx (ds_if (dt_cmp (or_ne hr.units) k_neD (de_op or_mulT k_mulT (de_callB c_len k_len T.n_len (by decide +kernel) (da_cons (de_var 6) da_nil)) (de_var 5)) (de_op or_mulT k_mulT (de_callB c_len k_len T.n_len (by decide +kernel) (da_cons (de_var 4) da_nil)) (de_callB (c_max rfl) k_max T.n_max (by decide +kernel) (da_cons de_int (da_cons (de_callD G__law_surplus (hr.mono (by decide)) hG tk T.mg__law_surplus T.kp__law_surplus (da_cons (de_var 3) da_nil)) da_nil)))) (nomark _)) (dss_one (ds_ret de_bl)) dss_nil)) (ydss_one (yds_if (ydt_cmp hx (or_ne hr.units) k_neD (yde_listG (k := 125) (pgv_call hx G_each_ready (hr.mono (by decide)) rfl T.mg_each_ready T.kp_each_ready (da_cons (de_var 3) da_nil)) (eGenU_tt gt_each_ready) (hr.mono (by decide)) rfl T.n_list rfl) (ye hx (de_var 6)) (nomark _)) (yss hx (dss_one (ds_ret de_bl))) (yss hx dss_nil))))))))) (yss hx dss_nil)) (yss hx (dss_one (ds_ret de_bl)))))
end
theorem all_mk {l : PySem.W.OpenLaw} {w : World} {K : PySem.W.Frag} {h : Heap} {mg : Str → Option Value} {fa f__law_stream f__law_draw f__law_pick f__law_counts f__law_less f__law_orders f_count_rows f_heights_of f_need_of f_is_integer f_check_place f_turned f_need f_beginnings f__law_missing f__law_ready_orders f_balance_of f_count_ready f__law_surplus f_next_arities f_taken_from f_rows_from f_each_ready f_law : Addr} (X : K.In h) (G : h.Ns mainGlobals mg) (hfa : mg "law" = some (.ref fa))
    {od__law_stream an__law_stream : Option Addr} {sl__law_stream : Array (Option Value)} {oc__law_stream kV__law_stream dc__law_stream pm__law_stream cd__law_stream ct__law_stream : Value}
    {od__law_draw an__law_draw : Option Addr} {sl__law_draw : Array (Option Value)} {oc__law_draw kV__law_draw dc__law_draw pm__law_draw cd__law_draw ct__law_draw : Value}
    {od__law_pick an__law_pick : Option Addr} {sl__law_pick : Array (Option Value)} {oc__law_pick kV__law_pick dc__law_pick pm__law_pick cd__law_pick ct__law_pick : Value}
    {od__law_counts an__law_counts : Option Addr} {sl__law_counts : Array (Option Value)} {oc__law_counts kV__law_counts dc__law_counts pm__law_counts cd__law_counts ct__law_counts : Value}
    {od__law_less an__law_less : Option Addr} {sl__law_less : Array (Option Value)} {oc__law_less kV__law_less dc__law_less pm__law_less cd__law_less ct__law_less : Value}
    {od__law_orders an__law_orders : Option Addr} {sl__law_orders : Array (Option Value)} {oc__law_orders kV__law_orders dc__law_orders pm__law_orders cd__law_orders ct__law_orders : Value}
    {od_count_rows an_count_rows : Option Addr} {sl_count_rows : Array (Option Value)} {oc_count_rows kV_count_rows dc_count_rows pm_count_rows cd_count_rows ct_count_rows : Value}
    {od_heights_of an_heights_of : Option Addr} {sl_heights_of : Array (Option Value)} {oc_heights_of kV_heights_of dc_heights_of pm_heights_of cd_heights_of ct_heights_of : Value}
    {od_need_of an_need_of : Option Addr} {sl_need_of : Array (Option Value)} {oc_need_of kV_need_of dc_need_of pm_need_of cd_need_of ct_need_of : Value}
    {od_is_integer an_is_integer : Option Addr} {sl_is_integer : Array (Option Value)} {oc_is_integer kV_is_integer dc_is_integer pm_is_integer cd_is_integer ct_is_integer : Value}
    {od_check_place an_check_place : Option Addr} {sl_check_place : Array (Option Value)} {oc_check_place kV_check_place dc_check_place pm_check_place cd_check_place ct_check_place : Value}
    {od_turned an_turned : Option Addr} {sl_turned : Array (Option Value)} {oc_turned kV_turned dc_turned pm_turned cd_turned ct_turned : Value}
    {od_need an_need : Option Addr} {sl_need : Array (Option Value)} {oc_need kV_need dc_need pm_need cd_need ct_need : Value}
    {od_beginnings an_beginnings : Option Addr} {sl_beginnings : Array (Option Value)} {oc_beginnings kV_beginnings dc_beginnings pm_beginnings cd_beginnings ct_beginnings : Value}
    {od__law_missing an__law_missing : Option Addr} {sl__law_missing : Array (Option Value)} {oc__law_missing kV__law_missing dc__law_missing pm__law_missing cd__law_missing ct__law_missing : Value}
    {od__law_ready_orders an__law_ready_orders : Option Addr} {sl__law_ready_orders : Array (Option Value)} {oc__law_ready_orders kV__law_ready_orders dc__law_ready_orders pm__law_ready_orders cd__law_ready_orders ct__law_ready_orders : Value}
    {od_balance_of an_balance_of : Option Addr} {sl_balance_of : Array (Option Value)} {oc_balance_of kV_balance_of dc_balance_of pm_balance_of cd_balance_of ct_balance_of : Value}
    {od_count_ready an_count_ready : Option Addr} {sl_count_ready : Array (Option Value)} {oc_count_ready kV_count_ready dc_count_ready pm_count_ready cd_count_ready ct_count_ready : Value}
    {od__law_surplus an__law_surplus : Option Addr} {sl__law_surplus : Array (Option Value)} {oc__law_surplus kV__law_surplus dc__law_surplus pm__law_surplus cd__law_surplus ct__law_surplus : Value}
    {od_next_arities an_next_arities : Option Addr} {sl_next_arities : Array (Option Value)} {oc_next_arities kV_next_arities dc_next_arities pm_next_arities cd_next_arities ct_next_arities : Value}
    {od_taken_from an_taken_from : Option Addr} {sl_taken_from : Array (Option Value)} {oc_taken_from kV_taken_from dc_taken_from pm_taken_from cd_taken_from ct_taken_from : Value}
    {od_rows_from an_rows_from : Option Addr} {sl_rows_from : Array (Option Value)} {oc_rows_from kV_rows_from dc_rows_from pm_rows_from cd_rows_from ct_rows_from : Value}
    {od_each_ready an_each_ready : Option Addr} {sl_each_ready : Array (Option Value)} {oc_each_ready kV_each_ready dc_each_ready pm_each_ready cd_each_ready ct_each_ready : Value}
    {od_law an_law : Option Addr} {sl_law : Array (Option Value)} {oc_law kV_law dc_law pm_law cd_law ct_law : Value}
    {C_NoPlace : Addr}
    {I_NoPlace N_NoPlace : Addr} {nm_NoPlace q_NoPlace : Str} {bs_NoPlace bm_NoPlace sub_NoPlace : List Value} {sn_NoPlace : List Str} {ab_NoPlace : Bool} {col_NoPlace : Option Bool} {dd_NoPlace : Option Addr} {k0_NoPlace k1_NoPlace k2_NoPlace k3_NoPlace k5_NoPlace : Option Value}
    {io_NoPlace ic_NoPlace it_NoPlace id_NoPlace ip_NoPlace : Value} {iq_NoPlace ia_NoPlace : Option Addr} {is_NoPlace : Array (Option Value)} {p1_NoPlace p2_NoPlace q1_NoPlace q2_NoPlace q3_NoPlace q4_NoPlace : Pos}
    (a__law_stream : PySem.W.nsIn K mainGlobals "_law_stream" = some (some (.ref f__law_stream)))
    (l__law_stream : K.lookup f__law_stream = some ⟨oc__law_stream, od__law_stream, .func (PySem.W.fnOf "_law_stream" "_law_stream" (defArgs st__law_stream) (defBody st__law_stream) (defScope st__law_stream) .none kV__law_stream dc__law_stream pm__law_stream an__law_stream cd__law_stream ct__law_stream), sl__law_stream⟩)
    (c__law_stream : PySem.W.codeIn K cd__law_stream "_law_stream" = true)
    (k__law_stream : PySem.W.keepIn K (.ref f__law_stream) = true)
    (a__law_draw : PySem.W.nsIn K mainGlobals "_law_draw" = some (some (.ref f__law_draw)))
    (l__law_draw : K.lookup f__law_draw = some ⟨oc__law_draw, od__law_draw, .func (PySem.W.fnOf "_law_draw" "_law_draw" (defArgs st__law_draw) (defBody st__law_draw) (defScope st__law_draw) .none kV__law_draw dc__law_draw pm__law_draw an__law_draw cd__law_draw ct__law_draw), sl__law_draw⟩)
    (c__law_draw : PySem.W.codeIn K cd__law_draw "_law_draw" = true)
    (k__law_draw : PySem.W.keepIn K (.ref f__law_draw) = true)
    (a__law_pick : PySem.W.nsIn K mainGlobals "_law_pick" = some (some (.ref f__law_pick)))
    (l__law_pick : K.lookup f__law_pick = some ⟨oc__law_pick, od__law_pick, .func (PySem.W.fnOf "_law_pick" "_law_pick" (defArgs st__law_pick) (defBody st__law_pick) (defScope st__law_pick) .none kV__law_pick dc__law_pick pm__law_pick an__law_pick cd__law_pick ct__law_pick), sl__law_pick⟩)
    (c__law_pick : PySem.W.codeIn K cd__law_pick "_law_pick" = true)
    (k__law_pick : PySem.W.keepIn K (.ref f__law_pick) = true)
    (a__law_counts : PySem.W.nsIn K mainGlobals "_law_counts" = some (some (.ref f__law_counts)))
    (l__law_counts : K.lookup f__law_counts = some ⟨oc__law_counts, od__law_counts, .func (PySem.W.fnOf "_law_counts" "_law_counts" (defArgs st__law_counts) (defBody st__law_counts) (defScope st__law_counts) .none kV__law_counts dc__law_counts pm__law_counts an__law_counts cd__law_counts ct__law_counts), sl__law_counts⟩)
    (c__law_counts : PySem.W.codeIn K cd__law_counts "_law_counts" = true)
    (k__law_counts : PySem.W.keepIn K (.ref f__law_counts) = true)
    (a__law_less : PySem.W.nsIn K mainGlobals "_law_less" = some (some (.ref f__law_less)))
    (l__law_less : K.lookup f__law_less = some ⟨oc__law_less, od__law_less, .func (PySem.W.fnOf "_law_less" "_law_less" (defArgs st__law_less) (defBody st__law_less) (defScope st__law_less) .none kV__law_less dc__law_less pm__law_less an__law_less cd__law_less ct__law_less), sl__law_less⟩)
    (c__law_less : PySem.W.codeIn K cd__law_less "_law_less" = true)
    (k__law_less : PySem.W.keepIn K (.ref f__law_less) = true)
    (a__law_orders : PySem.W.nsIn K mainGlobals "_law_orders" = some (some (.ref f__law_orders)))
    (l__law_orders : K.lookup f__law_orders = some ⟨oc__law_orders, od__law_orders, .func (PySem.W.fnOf "_law_orders" "_law_orders" (defArgs st__law_orders) (defBody st__law_orders) (defScope st__law_orders) .none kV__law_orders dc__law_orders pm__law_orders an__law_orders cd__law_orders ct__law_orders), sl__law_orders⟩)
    (c__law_orders : PySem.W.codeIn K cd__law_orders "_law_orders" = true)
    (k__law_orders : PySem.W.keepIn K (.ref f__law_orders) = true)
    (a_count_rows : PySem.W.nsIn K mainGlobals "count_rows" = some (some (.ref f_count_rows)))
    (l_count_rows : K.lookup f_count_rows = some ⟨oc_count_rows, od_count_rows, .func (PySem.W.fnOf "count_rows" "count_rows" (defArgs st_count_rows) (defBody st_count_rows) (defScope st_count_rows) .none kV_count_rows dc_count_rows pm_count_rows an_count_rows cd_count_rows ct_count_rows), sl_count_rows⟩)
    (c_count_rows : PySem.W.codeIn K cd_count_rows "count_rows" = true)
    (k_count_rows : PySem.W.keepIn K (.ref f_count_rows) = true)
    (a_heights_of : PySem.W.nsIn K mainGlobals "heights_of" = some (some (.ref f_heights_of)))
    (l_heights_of : K.lookup f_heights_of = some ⟨oc_heights_of, od_heights_of, .func (PySem.W.fnOf "heights_of" "heights_of" (defArgs st_heights_of) (defBody st_heights_of) (defScope st_heights_of) .none kV_heights_of dc_heights_of pm_heights_of an_heights_of cd_heights_of ct_heights_of), sl_heights_of⟩)
    (c_heights_of : PySem.W.codeIn K cd_heights_of "heights_of" = true)
    (k_heights_of : PySem.W.keepIn K (.ref f_heights_of) = true)
    (a_need_of : PySem.W.nsIn K mainGlobals "need_of" = some (some (.ref f_need_of)))
    (l_need_of : K.lookup f_need_of = some ⟨oc_need_of, od_need_of, .func (PySem.W.fnOf "need_of" "need_of" (defArgs st_need_of) (defBody st_need_of) (defScope st_need_of) .none kV_need_of dc_need_of pm_need_of an_need_of cd_need_of ct_need_of), sl_need_of⟩)
    (c_need_of : PySem.W.codeIn K cd_need_of "need_of" = true)
    (k_need_of : PySem.W.keepIn K (.ref f_need_of) = true)
    (a_is_integer : PySem.W.nsIn K mainGlobals "is_integer" = some (some (.ref f_is_integer)))
    (l_is_integer : K.lookup f_is_integer = some ⟨oc_is_integer, od_is_integer, .func (PySem.W.fnOf "is_integer" "is_integer" (defArgs st_is_integer) (defBody st_is_integer) (defScope st_is_integer) .none kV_is_integer dc_is_integer pm_is_integer an_is_integer cd_is_integer ct_is_integer), sl_is_integer⟩)
    (c_is_integer : PySem.W.codeIn K cd_is_integer "is_integer" = true)
    (k_is_integer : PySem.W.keepIn K (.ref f_is_integer) = true)
    (a_check_place : PySem.W.nsIn K mainGlobals "check_place" = some (some (.ref f_check_place)))
    (l_check_place : K.lookup f_check_place = some ⟨oc_check_place, od_check_place, .func (PySem.W.fnOf "check_place" "check_place" (defArgs st_check_place) (defBody st_check_place) (defScope st_check_place) .none kV_check_place dc_check_place pm_check_place an_check_place cd_check_place ct_check_place), sl_check_place⟩)
    (c_check_place : PySem.W.codeIn K cd_check_place "check_place" = true)
    (k_check_place : PySem.W.keepIn K (.ref f_check_place) = true)
    (a_turned : PySem.W.nsIn K mainGlobals "turned" = some (some (.ref f_turned)))
    (l_turned : K.lookup f_turned = some ⟨oc_turned, od_turned, .func (PySem.W.fnOf "turned" "turned" (defArgs st_turned) (defBody st_turned) (defScope st_turned) .none kV_turned dc_turned pm_turned an_turned cd_turned ct_turned), sl_turned⟩)
    (c_turned : PySem.W.codeIn K cd_turned "turned" = true)
    (k_turned : PySem.W.keepIn K (.ref f_turned) = true)
    (a_need : PySem.W.nsIn K mainGlobals "need" = some (some (.ref f_need)))
    (l_need : K.lookup f_need = some ⟨oc_need, od_need, .func (PySem.W.fnOf "need" "need" (defArgs st_need) (defBody st_need) (defScope st_need) .none kV_need dc_need pm_need an_need cd_need ct_need), sl_need⟩)
    (c_need : PySem.W.codeIn K cd_need "need" = true)
    (k_need : PySem.W.keepIn K (.ref f_need) = true)
    (a_beginnings : PySem.W.nsIn K mainGlobals "beginnings" = some (some (.ref f_beginnings)))
    (l_beginnings : K.lookup f_beginnings = some ⟨oc_beginnings, od_beginnings, .func (PySem.W.fnOf "beginnings" "beginnings" (defArgs st_beginnings) (defBody st_beginnings) (defScope st_beginnings) .none kV_beginnings dc_beginnings pm_beginnings an_beginnings cd_beginnings ct_beginnings), sl_beginnings⟩)
    (c_beginnings : PySem.W.codeIn K cd_beginnings "beginnings" = true)
    (k_beginnings : PySem.W.keepIn K (.ref f_beginnings) = true)
    (a__law_missing : PySem.W.nsIn K mainGlobals "_law_missing" = some (some (.ref f__law_missing)))
    (l__law_missing : K.lookup f__law_missing = some ⟨oc__law_missing, od__law_missing, .func (PySem.W.fnOf "_law_missing" "_law_missing" (defArgs st__law_missing) (defBody st__law_missing) (defScope st__law_missing) .none kV__law_missing dc__law_missing pm__law_missing an__law_missing cd__law_missing ct__law_missing), sl__law_missing⟩)
    (c__law_missing : PySem.W.codeIn K cd__law_missing "_law_missing" = true)
    (k__law_missing : PySem.W.keepIn K (.ref f__law_missing) = true)
    (a__law_ready_orders : PySem.W.nsIn K mainGlobals "_law_ready_orders" = some (some (.ref f__law_ready_orders)))
    (l__law_ready_orders : K.lookup f__law_ready_orders = some ⟨oc__law_ready_orders, od__law_ready_orders, .func (PySem.W.fnOf "_law_ready_orders" "_law_ready_orders" (defArgs st__law_ready_orders) (defBody st__law_ready_orders) (defScope st__law_ready_orders) .none kV__law_ready_orders dc__law_ready_orders pm__law_ready_orders an__law_ready_orders cd__law_ready_orders ct__law_ready_orders), sl__law_ready_orders⟩)
    (c__law_ready_orders : PySem.W.codeIn K cd__law_ready_orders "_law_ready_orders" = true)
    (k__law_ready_orders : PySem.W.keepIn K (.ref f__law_ready_orders) = true)
    (a_balance_of : PySem.W.nsIn K mainGlobals "balance_of" = some (some (.ref f_balance_of)))
    (l_balance_of : K.lookup f_balance_of = some ⟨oc_balance_of, od_balance_of, .func (PySem.W.fnOf "balance_of" "balance_of" (defArgs st_balance_of) (defBody st_balance_of) (defScope st_balance_of) .none kV_balance_of dc_balance_of pm_balance_of an_balance_of cd_balance_of ct_balance_of), sl_balance_of⟩)
    (c_balance_of : PySem.W.codeIn K cd_balance_of "balance_of" = true)
    (k_balance_of : PySem.W.keepIn K (.ref f_balance_of) = true)
    (a_count_ready : PySem.W.nsIn K mainGlobals "count_ready" = some (some (.ref f_count_ready)))
    (l_count_ready : K.lookup f_count_ready = some ⟨oc_count_ready, od_count_ready, .func (PySem.W.fnOf "count_ready" "count_ready" (defArgs st_count_ready) (defBody st_count_ready) (defScope st_count_ready) .none kV_count_ready dc_count_ready pm_count_ready an_count_ready cd_count_ready ct_count_ready), sl_count_ready⟩)
    (c_count_ready : PySem.W.codeIn K cd_count_ready "count_ready" = true)
    (k_count_ready : PySem.W.keepIn K (.ref f_count_ready) = true)
    (a__law_surplus : PySem.W.nsIn K mainGlobals "_law_surplus" = some (some (.ref f__law_surplus)))
    (l__law_surplus : K.lookup f__law_surplus = some ⟨oc__law_surplus, od__law_surplus, .func (PySem.W.fnOf "_law_surplus" "_law_surplus" (defArgs st__law_surplus) (defBody st__law_surplus) (defScope st__law_surplus) .none kV__law_surplus dc__law_surplus pm__law_surplus an__law_surplus cd__law_surplus ct__law_surplus), sl__law_surplus⟩)
    (c__law_surplus : PySem.W.codeIn K cd__law_surplus "_law_surplus" = true)
    (k__law_surplus : PySem.W.keepIn K (.ref f__law_surplus) = true)
    (a_next_arities : PySem.W.nsIn K mainGlobals "next_arities" = some (some (.ref f_next_arities)))
    (l_next_arities : K.lookup f_next_arities = some ⟨oc_next_arities, od_next_arities, .func (PySem.W.fnOf "next_arities" "next_arities" (defArgs st_next_arities) (defBody st_next_arities) (defScope st_next_arities) .none kV_next_arities dc_next_arities pm_next_arities an_next_arities cd_next_arities ct_next_arities), sl_next_arities⟩)
    (c_next_arities : PySem.W.codeIn K cd_next_arities "next_arities" = true)
    (k_next_arities : PySem.W.keepIn K (.ref f_next_arities) = true)
    (a_taken_from : PySem.W.nsIn K mainGlobals "taken_from" = some (some (.ref f_taken_from)))
    (l_taken_from : K.lookup f_taken_from = some ⟨oc_taken_from, od_taken_from, .func (PySem.W.fnOf "taken_from" "taken_from" (defArgs st_taken_from) (defBody st_taken_from) (defScope st_taken_from) .none kV_taken_from dc_taken_from pm_taken_from an_taken_from cd_taken_from ct_taken_from), sl_taken_from⟩)
    (c_taken_from : PySem.W.codeIn K cd_taken_from "taken_from" = true)
    (k_taken_from : PySem.W.keepIn K (.ref f_taken_from) = true)
    (a_rows_from : PySem.W.nsIn K mainGlobals "rows_from" = some (some (.ref f_rows_from)))
    (l_rows_from : K.lookup f_rows_from = some ⟨oc_rows_from, od_rows_from, .func (PySem.W.fnOf "rows_from" "rows_from" (defArgs st_rows_from) (defBody st_rows_from) (defScope st_rows_from) .none kV_rows_from dc_rows_from pm_rows_from an_rows_from cd_rows_from ct_rows_from), sl_rows_from⟩)
    (c_rows_from : PySem.W.codeIn K cd_rows_from "rows_from" = true)
    (k_rows_from : PySem.W.keepIn K (.ref f_rows_from) = true)
    (a_each_ready : PySem.W.nsIn K mainGlobals "each_ready" = some (some (.ref f_each_ready)))
    (l_each_ready : K.lookup f_each_ready = some ⟨oc_each_ready, od_each_ready, .func (PySem.W.fnOf "each_ready" "each_ready" (defArgs st_each_ready) (defBody st_each_ready) (defScope st_each_ready) .none kV_each_ready dc_each_ready pm_each_ready an_each_ready cd_each_ready ct_each_ready), sl_each_ready⟩)
    (c_each_ready : PySem.W.codeIn K cd_each_ready "each_ready" = true)
    (k_each_ready : PySem.W.keepIn K (.ref f_each_ready) = true)
    (a_law : PySem.W.nsIn K mainGlobals "law" = some (some (.ref f_law)))
    (l_law : K.lookup f_law = some ⟨oc_law, od_law, .func (PySem.W.fnOf "law" "law" (defArgs st_law) (defBody st_law) (defScope st_law) .none kV_law dc_law pm_law an_law cd_law ct_law), sl_law⟩)
    (c_law : PySem.W.codeIn K cd_law "law" = true)
    (k_law : PySem.W.keepIn K (.ref f_law) = true)
    (ca_NoPlace : PySem.W.nsIn K mainGlobals "NoPlace" = some (some (.ref C_NoPlace)))
    (ck_NoPlace : PySem.W.keepIn K (.ref C_NoPlace) = true)
    (ce_NoPlace : PySem.W.subIn K (.ref C_NoPlace) (.type "BaseException") = some true)
    (ct_NoPlace : PySem.W.typeIn K (.ref C_NoPlace) = some (.type "type"))
    (cl_NoPlace : K.lookup C_NoPlace = some (excClassObj nm_NoPlace q_NoPlace C_NoPlace N_NoPlace bs_NoPlace bm_NoPlace true sn_NoPlace sub_NoPlace ab_NoPlace col_NoPlace dd_NoPlace k0_NoPlace k1_NoPlace k2_NoPlace k3_NoPlace k5_NoPlace "LookupError.__new__"))
    (cs_NoPlace : PySem.W.findIn K (.ref C_NoPlace) "__setattr__" = some (some (.builtin "object.__setattr__")))
    (cn_NoPlace : PySem.W.findIn K (.ref C_NoPlace) "value" = some none)
    (ci_NoPlace : PySem.W.findIn K (.ref C_NoPlace) "__init__" = some (some (.ref I_NoPlace)))
    (cf_NoPlace : PySem.W.typeIn K (.ref I_NoPlace) = some (.type "function"))
    (cg_NoPlace : K.lookup I_NoPlace = some ⟨io_NoPlace, iq_NoPlace, .func (PySem.W.fnOf "__init__" "NoPlace.__init__" (iA "value" p1_NoPlace p2_NoPlace) (iB "value" q1_NoPlace q2_NoPlace q3_NoPlace q4_NoPlace) (iS "value") .none .none id_NoPlace ip_NoPlace ia_NoPlace ic_NoPlace it_NoPlace), is_NoPlace⟩)
    (cc_NoPlace : PySem.W.codeIn K ic_NoPlace "NoPlace.__init__" = true)
    (cm_NoPlace : PySem.W.excTail [.type "LookupError", .type "Exception", .type "BaseException", .type "object"] bm_NoPlace = true)
    (z_range : PySem.W.nsIn K mainGlobals "range" = some none)
    (z_sum : PySem.W.nsIn K mainGlobals "sum" = some none)
    (z_len : PySem.W.nsIn K mainGlobals "len" = some none)
    (z_set : PySem.W.nsIn K mainGlobals "set" = some none)
    (z_max : PySem.W.nsIn K mainGlobals "max" = some none)
    (z_list : PySem.W.nsIn K mainGlobals "list" = some none)
    (z_abs : PySem.W.nsIn K mainGlobals "abs" = some none)
    (z_tuple : PySem.W.nsIn K mainGlobals "tuple" = some none)
    (z_enumerate : PySem.W.nsIn K mainGlobals "enumerate" = some none)
    (z_min : PySem.W.nsIn K mainGlobals "min" = some none)
    (z_int : PySem.W.nsIn K mainGlobals "int" = some none)
    (z_isinstance : PySem.W.nsIn K mainGlobals "isinstance" = some none)
    (z_bool : PySem.W.nsIn K mainGlobals "bool" = some none)
    (hl : LawOk F_law) : ∃ F : Fn, LawOk F ∧ ∀ base : Heap, K.In base → base.Ns mainGlobals mg → (∃ o, base.get? sysModules = some o) → FnDY true l.prog w K mg base 132 fa F := by
  have e := hfa.symm.trans (PySem.W.mg_of X G a_law)
  cases e
  have T : Tx K mg f__law_stream f__law_draw f__law_pick f__law_counts f__law_less f__law_orders f_count_rows f_heights_of f_need_of f_is_integer f_check_place f_turned f_need f_beginnings f__law_missing f__law_ready_orders f_balance_of f_count_ready f__law_surplus f_next_arities f_taken_from f_rows_from f_each_ready fa := ⟨PySem.W.mg_of X G a__law_stream, k__law_stream, PySem.W.mg_of X G a__law_draw, k__law_draw, PySem.W.mg_of X G a__law_pick, k__law_pick, PySem.W.mg_of X G a__law_counts, k__law_counts, PySem.W.mg_of X G a__law_less, k__law_less, PySem.W.mg_of X G a__law_orders, k__law_orders, PySem.W.mg_of X G a_count_rows, k_count_rows, PySem.W.mg_of X G a_heights_of, k_heights_of, PySem.W.mg_of X G a_need_of, k_need_of, PySem.W.mg_of X G a_is_integer, k_is_integer, PySem.W.mg_of X G a_check_place, k_check_place, PySem.W.mg_of X G a_turned, k_turned, PySem.W.mg_of X G a_need, k_need, PySem.W.mg_of X G a_beginnings, k_beginnings, PySem.W.mg_of X G a__law_missing, k__law_missing, PySem.W.mg_of X G a__law_ready_orders, k__law_ready_orders, PySem.W.mg_of X G a_balance_of, k_balance_of, PySem.W.mg_of X G a_count_ready, k_count_ready, PySem.W.mg_of X G a__law_surplus, k__law_surplus, PySem.W.mg_of X G a_next_arities, k_next_arities, PySem.W.mg_of X G a_taken_from, k_taken_from, PySem.W.mg_of X G a_rows_from, k_rows_from, PySem.W.mg_of X G a_each_ready, k_each_ready, PySem.W.mg_none_of X G z_range, PySem.W.mg_none_of X G z_sum, PySem.W.mg_none_of X G z_len, PySem.W.mg_none_of X G z_set, PySem.W.mg_none_of X G z_max, PySem.W.mg_none_of X G z_list, PySem.W.mg_none_of X G z_abs, PySem.W.mg_none_of X G z_tuple, PySem.W.mg_none_of X G z_enumerate, PySem.W.mg_none_of X G z_min, PySem.W.mg_none_of X G z_int, PySem.W.mg_none_of X G z_isinstance, PySem.W.mg_none_of X G z_bool⟩
  have T0_NoPlace : XCls K "NoPlace" C_NoPlace := ⟨ca_NoPlace, ck_NoPlace, ce_NoPlace, ct_NoPlace⟩
  have mc_NoPlace := PySem.W.mg_of X G ca_NoPlace
  have TI_NoPlace : XInit K C_NoPlace I_NoPlace "NoPlace.__init__" "value" := ⟨⟨_, _, _, _, _, _, _, _, _, _, _, _, _, _, _, _, _, xb_LE, cl_NoPlace, cm_NoPlace⟩, cs_NoPlace, cn_NoPlace, ci_NoPlace, cf_NoPlace, ⟨_, _, _, _, _, _, _, _, _, _, _, _, _, _, cg_NoPlace, cc_NoPlace⟩, fun _ _ _ _ _ _ _ _ _ _ _ _ _ => rfl, by decide, by decide⟩
  refine ⟨F_law, hl, fun base _ _ hsys => ?_⟩
  have G__law_stream : FnD true l.prog w K mg base 1 f__law_stream F__law_stream := fn__law_stream T (fun_mk (st := st__law_stream) l__law_stream c__law_stream k__law_stream) 
  have G__law_draw : FnD true l.prog w K mg base 1 f__law_draw F__law_draw := fn__law_draw T (fun_mk (st := st__law_draw) l__law_draw c__law_draw k__law_draw) 
  have G__law_pick : FnD true l.prog w K mg base 2 f__law_pick F__law_pick := fn__law_pick T (fun_mk (st := st__law_pick) l__law_pick c__law_pick k__law_pick) G__law_draw
  have G__law_counts : FnD true l.prog w K mg base 3 f__law_counts F__law_counts := fn__law_counts T (fun_mk (st := st__law_counts) l__law_counts c__law_counts k__law_counts) G__law_pick G__law_draw
  have G__law_less : FnD true l.prog w K mg base 1 f__law_less F__law_less := fn__law_less T (fun_mk (st := st__law_less) l__law_less c__law_less k__law_less) 
  have G__law_orders : FnD true l.prog w K mg base 42 f__law_orders (F__law_orders 40) := fn__law_orders T (fun_mk (st := st__law_orders) l__law_orders c__law_orders k__law_orders) G__law_less 40
  have G_count_rows : FnD false l.prog w K mg base 1 f_count_rows F_count_rows := fn_count_rows T (fun_mk (st := st_count_rows) l_count_rows c_count_rows k_count_rows) 
  have G_heights_of : FnD false l.prog w K mg base 1 f_heights_of F_heights_of := fn_heights_of T (fun_mk (st := st_heights_of) l_heights_of c_heights_of k_heights_of) 
  have G_need_of : FnD false l.prog w K mg base 2 f_need_of F_need_of := fn_need_of T (fun_mk (st := st_need_of) l_need_of c_need_of k_need_of) G_heights_of
  have G_is_integer : FnD false l.prog w K mg base 1 f_is_integer F_is_integer := fn_is_integer T (fun_mk (st := st_is_integer) l_is_integer c_is_integer k_is_integer) 
  have G_check_place : FnD false l.prog w K mg base 2 f_check_place F_check_place := fn_check_place T (fun_mk (st := st_check_place) l_check_place c_check_place k_check_place) G_is_integer T0_NoPlace mc_NoPlace TI_NoPlace
  have G_turned : FnD false l.prog w K mg base 3 f_turned F_turned := fn_turned T (fun_mk (st := st_turned) l_turned c_turned k_turned) G_check_place
  have G_need : FnD false l.prog w K mg base 4 f_need F_need := fn_need T (fun_mk (st := st_need) l_need c_need k_need) G_need_of G_turned
  have G_beginnings : FnD false l.prog w K mg base 5 f_beginnings F_beginnings := fn_beginnings T (fun_mk (st := st_beginnings) l_beginnings c_beginnings k_beginnings) G_need
  have G__law_missing : FnD true l.prog w K mg base 1 f__law_missing F__law_missing := fn__law_missing T (fun_mk (st := st__law_missing) l__law_missing c__law_missing k__law_missing) 
  have G__law_ready_orders : FnD true l.prog w K mg base 43 f__law_ready_orders F__law_ready_orders := fn__law_ready_orders T (fun_mk (st := st__law_ready_orders) l__law_ready_orders c__law_ready_orders k__law_ready_orders) G__law_orders G__law_missing
  have G_balance_of : FnD false l.prog w K mg base 1 f_balance_of F_balance_of := fn_balance_of T (fun_mk (st := st_balance_of) l_balance_of c_balance_of k_balance_of) 
  have G_count_ready : FnD false l.prog w K mg base 2 f_count_ready F_count_ready := fn_count_ready T (fun_mk (st := st_count_ready) l_count_ready c_count_ready k_count_ready) G_count_rows G_balance_of
  have G__law_surplus : FnD true l.prog w K mg base 1 f__law_surplus F__law_surplus := fn__law_surplus T (fun_mk (st := st__law_surplus) l__law_surplus c__law_surplus k__law_surplus) 
  have G_next_arities : GnU l.prog w K mg base 0 f_next_arities G_next_arities := fn_next_arities T (fun_mk (st := st_next_arities) l_next_arities c_next_arities k_next_arities) 
  have G_taken_from : FnD false l.prog w K mg base 1 f_taken_from F_taken_from := fn_taken_from T (fun_mk (st := st_taken_from) l_taken_from c_taken_from k_taken_from) 
  have G_rows_from : GnU l.prog w K mg base 122 f_rows_from (G_rows_from 40) := fn_rows_from T (fun_mk (st := st_rows_from) l_rows_from c_rows_from k_rows_from) G_next_arities G_taken_from 40
  have G_each_ready : GnU l.prog w K mg base 125 f_each_ready G_each_ready := fn_each_ready T (fun_mk (st := st_each_ready) l_each_ready c_each_ready k_each_ready) G_rows_from
  have G_law : FnDY true l.prog w K mg base 132 fa F_law := fn_law T (fun_mk (st := st_law) l_law c_law k_law) G__law_stream G__law_counts G__law_orders G_count_rows G_beginnings G__law_ready_orders G_count_ready G__law_surplus G_each_ready
  exact G_law
end TX
open PySem PySem.W PyProof.Rows
set_option maxRecDepth 100000 in
set_option maxHeartbeats 0 in
theorem HL.mk : ∀ (w : World) (mg : PySem.Str → Option Value) (fa : Addr) (h : Heap), (HL.K0.heap_39 w.params).In h → h.Ns mainGlobals mg → mg "law" = some (.ref fa) →
    ∃ F : DL.Fn, DL.LawOk F ∧ ∀ base : Heap, (HL.K0.heap_39 w.params).In base → base.Ns mainGlobals mg → (∃ o, base.get? sysModules = some o) → DL.FnDY true (PySem.Challenge.rw_ringpostfix_k46_whole_share_of_ready_row).prog w (HL.K0.heap_39 w.params) mg base 132 fa F := by
    intro w mg fa h KX G hmg
    refine' TX.all_mk KX G hmg ?a__law_stream ?l__law_stream ?c__law_stream ?k__law_stream ?a__law_draw ?l__law_draw ?c__law_draw ?k__law_draw ?a__law_pick ?l__law_pick ?c__law_pick ?k__law_pick ?a__law_counts ?l__law_counts ?c__law_counts ?k__law_counts ?a__law_less ?l__law_less ?c__law_less ?k__law_less ?a__law_orders ?l__law_orders ?c__law_orders ?k__law_orders ?a_count_rows ?l_count_rows ?c_count_rows ?k_count_rows ?a_heights_of ?l_heights_of ?c_heights_of ?k_heights_of ?a_need_of ?l_need_of ?c_need_of ?k_need_of ?a_is_integer ?l_is_integer ?c_is_integer ?k_is_integer ?a_check_place ?l_check_place ?c_check_place ?k_check_place ?a_turned ?l_turned ?c_turned ?k_turned ?a_need ?l_need ?c_need ?k_need ?a_beginnings ?l_beginnings ?c_beginnings ?k_beginnings ?a__law_missing ?l__law_missing ?c__law_missing ?k__law_missing ?a__law_ready_orders ?l__law_ready_orders ?c__law_ready_orders ?k__law_ready_orders ?a_balance_of ?l_balance_of ?c_balance_of ?k_balance_of ?a_count_ready ?l_count_ready ?c_count_ready ?k_count_ready ?a__law_surplus ?l__law_surplus ?c__law_surplus ?k__law_surplus ?a_next_arities ?l_next_arities ?c_next_arities ?k_next_arities ?a_taken_from ?l_taken_from ?c_taken_from ?k_taken_from ?a_rows_from ?l_rows_from ?c_rows_from ?k_rows_from ?a_each_ready ?l_each_ready ?c_each_ready ?k_each_ready ?a_law ?l_law ?c_law ?k_law ?ca_NoPlace ?ck_NoPlace ?ce_NoPlace ?ct_NoPlace ?cl_NoPlace ?cs_NoPlace ?cn_NoPlace ?ci_NoPlace ?cf_NoPlace ?cg_NoPlace ?cc_NoPlace ?cm_NoPlace ?z_range ?z_sum ?z_len ?z_set ?z_max ?z_list ?z_abs ?z_tuple ?z_enumerate ?z_min ?z_int ?z_isinstance ?z_bool TX.law_ok
    (case a__law_stream => k_is)
    (case l__law_stream => k_is)
    (case c__law_stream => k_is)
    (case k__law_stream => k_is)
    (case a__law_draw => k_is)
    (case l__law_draw => k_is)
    (case c__law_draw => k_is)
    (case k__law_draw => k_is)
    (case a__law_pick => k_is)
    (case l__law_pick => k_is)
    (case c__law_pick => k_is)
    (case k__law_pick => k_is)
    (case a__law_counts => k_is)
    (case l__law_counts => k_is)
    (case c__law_counts => k_is)
    (case k__law_counts => k_is)
    (case a__law_less => k_is)
    (case l__law_less => k_is)
    (case c__law_less => k_is)
    (case k__law_less => k_is)
    (case a__law_orders => k_is)
    (case l__law_orders => k_is)
    (case c__law_orders => k_is)
    (case k__law_orders => k_is)
    (case a_count_rows => k_is)
    (case l_count_rows => k_is)
    (case c_count_rows => k_is)
    (case k_count_rows => k_is)
    (case a_heights_of => k_is)
    (case l_heights_of => k_is)
    (case c_heights_of => k_is)
    (case k_heights_of => k_is)
    (case a_need_of => k_is)
    (case l_need_of => k_is)
    (case c_need_of => k_is)
    (case k_need_of => k_is)
    (case a_is_integer => k_is)
    (case l_is_integer => k_is)
    (case c_is_integer => k_is)
    (case k_is_integer => k_is)
    (case a_check_place => k_is)
    (case l_check_place => k_is)
    (case c_check_place => k_is)
    (case k_check_place => k_is)
    (case a_turned => k_is)
    (case l_turned => k_is)
    (case c_turned => k_is)
    (case k_turned => k_is)
    (case a_need => k_is)
    (case l_need => k_is)
    (case c_need => k_is)
    (case k_need => k_is)
    (case a_beginnings => k_is)
    (case l_beginnings => k_is)
    (case c_beginnings => k_is)
    (case k_beginnings => k_is)
    (case a__law_missing => k_is)
    (case l__law_missing => k_is)
    (case c__law_missing => k_is)
    (case k__law_missing => k_is)
    (case a__law_ready_orders => k_is)
    (case l__law_ready_orders => k_is)
    (case c__law_ready_orders => k_is)
    (case k__law_ready_orders => k_is)
    (case a_balance_of => k_is)
    (case l_balance_of => k_is)
    (case c_balance_of => k_is)
    (case k_balance_of => k_is)
    (case a_count_ready => k_is)
    (case l_count_ready => k_is)
    (case c_count_ready => k_is)
    (case k_count_ready => k_is)
    (case a__law_surplus => k_is)
    (case l__law_surplus => k_is)
    (case c__law_surplus => k_is)
    (case k__law_surplus => k_is)
    (case a_next_arities => k_is)
    (case l_next_arities => k_is)
    (case c_next_arities => k_is)
    (case k_next_arities => k_is)
    (case a_taken_from => k_is)
    (case l_taken_from => k_is)
    (case c_taken_from => k_is)
    (case k_taken_from => k_is)
    (case a_rows_from => k_is)
    (case l_rows_from => k_is)
    (case c_rows_from => k_is)
    (case k_rows_from => k_is)
    (case a_each_ready => k_is)
    (case l_each_ready => k_is)
    (case c_each_ready => k_is)
    (case k_each_ready => k_is)
    (case a_law => k_is)
    (case l_law => k_is)
    (case c_law => k_is)
    (case k_law => k_is)
    (case ca_NoPlace => k_is)
    (case ck_NoPlace => k_is)
    (case ce_NoPlace => k_is)
    (case ct_NoPlace => k_is)
    (case cl_NoPlace => k_is)
    (case cs_NoPlace => k_is)
    (case cn_NoPlace => k_is)
    (case ci_NoPlace => k_is)
    (case cf_NoPlace => k_is)
    (case cg_NoPlace => k_is)
    (case cc_NoPlace => k_is)
    (case cm_NoPlace => kernel_rfl)
    (case z_range => k_is)
    (case z_sum => k_is)
    (case z_len => k_is)
    (case z_set => k_is)
    (case z_max => k_is)
    (case z_list => k_is)
    (case z_abs => k_is)
    (case z_tuple => k_is)
    (case z_enumerate => k_is)
    (case z_min => k_is)
    (case z_int => k_is)
    (case z_isinstance => k_is)
    (case z_bool => k_is)
local macro_rules | `(tactic| kernel_rfl) => `(tactic| (with_reducible refine HL.glue ?_ (HL.partA _ _) (HL.partB _ _) (HL.partC _ _) (HL.partD _ _) (HL.partE _ _) (HL.partF _ _) (HL.partG _ _) (HL.partH _ _) (HL.partK _ _) <;> kernel_rfl))
set_option maxRecDepth 100000 in
set_option maxHeartbeats 0 in
theorem HY.main : PySem.Challenge.rw_ringpostfix_k46_whole_share_of_ready_row.Holds := by
  (have hk := @HY.PySem.W.holds_open; clear hk); w_on; o_law; o_headL (kHook HL.K0.heap_39 HL.as (fun _ => by kernel_rfl)); (case hw => w_witness2)
  k_fill
  refine DL.law_walkY (k := 132) (l := PySem.Challenge.rw_ringpostfix_k46_whole_share_of_ready_row) rfl rfl ⟨rfl, by decide, by decide⟩ (by decide +kernel) (fun w h Y => PySem.W.kIn_of Y) HL.mk
theorem PySem.Challenge.cw_ringpostfix_k46_whole_share_of_ready_row_holds : PySem.Challenge.rw_ringpostfix_k46_whole_share_of_ready_row.Holds := by
  exact HY.main
