import PyProof.Rows.All
import Wide.All
import OpenK.AllK
import Wide.FinOn
import HandS.ExcCtx
import HandS.ForMost
import HandS.ForExc
import HandS.Walk
import HandS.Star
import HandS.IsInst
import HandS.Property
import HandS.ClsMeth
import HandS.Flow
import HandS.Lambda
import HandS.Deep
import HandS.Style
import HandS.TupAny
import HandS.Text
import KE.SortData
import HandS.StrMore
import HandS.SetFor
import HandS.Sort
import HandS.Conv
import PyProof.Rows.CountFlat
import HandS.Codes
import PyProof.ReprRoads
import PyProof.StrBlock2
import HandS.More
import HandS.Strs
import OpenK.KMeth
import KE.KOpsOwn
import HandS.TupMul
import KE.GoesEnum
import HandS.Zip
import HandS.SortKw
import KE.DataMinMax
import HandS.Ends
import PyProof.ExcBaseAll.ValueError
import HandS.ExcIs
import HandS.SortOrd
import HandS.TupLe
import HandS.TupSets
import HandS.GenList
import HandS.GenYield
import HandS.ReplaceLit
import HandS.ReplaceDef
import PyProof.ListStr
import HandS.TryMany
import HandS.SlotsOwn
import HandS.EndTab
import HandS.SetBool
import HandS.GenCall
import KE.KSuper
import HandS.MakeKw
import HandS.ExcInit
import HandS.ExcField
import HandS.HotCalls
import HandS.WordsExc
import HandS.Comp
import PySem.Challenge.RW_quotaboard_k02_texts_of_boards
set_option Elab.async false
set_option linter.all false
set_option maxRecDepth 100000
set_option maxHeartbeats 4000000
section
set_option maxRecDepth 100000
set_option maxHeartbeats 4000000
/-! QA: data as trees, slots, what stands for what in the abstract heap, the readings over them. -/
namespace Dt
open PySem PySem.Spec
open L2 hiding passL ps_try_many HdsOk takes0 XE Takes CX takes_of passes_call PMk MkP ps_raise mk_of ps_try_as pmk_own
open L2N hiding St
open PyProof.Rows hiding St

def mkS (l : List Nat) : Str := ⟨l.toArray⟩
theorem mkS_cps (l : List Nat) : (mkS l).cps.toList = l := by simp [mkS]
theorem mkS_len (l : List Nat) : (mkS l).length = l.length := by show l.toArray.size = _; simp
theorem mkS_inj {a b : List Nat} : mkS a = mkS b ↔ a = b := by
  constructor
  · intro h; have := congrArg (fun s : Str => s.cps.toList) h; simpa [mkS] using this
  · intro h; rw [h]
theorem mkS_tl (x : Str) : mkS x.cps.toList = x := by cases x; simp [mkS]

inductive D where
  | non | bl (b : Bool) | int (i : Int) | str (s : List Nat)
  | tup (xs : List D) | lst (xs : List D)
  | dic (ks : List Key) (vs : List D)
  | obj (t : Nat) (fs : List D)
  | raw (v : V)
  | scr (ns : List Int)
  | clo (f : Addr) (us : List V) (ds : List D)
inductive OC where
  | lst (xs : List D) | dic (ks : List Key) (vs : List D) | ins (t : Nat) (fs : List D)
inductive Slot where
  | emp | val (d : D) | own (c : OC)
inductive EV where
  | v (d : D) | o (c : OC)
inductive AV where
  | v (d : D) | s (i : Nat)
structure ExD where
  t : Nat
  fs : List D
abbrev Sl := List Slot
inductive Re (α : Type) where
  | ok (a : α) (e : Sl) | exc (x : ExD) (e : Sl)
abbrev M (α : Type) := Sl → Option (Re α)

/-- the names of the fields of the classes of the package, by a number of ours: 0 Board, 1 Rule, 2 Veto, 3 Default, 4 VetoDefault, 5 PremiseRule, 6 Meeting, 7 Absence; errors from 20 on, 32 LimitError -/
def FL : Nat → List Str
  | 0 => ["known"]
  | 1 => ["board", "n", "quotas"]
  | 2 => ["board", "n", "quotas", "voter"]
  | 3 => ["board", "n", "quotas", "row"]
  | 4 => ["board", "n", "quotas", "voter", "row"]
  | 5 => ["board", "n", "quotas", "settling"]
  | 6 => ["board", "n", "own", "feasible", "votes", "past", "away"]
  | 7 => ["meeting", "voters", "kept"]
  | 32 => ["amount", "limit"]
  | _ => []
/-- where the classes stand -/
structure Tab where
  cls : Nat → Addr
  tb : List (Addr × Str) := []
abbrev Tab.flds (_ : Tab) : Nat → List Str := FL

/-- the script: a list of ints that is never written -/
def KL (K : PySem.W.Frag) (a : Addr) (xs : List V) : Prop :=
  ∃ (o : Obj) (its : Array Value) (n : Nat), K.lookup a = some o ∧ o.cls = .type "list" ∧ o.dict = none ∧ o.data = .seq its n ∧ its.size ≤ sizeLine ∧ Vals xs its.toList

section
variable (K : PySem.W.Frag) (T : Tab) (ex : Addr → Prop) (H : Hp)
mutual
/-- v stands for d; no object at ex is met -/
def Rep : D → V → Prop
  | .non, v => v = .non
  | .bl b, v => v = .bl b
  | .int i, v => v = .int i
  | .str s, v => v = .str (mkS s)
  | .tup ds, v => ∃ a vs, v = .ref a ∧ ¬ ex a ∧ H a = some (.tup vs) ∧ RepL ds vs
  | .lst ds, v => ∃ a vs, v = .ref a ∧ ¬ ex a ∧ H a = some (.lst vs) ∧ RepL ds vs
  | .dic ks ds, v => ∃ a vs, v = .ref a ∧ ¬ ex a ∧ H a = some (.dK (ks.zip vs)) ∧ ks.length = vs.length ∧ RepL ds vs
  | .obj t ds, v => ∃ a dx vs, v = .ref a ∧ ¬ ex a ∧ H a = some (.ins (T.cls t) dx ((T.flds t).zip vs)) ∧ (T.flds t).length = vs.length ∧ RepL ds vs
  | .raw u, v => v = u
  | .clo f us ds, v => v = .ref f ∧ RepL ds us
  | .scr ns, v => ∃ a, v = .ref a ∧ ((¬ ex a ∧ ∃ o, H a = some (.frz o (.lst (ns.map V.int)))) ∨ KL K a (ns.map V.int))
def RepL : List D → List V → Prop
  | [], vs => vs = []
  | d :: ds, vs => ∃ v r, vs = v :: r ∧ Rep d v ∧ RepL ds r
end
end

/-- induction over data -/
theorem D.ind {P : D → Prop} {PL : List D → Prop} (non : P .non) (bl : ∀ b, P (.bl b)) (int : ∀ i, P (.int i)) (str : ∀ s, P (.str s)) (tup : ∀ xs, PL xs → P (.tup xs)) (lst : ∀ xs, PL xs → P (.lst xs))
    (dic : ∀ ks vs, PL vs → P (.dic ks vs)) (obj : ∀ t fs, PL fs → P (.obj t fs)) (raw : ∀ v, P (.raw v)) (scr : ∀ ns, P (.scr ns)) (clo : ∀ f us ds, PL ds → P (.clo f us ds)) (nil : PL []) (cons : ∀ d ds, P d → PL ds → PL (d :: ds)) : (∀ d, P d) ∧ ∀ ds, PL ds :=
  ⟨fun d => D.rec (motive_1 := P) (motive_2 := PL) non bl int str tup lst dic obj raw scr clo nil cons d, fun ds => D.rec_1 (motive_1 := P) (motive_2 := PL) non bl int str tup lst dic obj raw scr clo nil cons ds⟩

section
variable {K : PySem.W.Frag} {T : Tab} {ex ex' : Addr → Prop} {H H' : Hp}
/-- no table of code objects -/
def NT (o : HO) : Prop := ∀ ps, o ≠ .tbl ps
theorem rep_mono_both (h : ∀ a o, ¬ ex a → H a = some o → ¬ ex' a ∧ (NT o → H' a = some o)) : (∀ d : D, ∀ v, Rep K T ex H d v → Rep K T ex' H' d v) ∧ ∀ ds : List D, ∀ vs, RepL K T ex H ds vs → RepL K T ex' H' ds vs := by
  refine D.ind ?_ ?_ ?_ ?_ ?_ ?_ ?_ ?_ ?_ ?_ ?_ ?_ ?_
  · intro v e; exact e
  · intro b v e; exact e
  · intro b v e; exact e
  · intro b v e; exact e
  · rintro xs ih v ⟨a, vs, e, n, q, r⟩
    exact ⟨a, vs, e, (h a _ n q).1, (h a _ n q).2 (fun _ z => nomatch z), ih _ r⟩
  · rintro xs ih v ⟨a, vs, e, n, q, r⟩
    exact ⟨a, vs, e, (h a _ n q).1, (h a _ n q).2 (fun _ z => nomatch z), ih _ r⟩
  · rintro ks xs ih v ⟨a, vs, e, n, q, l, r⟩
    exact ⟨a, vs, e, (h a _ n q).1, (h a _ n q).2 (fun _ z => nomatch z), l, ih _ r⟩
  · rintro t xs ih v ⟨a, dx, vs, e, n, q, l, r⟩
    exact ⟨a, dx, vs, e, (h a _ n q).1, (h a _ n q).2 (fun _ z => nomatch z), l, ih _ r⟩
  · intro u v e; exact e
  · rintro ns v ⟨a, e, q⟩
    refine ⟨a, e, ?_⟩
    rcases q with ⟨n, o, q⟩ | q
    · exact .inl ⟨(h a _ n q).1, o, (h a _ n q).2 (fun _ z => nomatch z)⟩
    · exact .inr q
  · rintro f us ds ih v ⟨e, r⟩
    exact ⟨e, ih _ r⟩
  · intro vs e; exact e
  · rintro d ds i1 i2 vs ⟨v, r, e, h1, h2⟩
    exact ⟨v, r, e, i1 _ h1, i2 _ h2⟩
theorem Rep.monoT (h : ∀ a o, ¬ ex a → H a = some o → ¬ ex' a ∧ (NT o → H' a = some o)) {d : D} {v : V} (r : Rep K T ex H d v) : Rep K T ex' H' d v := (rep_mono_both h).1 d v r
theorem RepL.monoT (h : ∀ a o, ¬ ex a → H a = some o → ¬ ex' a ∧ (NT o → H' a = some o)) {ds : List D} {vs : List V} (r : RepL K T ex H ds vs) : RepL K T ex' H' ds vs := (rep_mono_both h).2 ds vs r
theorem Rep.mono (h : ∀ a o, ¬ ex a → H a = some o → ¬ ex' a ∧ H' a = some o) {d : D} {v : V} (r : Rep K T ex H d v) : Rep K T ex' H' d v := r.monoT fun a o n e => ⟨(h a o n e).1, fun _ => (h a o n e).2⟩
theorem RepL.mono (h : ∀ a o, ¬ ex a → H a = some o → ¬ ex' a ∧ H' a = some o) {ds : List D} {vs : List V} (r : RepL K T ex H ds vs) : RepL K T ex' H' ds vs := r.monoT fun a o n e => ⟨(h a o n e).1, fun _ => (h a o n e).2⟩
theorem RepL.length : ∀ {ds : List D} {vs : List V}, RepL K T ex H ds vs → ds.length = vs.length
  | [], _, e => by cases (show _ = [] from e); rfl
  | d :: ds, _, ⟨v, r, e, _, h⟩ => by subst e; simp [RepL.length h]
theorem RepL.get : ∀ {ds : List D} {vs : List V}, RepL K T ex H ds vs → ∀ {i : Nat} {d : D}, ds[i]? = some d → ∃ v, vs[i]? = some v ∧ Rep K T ex H d v
  | [], _, _, i, d, q => by simp at q
  | d :: ds, _, ⟨v, r, e, h1, h2⟩, 0, d', q => by subst e; simp at q; subst q; exact ⟨v, by simp, h1⟩
  | d :: ds, _, ⟨v, r, e, h1, h2⟩, i + 1, d', q => by
    subst e
    obtain ⟨w, e1, e2⟩ := RepL.get h2 (i := i) (d := d') (by simpa using q)
    exact ⟨w, by simpa using e1, e2⟩
theorem RepL.nil : RepL K T ex H [] [] := rfl
theorem RepL.cons {d : D} {v : V} {ds : List D} {vs : List V} (h : Rep K T ex H d v) (t : RepL K T ex H ds vs) : RepL K T ex H (d :: ds) (v :: vs) := ⟨v, vs, rfl, h, t⟩
theorem RepL.append : ∀ {ds es : List D} {vs ws : List V}, RepL K T ex H ds vs → RepL K T ex H es ws → RepL K T ex H (ds ++ es) (vs ++ ws)
  | [], _, _, _, e, h => by cases (show _ = [] from e); exact h
  | d :: ds, _, _, _, ⟨v, r, e, h1, h2⟩, h => by subst e; exact ⟨v, _, rfl, h1, RepL.append h2 h⟩
theorem RepL.one {d : D} {v : V} (h : Rep K T ex H d v) : RepL K T ex H [d] [v] := .cons h .nil
theorem RepL.take : ∀ (n : Nat) {ds : List D} {vs : List V}, RepL K T ex H ds vs → RepL K T ex H (ds.take n) (vs.take n)
  | 0, ds, vs, _ => by simp [RepL]
  | n + 1, [], _, e => by cases (show _ = [] from e); simp [RepL]
  | n + 1, d :: ds, _, ⟨v, r, e, h1, h2⟩ => by subst e; exact ⟨v, _, rfl, h1, RepL.take n h2⟩
theorem RepL.drop : ∀ (n : Nat) {ds : List D} {vs : List V}, RepL K T ex H ds vs → RepL K T ex H (ds.drop n) (vs.drop n)
  | 0, ds, vs, h => h
  | n + 1, [], _, e => by cases (show _ = [] from e); simp [RepL]
  | n + 1, d :: ds, _, ⟨v, r, e, h1, h2⟩ => by subst e; exact RepL.drop n h2
theorem RepL.set : ∀ (n : Nat) {ds : List D} {vs : List V} {d : D} {v : V}, RepL K T ex H ds vs → Rep K T ex H d v → RepL K T ex H (ds.set n d) (vs.set n v)
  | n, [], _, _, _, e, _ => by cases (show _ = [] from e); simp [RepL]
  | 0, d :: ds, _, d', v', ⟨v, r, e, h1, h2⟩, h => by subst e; exact ⟨v', _, rfl, h, h2⟩
  | n + 1, d :: ds, _, _, _, ⟨v, r, e, h1, h2⟩, h => by subst e; exact ⟨v, _, rfl, h1, RepL.set n h2 h⟩
theorem RepL.erase : ∀ (n : Nat) {ds : List D} {vs : List V}, RepL K T ex H ds vs → RepL K T ex H (ds.eraseIdx n) (vs.eraseIdx n)
  | n, [], _, e => by cases (show _ = [] from e); simp [RepL]
  | 0, d :: ds, _, ⟨v, r, e, h1, h2⟩ => by subst e; exact h2
  | n + 1, d :: ds, _, ⟨v, r, e, h1, h2⟩ => by subst e; exact ⟨v, _, rfl, h1, RepL.erase n h2⟩
theorem RepL.rep (k : Nat) {ds : List D} {vs : List V} (h : RepL K T ex H ds vs) : RepL K T ex H (List.replicate k ds).flatten (List.replicate k vs).flatten := by
  induction k with
  | zero => simp [RepL]
  | succ k ih => rw [List.replicate_succ, List.replicate_succ, List.flatten_cons, List.flatten_cons]; exact h.append ih

end

/-! ### slots -/
section
variable (K : PySem.W.Frag) (T : Tab)
def Owns (σ : St) (env : Sl) (a : Addr) : Prop := ∃ (i : Nat) (c : OC), env[i]? = some (.own c) ∧ σ[i]? = some (some (V.ref a))
def exO (ex : Addr → Prop) (σ : St) (env : Sl) : Addr → Prop := fun a => ex a ∨ Owns σ env a
def RepO (ex : Addr → Prop) (H : Hp) (a : Addr) : OC → Prop
  | .lst ds => ∃ vs, H a = some (.lst vs) ∧ RepL K T ex H ds vs
  | .dic ks ds => ∃ vs, H a = some (.dK (ks.zip vs)) ∧ ks.length = vs.length ∧ RepL K T ex H ds vs
  | .ins t ds => ∃ dx vs, H a = some (.ins (T.cls t) dx (((FL t).take ds.length).zip vs)) ∧ ds.length ≤ (FL t).length ∧ RepL K T ex H ds vs
structure Good (ex : Addr → Prop) (σ : St) (H : Hp) (env : Sl) : Prop where
  len : env.length = σ.length
  val : ∀ (i : Nat) (d : D), env[i]? = some (.val d) → ∃ v, σ[i]? = some (some v) ∧ Rep K T (exO ex σ env) H d v
  own : ∀ (i : Nat) (c : OC), env[i]? = some (.own c) → ∃ a, σ[i]? = some (some (V.ref a)) ∧ ¬ ex a ∧ RepO K T (exO ex σ env) H a c
  inj : ∀ (i j : Nat) (a : Addr) (c c' : OC), env[i]? = some (.own c) → env[j]? = some (.own c') → σ[i]? = some (some (V.ref a)) → σ[j]? = some (some (V.ref a)) → i = j
  dom : ∀ a, ex a → H a ≠ none
  tb : LamX.Tabs T.tb H
/-- from (H, env) to (H', env') by an expression: the slots' values are as they were -/
structure Step (ex : Addr → Prop) (σ : St) (H : Hp) (env : Sl) (H' : Hp) (env' : Sl) : Prop where
  fr : ∀ b o, H b = some o → ¬ Owns σ env b → NT o → H' b = some o
  dm : ∀ b, H b ≠ none → H' b ≠ none
  sb : ∀ (i : Nat) (c : OC), env'[i]? = some (.own c) → ∃ c', env[i]? = some (.own c')
  gd : Good K T ex σ H' env'
/-- by a statement; the slots at pr (the parameters) keep their values -/
structure SStep (pr : Nat → Bool) (ex : Addr → Prop) (σ : St) (H : Hp) (env : Sl) (σ' : St) (H' : Hp) (env' : Sl) : Prop where
  fr : ∀ b o, H b = some o → ¬ Owns σ env b → NT o → H' b = some o
  dm : ∀ b, H b ≠ none → H' b ≠ none
  sbp : ∀ (i : Nat) (c : OC), pr i = true → env'[i]? = some (.own c) → ∃ c', env[i]? = some (.own c')
  sbl : ∀ (i : Nat) (c : OC) (a : Addr), pr i = false → env'[i]? = some (.own c) → σ'[i]? = some (some (V.ref a)) → (∃ (j : Nat) (c' : OC), pr j = false ∧ env[j]? = some (.own c') ∧ σ[j]? = some (some (V.ref a))) ∨ H a = none
  par : ∀ i, pr i = true → σ'[i]? = σ[i]?
  ln : σ'.length = σ.length
  gd : Good K T ex σ' H' env'
def RepE (ex : Addr → Prop) (σ : St) (env' : Sl) (H0 H' : Hp) (v : V) : EV → Prop
  | .v d => Rep K T (exO ex σ env') H' d v
  | .o c => ∃ a, v = .ref a ∧ H0 a = none ∧ RepO K T (fun b => exO ex σ env' b ∨ b = a) H' a c ∧ Good K T (fun b => ex b ∨ b = a) σ H' env'
/-- .. behind a return -/
def RepR (pr : Nat → Bool) (ex : Addr → Prop) (σ : St) (env : Sl) (H : Hp) (σ' : St) (env' : Sl) (H' : Hp) (v : V) : EV → Prop
  | .v d => Rep K T (exO ex σ' env') H' d v
  | .o c => ∃ a, v = .ref a ∧ ¬ ex a ∧ ¬ Owns σ' env' a ∧ ((∃ (j : Nat) (c' : OC), pr j = false ∧ env[j]? = some (.own c') ∧ σ[j]? = some (some (V.ref a))) ∨ H a = none) ∧ RepO K T (fun b => exO ex σ' env' b ∨ b = a) H' a c ∧ Good K T (fun b => ex b ∨ b = a) σ' H' env'
def RepX (ex : Addr → Prop) (H' : Hp) (cls : Value) (dd : Option Addr) (x : ExD) : Prop :=
  cls = .ref (T.cls x.t) ∧ ((x.fs = [] ∧ dd = none) ∨ ∃ a vs, (dd = some a ∧ x.fs ≠ []) ∧ H' a = some (.xd ((T.flds x.t).zip vs)) ∧ (T.flds x.t).length = vs.length ∧ RepL K T ex H' x.fs vs)
def RepA (ex : Addr → Prop) (σ : St) (env : Sl) (H : Hp) (v : V) : AV → Prop
  | .v d => Rep K T (exO ex σ env) H d v
  | .s i => σ[i]? = some (some v)
end

section
variable {K : PySem.W.Frag} {T : Tab} {np : Nat → Bool} {ex : Addr → Prop} {σ σ' σ'' : St} {H H' H'' : Hp} {env env' env'' : Sl}
theorem RepO.there {a : Addr} {c : OC} (h : RepO K T ex H a c) : H a ≠ none := by
  intro e
  cases c with
  | lst ds => obtain ⟨vs, q, _⟩ := h; rw [e] at q; cases q
  | dic ks ds => obtain ⟨vs, q, _⟩ := h; rw [e] at q; cases q
  | ins t ds => obtain ⟨dx, vs, q, _⟩ := h; rw [e] at q; cases q
theorem RepO.nt {a : Addr} {c : OC} {o : HO} (h : RepO K T ex H a c) (e : H a = some o) : NT o := fun ps z => by
  subst z
  cases c with
  | lst ds => obtain ⟨vs, q, _⟩ := h; rw [e] at q; cases q
  | dic ks ds => obtain ⟨vs, q, _⟩ := h; rw [e] at q; cases q
  | ins t ds => obtain ⟨dx, vs, q, _⟩ := h; rw [e] at q; cases q
theorem RepO.monoT {ex' : Addr → Prop} {a : Addr} {c : OC} (h : RepO K T ex H a c) (ha : H' a = H a) (k : ∀ b o, ¬ ex b → H b = some o → ¬ ex' b ∧ (NT o → H' b = some o)) : RepO K T ex' H' a c := by
  cases c with
  | lst ds => obtain ⟨vs, q, r⟩ := h; exact ⟨vs, ha.trans q, r.monoT k⟩
  | dic ks ds => obtain ⟨vs, q, l, r⟩ := h; exact ⟨vs, ha.trans q, l, r.monoT k⟩
  | ins t ds => obtain ⟨dx, vs, q, l, r⟩ := h; exact ⟨dx, vs, ha.trans q, l, r.monoT k⟩
theorem RepO.mono {ex' : Addr → Prop} {a : Addr} {c : OC} (h : RepO K T ex H a c) (ha : H' a = H a) (k : ∀ b o, ¬ ex b → H b = some o → ¬ ex' b ∧ H' b = some o) : RepO K T ex' H' a c := h.monoT ha fun b o n e => ⟨(k b o n e).1, fun _ => (k b o n e).2⟩
/-- the tables stand when one object is written that is neither a table nor a code object -/
theorem tabs_upd {tb : List (Addr × Str)} {a : Addr} {o o' : HO} (t : LamX.Tabs tb H) (e : H a = some o) (h1 : NT o) (h2 : ∀ p, o ≠ .ext p) : LamX.Tabs tb (upd H a o') := fun p hp => by
  obtain ⟨ps, q1, q2, q3⟩ := t p hp
  refine ⟨ps, ?_, q2, fun pos cv hc => ?_⟩
  · rw [upd_ne (fun z => h1 ps (by rw [z, e] at q1; exact Option.some.inj q1))]; exact q1
  · obtain ⟨c, e1, e2⟩ := q3 pos cv hc
    refine ⟨c, e1, ?_⟩
    rw [upd_ne (fun z => h2 _ (by rw [z, e] at e2; exact Option.some.inj e2))]; exact e2
theorem RepO.noext {a : Addr} {c : OC} {o : HO} (h : RepO K T ex H a c) (e : H a = some o) : ∀ p, o ≠ .ext p := fun ps z => by
  subst z
  cases c with
  | lst ds => obtain ⟨vs, q, _⟩ := h; rw [e] at q; cases q
  | dic ks ds => obtain ⟨vs, q, _⟩ := h; rw [e] at q; cases q
  | ins t ds => obtain ⟨dx, vs, q, _⟩ := h; rw [e] at q; cases q
theorem RepO.tabs {a : Addr} {c : OC} {o' : HO} {tb : List (Addr × Str)} (h : RepO K T ex H a c) (t : LamX.Tabs tb H) : LamX.Tabs tb (upd H a o') := by
  cases e : H a with
  | none => exact absurd e h.there
  | some o => exact tabs_upd t e (h.nt e) (h.noext e)
theorem Good.owned (g : Good K T ex σ H env) {a : Addr} (h : Owns σ env a) : H a ≠ none ∧ ¬ ex a := by
  obtain ⟨i, c, e1, e2⟩ := h
  obtain ⟨b, e3, n, r⟩ := g.own i c e1
  rw [e2] at e3
  cases e3
  exact ⟨r.there, n⟩
theorem Good.fresh (g : Good K T ex σ H env) {a : Addr} (h : H a = none) : ¬ exO ex σ env a := by
  rintro (q | q)
  · exact g.dom a q h
  · exact (g.owned q).1 h
/-- the same slots over a heap that has all that was -/
theorem Good.ext (g : Good K T ex σ H env) (k : ∀ b o, H b = some o → H' b = some o) : Good K T ex σ H' env where
  len := g.len
  val := fun i d e => let ⟨v, e1, r⟩ := g.val i d e; ⟨v, e1, r.mono fun a o n q => ⟨n, k a o q⟩⟩
  own := fun i c e => by
    obtain ⟨a, e1, n, r⟩ := g.own i c e
    refine ⟨a, e1, n, r.mono ?_ fun a o n q => ⟨n, k a o q⟩⟩
    cases q : H a with
    | none => exact absurd q r.there
    | some o => exact k a o q
  inj := g.inj
  dom := fun a h q => by
    cases e : H a with
    | none => exact g.dom a h e
    | some o => rw [k a o e] at q; cases q
  tb := g.tb.ext k
/-- what was not there yet is not met -/
theorem Good.more (g : Good K T ex σ H env) {a : Addr} (n : H a = none) (k : ∀ b o, H b = some o → H' b = some o) (ha : H' a ≠ none) : Good K T (fun b => ex b ∨ b = a) σ H' env := by
  have ne : ∀ b, exO ex σ env b → b ≠ a := fun b h z => by subst z; exact g.fresh n h
  have mo : ∀ b o, ¬ exO ex σ env b → H b = some o → ¬ exO (fun b => ex b ∨ b = a) σ env b ∧ H' b = some o := fun b o nb e => by
    refine ⟨?_, k b o e⟩
    rintro ((q | q) | q)
    · exact nb (.inl q)
    · subst q; rw [n] at e; cases e
    · exact nb (.inr q)
  refine ⟨g.len, fun i d e => let ⟨v, e1, r⟩ := g.val i d e; ⟨v, e1, r.mono mo⟩, fun i c e => ?_, g.inj, fun b h => ?_, g.tb.ext k⟩
  · obtain ⟨b, e1, nb, r⟩ := g.own i c e
    refine ⟨b, e1, fun z => z.elim nb fun z => ?_, r.mono ?_ mo⟩
    · subst z; exact r.there n
    · cases q : H b with
      | none => exact absurd q r.there
      | some o => exact k b o q
  · rcases h with h | h
    · intro q
      cases e : H b with
      | none => exact g.dom b h e
      | some o => rw [k b o e] at q; cases q
    · subst h; exact ha
theorem Step.refl (g : Good K T ex σ H env) : Step K T ex σ H env H env := ⟨fun _ _ e _ _ => e, fun _ e => e, fun i c e => ⟨c, e⟩, g⟩
theorem Step.ext (g : Good K T ex σ H env) (k : ∀ b o, H b = some o → H' b = some o) : Step K T ex σ H env H' env :=
  ⟨fun b o e _ _ => k b o e, (fun b e q => by
    cases h : H b with
    | none => exact e h
    | some o => rw [k b o h] at q; exact nomatch q), fun i c e => ⟨c, e⟩, g.ext k⟩
theorem Step.owns (s : Step K T ex σ H env H' env') {a : Addr} (h : Owns σ env' a) : Owns σ env a := by
  obtain ⟨i, c, e1, e2⟩ := h
  obtain ⟨c', e3⟩ := s.sb i c e1
  exact ⟨i, c', e3, e2⟩
theorem Step.trans (a : Step K T ex σ H env H' env') (b : Step K T ex σ H' env' H'' env'') : Step K T ex σ H env H'' env'' :=
  ⟨fun x o e n nt => b.fr x o (a.fr x o e n nt) (fun q => n (a.owns q)) nt, fun x e => b.dm x (a.dm x e), fun i c e => let ⟨c', e'⟩ := b.sb i c e; a.sb i c' e', b.gd⟩
theorem Step.exO (s : Step K T ex σ H env H' env') {a : Addr} (h : exO ex σ env' a) : Dt.exO ex σ env a := by
  rcases h with h | h
  · exact .inl h
  · exact .inr (s.owns h)
/-- what was told of a value stays true -/
theorem Rep.step {d : D} {v : V} (r : Rep K T (exO ex σ env) H d v) (s : Step K T ex σ H env H' env') : Rep K T (exO ex σ env') H' d v :=
  r.monoT fun a o n e => ⟨fun q => n (s.exO q), s.fr a o e fun q => n (.inr q)⟩
theorem RepA.step {d : AV} {v : V} (r : RepA K T ex σ env H v d) (s : Step K T ex σ H env H' env') : RepA K T ex σ env' H' v d := by
  cases d with
  | v d => exact Rep.step r s
  | s i => exact r
theorem Step.s (s : Step K T ex σ H env H' env') : SStep K T np ex σ H env σ H' env' :=
  ⟨s.fr, s.dm, fun i c _ e => s.sb i c e, fun i c a h e q => let ⟨c', e'⟩ := s.sb i c e; .inl ⟨i, c', h, e', q⟩, fun _ _ => rfl, rfl, s.gd⟩
theorem SStep.refl (g : Good K T ex σ H env) : SStep K T np ex σ H env σ H env := (Step.refl g).s
theorem SStep.owns (s : SStep K T np ex σ H env σ' H' env') {a : Addr} (h : Owns σ' env' a) : Owns σ env a ∨ H a = none := by
  obtain ⟨i, c, e1, e2⟩ := h
  cases hi : np i with
  | true =>
    obtain ⟨c', e3⟩ := s.sbp i c hi e1
    exact .inl ⟨i, c', e3, by rw [← s.par i hi]; exact e2⟩
  | false =>
    rcases s.sbl i c a hi e1 e2 with ⟨j, c', _, e3, e4⟩ | q
    · exact .inl ⟨j, c', e3, e4⟩
    · exact .inr q
theorem SStep.trans (a : SStep K T np ex σ H env σ' H' env') (b : SStep K T np ex σ' H' env' σ'' H'' env'') : SStep K T np ex σ H env σ'' H'' env'' where
  fr := fun x o e n nt => b.fr x o (a.fr x o e n nt) (fun q => by
    rcases a.owns q with q | q
    · exact n q
    · rw [q] at e; cases e) nt
  dm := fun x e => b.dm x (a.dm x e)
  sbp := fun i c h e => let ⟨c', e'⟩ := b.sbp i c h e; a.sbp i c' h e'
  sbl := fun i c x h e q => by
    rcases b.sbl i c x h e q with ⟨j, c', hj, e1, e2⟩ | n
    · exact a.sbl j c' x hj e1 e2
    · refine .inr ?_
      cases w : H x with
      | none => rfl
      | some o => exact absurd n (a.dm x (by rw [w]; exact fun z => by cases z))
  par := fun i h => (b.par i h).trans (a.par i h)
  ln := b.ln.trans a.ln
  gd := b.gd
theorem SStep.rep {d : D} {v : V} (s : SStep K T np ex σ H env σ' H' env') (r : Rep K T (exO ex σ env) H d v) : Rep K T (exO ex σ' env') H' d v :=
  r.monoT fun a o n e => ⟨(fun q => by
    rcases q with q | q
    · exact n (.inl q)
    · rcases s.owns q with q | q
      · exact n (.inr q)
      · rw [q] at e; exact nomatch e), s.fr a o e fun q => n (.inr q)⟩
theorem RepR.trans {e : EV} {v : V} (a : SStep K T np ex σ H env σ' H' env') (r : RepR K T np ex σ' env' H' σ'' env'' H'' v e) : RepR K T np ex σ env H σ'' env'' H'' v e := by
  cases e with
  | v d => exact r
  | o c =>
    obtain ⟨x, e1, n1, n2, h, q⟩ := r
    refine ⟨x, e1, n1, n2, ?_, q⟩
    rcases h with ⟨j, c', hj, e2, e3⟩ | n
    · exact a.sbl j c' x hj e2 e3
    · refine .inr ?_
      cases w : H x with
      | none => rfl
      | some o => exact absurd n (a.dm x (by rw [w]; exact fun z => by cases z))
end
theorem takes0 {X : Cx} : L2N.Takes X (fun _ _ _ _ => False) := fun u s' ⟨_, _, _, _, _, _, _, _, _, _, _, _, _, _, _, _, z⟩ => z.elim
theorem passL {X : Cx} : L2.Passes (L2N.CX X.prog X.w) X L2.E0 := fun _ _ _ _ _ _ _ ⟨_, _, _, _, _, _, _, _, _, _, _, _, z⟩ => z.elim
theorem cxUp {P : Program} {w : World} : StX.CXUp (L2N.CX P w) := by
  rintro outer s H s2 H2 E e s' un kp ho ⟨a, B, H', cls, d, ea, fl, hok, ub, na, os, ag, he⟩
  refine ⟨a, B, H', cls, d, ea, fl, hok, ⟨fun b o q n hb => ub.keep b o (kp b o q) (un.free b o q n (by simp)) hb, fun b o q hb => ub.slot b o (kp b o q) hb, fun b o q n => ub.free b o (kp b o q) (un.free b o q n (by simp)),
    fun b o q hb => ub.there b o (kp b o q) hb, fun b xs q => ub.tups b xs (un.tups b xs q), fun b o xs q => ub.frzs b o xs (un.frzs b o xs q), fun b ps q => ?_⟩, na, os.trans ho, ag, he⟩
  obtain ⟨m1, e1⟩ := un.tbls b ps q
  obtain ⟨m2, e2⟩ := ub.tbls b _ e1
  exact ⟨m1 ++ m2, by rw [e2, Array.append_assoc]⟩
end Dt
end
section
set_option maxRecDepth 100000
set_option maxHeartbeats 4000000
/-! QB: readings of expressions as functions of the slots. -/
namespace Dt
open PySem PySem.Spec
open L2 hiding passL ps_try_many HdsOk takes0 XE Takes CX takes_of passes_call PMk MkP ps_raise mk_of ps_try_as pmk_own
open L2N hiding St
open PyProof.Rows hiding St

def M.ret {α : Type} (a : α) : M α := fun e => some (.ok a e)
def M.bind {α β : Type} (m : M α) (k : α → M β) : M β := fun e => match m e with
  | some (.ok a e') => k a e'
  | some (.exc x e') => some (.exc x e')
  | none => none
def M.stuck {α : Type} : M α := fun _ => none
def lift {α : Type} (o : Option α) : M α := fun e => match o with
  | some a => some (.ok a e)
  | none => none
def frzC : OC → Option D
  | .lst ds => some (.lst ds)
  | .dic ks vs => some (.dic ks vs)
  | .ins _ _ => none
def frz : EV → Option D
  | .v d => some d
  | .o c => frzC c
def rdS : Option Slot → Option D
  | some (.val d) => some d
  | some (.own c) => frzC c
  | _ => none
def deref (env : Sl) : AV → Option D
  | .v d => some d
  | .s i => rdS env[i]?
/-- a value to be read: its own object may be a slot's -/
def Rd1 (K : PySem.W.Frag) (T : Tab) (ex : Addr → Prop) (H : Hp) : D → V → Prop
  | .lst ds, v => ∃ a vs, v = .ref a ∧ H a = some (.lst vs) ∧ RepL K T ex H ds vs
  | .dic ks ds, v => ∃ a vs, v = .ref a ∧ H a = some (.dK (ks.zip vs)) ∧ ks.length = vs.length ∧ RepL K T ex H ds vs
  | d, v => Rep K T ex H d v
def Ext (H H' : Hp) : Prop := ∀ b o, H b = some o → H' b = some o
/-- a new value out of values -/
def RepV (K : PySem.W.Frag) (T : Tab) (ex : Addr → Prop) (H0 H' : Hp) (v : V) : EV → Prop
  | .v d => Rep K T ex H' d v
  | .o c => ∃ a, v = .ref a ∧ H0 a = none ∧ RepO K T (fun b => ex b ∨ b = a) H' a c

section
variable {K : PySem.W.Frag} {T : Tab} {ex : Addr → Prop} {σ : St} {H H' : Hp} {env env' : Sl}
theorem Rep.rd1 {d : D} {v : V} (h : Rep K T ex H d v) : Rd1 K T ex H d v := by
  cases d with
  | lst ds =>
    obtain ⟨a, vs, e, _, q, r⟩ := h
    exact ⟨a, vs, e, q, r⟩
  | dic ks ds =>
    obtain ⟨a, vs, e, _, q, l, r⟩ := h
    exact ⟨a, vs, e, q, l, r⟩
  | _ => exact h
theorem RepO.rd1 {a : Addr} {c : OC} {d : D} (h : RepO K T ex H a c) (e : frzC c = some d) : Rd1 K T ex H d (.ref a) := by
  cases c with
  | lst ds => cases e; obtain ⟨vs, q, r⟩ := h; exact ⟨a, vs, rfl, q, r⟩
  | dic ks ds => cases e; obtain ⟨vs, q, l, r⟩ := h; exact ⟨a, vs, rfl, q, l, r⟩
  | ins t ds => cases e
theorem RepO.rep {a : Addr} {c : OC} {d : D} (h : RepO K T ex H a c) (n : ¬ ex a) (e : frzC c = some d) : Rep K T ex H d (.ref a) := by
  cases c with
  | lst ds => cases e; obtain ⟨vs, q, r⟩ := h; exact ⟨a, vs, rfl, n, q, r⟩
  | dic ks ds => cases e; obtain ⟨vs, q, l, r⟩ := h; exact ⟨a, vs, rfl, n, q, l, r⟩
  | ins t ds => cases e
theorem deref_ok {a : AV} {v : V} {d : D} (g : Good K T ex σ H env) (r : RepA K T ex σ env H v a) (e : deref env a = some d) : Rd1 K T (exO ex σ env) H d v := by
  cases a with
  | v d' => cases e; exact Rep.rd1 r
  | s i =>
    have e : rdS env[i]? = some d := e
    cases q : env[i]? with
    | none => rw [q] at e; cases e
    | some sl =>
      rw [q] at e
      have r' : σ[i]? = some (some v) := r
      cases sl with
      | emp => cases e
      | val d' =>
        cases e
        obtain ⟨w, e1, h⟩ := g.val i _ q
        rw [r'] at e1; cases e1
        exact h.rd1
      | own c =>
        obtain ⟨b, e1, n, h⟩ := g.own i c q
        rw [r'] at e1; cases e1
        exact h.rd1 e
theorem frz_rep {a : Addr} {c : OC} {d : D} (g : Good K T ex σ H env) (s : Step K T ex σ H env H' env') (n : H a = none) (h : RepO K T (fun b => exO ex σ env' b ∨ b = a) H' a c) (e : frzC c = some d) : Rep K T (exO ex σ env') H' d (.ref a) := by
  have na : ¬ exO ex σ env' a := fun q => g.fresh n (s.exO q)
  have h' : RepO K T (exO ex σ env') H' a c := h.mono rfl fun b o nb q => ⟨fun z => nb (.inl z), q⟩
  exact h'.rep na e
theorem RepE.frz {ev : EV} {v : V} {d : D} (g : Good K T ex σ H env) (s : Step K T ex σ H env H' env') (r : RepE K T ex σ env' H H' v ev) (e : frz ev = some d) : Rep K T (exO ex σ env') H' d v := by
  cases ev with
  | v d' => cases e; exact r
  | o c =>
    obtain ⟨a, e1, n, h, _⟩ := r
    subst e1
    exact frz_rep g s n h e
end

/-! ### readings -/
abbrev Rl (γ α : Type) := (Addr → Prop) → St → Sl → Hp → Hp → γ → α → Prop
section
variable (K : PySem.W.Frag) (T : Tab)
def relE : Rl V EV := fun ex σ env' H H' v a => RepE K T ex σ env' H H' v a
def relA : Rl V AV := fun ex σ env' _ H' v a => RepA K T ex σ env' H' v a
def relAs : Rl (List V) (List AV) := fun ex σ env' _ H' vs as => Paired (fun a v => RepA K T ex σ env' H' v a) as vs
def relT : Rl Bool Bool := fun _ _ _ _ _ b c => b = c
def Out {γ α : Type} (rel : Rl γ α) (ex : Addr → Prop) (env : Sl) (W : WX) (σ : St) (H : Hp) (Q : γ → Hp → Prop) : Re α → Prop
  | .ok a env' => ∀ v H', Step K T ex σ H env H' env' → rel ex σ env' H H' v a → Q v H'
  | .exc x env' => ∀ cls dd H', Step K T ex σ H env H' env' → RepX K T (exO ex σ env') H' cls dd x → W cls dd σ H'
def trx {γ α : Type} (rel : Rl γ α) (ex : Addr → Prop) (f : M α) (env : Sl) (W : WX) (σ : St) (H : Hp) (Q : γ → Hp → Prop) : Prop :=
  Good K T ex σ H env ∧ ∃ r, f env = some r ∧ Out K T rel ex env W σ H Q r
def tr {γ α : Type} (rel : Rl γ α) (f : M α) (W : WX) : St → Hp → (γ → Hp → Prop) → Prop := fun σ H Q => ∃ ex env, trx K T rel ex f env W σ H Q
end
/-- the start's heap may be an earlier one -/
def RM {γ α : Type} (rel : Rl γ α) : Prop := ∀ ex σ env' H H1 H' v a, (∀ b, H b ≠ none → H1 b ≠ none) → rel ex σ env' H1 H' v a → rel ex σ env' H H' v a
theorem none_back {H H1 : Hp} (k : ∀ b, H b ≠ none → H1 b ≠ none) {a : Addr} (h : H1 a = none) : H a = none := by
  cases w : H a with
  | none => rfl
  | some o => exact absurd h (k a (by rw [w]; exact fun z => by cases z))
section
variable {K : PySem.W.Frag} {T : Tab}
theorem rmE : RM (relE K T) := fun ex σ env' H H1 H' v a k r => by
  cases a with
  | v d => exact r
  | o c => obtain ⟨x, e, n, h⟩ := r; exact ⟨x, e, none_back k n, h⟩
theorem rmA : RM (relA K T) := fun _ _ _ _ _ _ _ _ _ r => r
theorem rmAs : RM (relAs K T) := fun _ _ _ _ _ _ _ _ _ r => r
theorem rmT : RM relT := fun _ _ _ _ _ _ _ _ _ r => r
variable {γ γ' α β : Type} {rel : Rl γ α} {rel' : Rl γ' β} {ex : Addr → Prop} {env env1 : Sl} {W : WX} {σ : St} {H H1 : Hp} {fa : M α} {k : α → M β} {Q : γ' → Hp → Prop}
theorem trx.mono {R R' : γ → Hp → Prop} (h : trx K T rel ex fa env W σ H R) (hq : ∀ v H', R v H' → R' v H') : trx K T rel ex fa env W σ H R' := by
  obtain ⟨g, r, e, o⟩ := h
  refine ⟨g, r, e, ?_⟩
  cases r with
  | ok a env' => exact fun v H' s q => hq v H' (o v H' s q)
  | exc x env' => exact o
theorem Out.back {r : Re β} (hm : RM rel') (s : Step K T ex σ H env H1 env1) (o : Out K T rel' ex env W σ H Q r) : Out K T rel' ex env1 W σ H1 Q r := by
  cases r with
  | ok a env' => exact fun v H' s' q => o v H' (s.trans s') (hm _ _ _ _ _ _ _ _ s.dm q)
  | exc x env' => exact fun c d H' s' q => o c d H' (s.trans s') q
theorem trx_bind (rel : Rl γ α) (hm : RM rel') (h : trx K T rel' ex (M.bind fa k) env W σ H Q) :
    trx K T rel ex fa env W σ H fun v H1 => ∃ a env1, Step K T ex σ H env H1 env1 ∧ rel ex σ env1 H H1 v a ∧ trx K T rel' ex (k a) env1 W σ H1 Q := by
  obtain ⟨g, r, e, o⟩ := h
  unfold M.bind at e
  cases q : fa env with
  | none => rw [q] at e; cases e
  | some ra =>
    rw [q] at e
    refine ⟨g, ra, q, ?_⟩
    cases ra with
    | exc x env' => cases e; exact o
    | ok a env1 => exact fun v H1 s hr => ⟨a, env1, s, hr, s.gd, r, e, o.back hm s⟩
theorem trx.tr {f : M β} (h : trx K T rel' ex f env W σ H Q) : Dt.tr K T rel' f W σ H Q := ⟨ex, env, h⟩
theorem trx_ret {b : β} (h : trx K T rel' ex (M.ret b) env W σ H Q) : Good K T ex σ H env ∧ ∀ v H', Step K T ex σ H env H' env → rel' ex σ env H H' v b → Q v H' := by
  obtain ⟨g, r, e, out⟩ := h
  cases e
  exact ⟨g, out⟩
end

/-! ### judgements -/
section
variable (T : Tab) (X : Cx)
def QE (e : Expr) (f : M EV) : Prop := ∀ pn xe W, Takes (X.tr pn xe) W → PassesOwn (model X.prog X.w) X.A X.env xe → PE (X.tr pn xe) e (tr X.K T (relE X.K T) f W)
def QO (e : Expr) (f : M AV) : Prop := ∀ pn xe W, Takes (X.tr pn xe) W → PassesOwn (model X.prog X.w) X.A X.env xe → PE (X.tr pn xe) e (tr X.K T (relA X.K T) f W)
def QAs (es : List Expr) (f : M (List AV)) : Prop := ∀ pn xe W, Takes (X.tr pn xe) W → PassesOwn (model X.prog X.w) X.A X.env xe → PA (X.tr pn xe) es (tr X.K T (relAs X.K T) f W)
def QT (e : Expr) (f : M Bool) : Prop := ∀ pn xe W, Takes (X.tr pn xe) W → PassesOwn (model X.prog X.w) X.A X.env xe → PT (X.tr pn xe) e (tr X.K T relT f W)
def QW (e : Expr) (f : M Bool) : Prop := ∀ pn xe W, Takes (X.tr pn xe) W → PassesOwn (model X.prog X.w) X.A X.env xe → PW (X.tr pn xe) e (tr X.K T relT f W)
end
theorem impE {X : Cx} {e : Expr} {t t' : TE} (h : PE X e t) (k : ∀ σ H Q, t' σ H Q → t σ H Q) : PE X e t' := ⟨fun pins s σ H Q I q => h.run pins s σ H Q I (k σ H Q q)⟩
theorem impT {X : Cx} {e : Expr} {t t' : TT} (h : PT X e t) (k : ∀ σ H Q, t' σ H Q → t σ H Q) : PT X e t' := ⟨fun pins s σ H Q I q => h.run pins s σ H Q I (k σ H Q q)⟩
theorem impW {X : Cx} {e : Expr} {t t' : TT} (h : PW X e t) (k : ∀ σ H Q, t' σ H Q → t σ H Q) : PW X e t' := ⟨fun wh pins s σ H Q I q => h.run wh pins s σ H Q I (k σ H Q q)⟩
theorem impA {X : Cx} {e : List Expr} {t t' : TA} (h : PA X e t) (k : ∀ σ H Q, t' σ H Q → t σ H Q) : PA X e t' := ⟨fun pos pins s σ H Q I q => h.run pos pins s σ H Q I (k σ H Q q)⟩
theorem impS {X : Cx} {e : Stmt} {t t' : TS} (h : PS X e t) (k : ∀ D σ H, t' D σ H → t D σ H) : PS X e t' := ⟨fun pins s σ H D I q => h.run pins s σ H D I (k D σ H q)⟩
theorem impSs {X : Cx} {e : List Stmt} {t t' : TS} (h : PSs X e t) (k : ∀ D σ H, t' D σ H → t D σ H) : PSs X e t' := ⟨fun pins s σ H D I q => h.run pins s σ H D I (k D σ H q)⟩

/-! ### names -/
def oName (i : Nat) : M AV := fun env => match env[i]? with
  | some (.val d) => some (.ok (.v d) env)
  | some (.own _) => some (.ok (.s i) env)
  | _ => none
def eName (i : Nat) : M EV := fun env => match env[i]? with
  | some (.val d) => some (.ok (.v d) env)
  | some (.own c) => match frzC c with
    | some d => some (.ok (.v d) (env.set i (.val d)))
    | none => none
  | _ => none
section
variable {K : PySem.W.Frag} {T : Tab} {ex : Addr → Prop} {σ : St} {H : Hp} {env : Sl}
/-- an owned thing becomes one that never changes -/
theorem Good.freeze (g : Good K T ex σ H env) {i : Nat} {c : OC} {d : D} (e : env[i]? = some (.own c)) (f : frzC c = some d) :
    Step K T ex σ H env H (env.set i (.val d)) ∧ ∃ a, σ[i]? = some (some (V.ref a)) ∧ Rep K T (exO ex σ (env.set i (.val d))) H d (.ref a) := by
  have hi : i < env.length := (List.getElem?_eq_some_iff.mp e).1
  obtain ⟨a, ea, na, ra⟩ := g.own i c e
  have other : ∀ j sl, (env.set i (.val d))[j]? = some sl → (j = i ∧ sl = .val d) ∨ (j ≠ i ∧ env[j]? = some sl) := fun j sl h => by
    by_cases q : j = i
    · subst q
      rw [List.getElem?_set_self hi] at h
      exact .inl ⟨rfl, (Option.some.inj h).symm⟩
    · rw [List.getElem?_set_ne (Ne.symm q)] at h
      exact .inr ⟨q, h⟩
  have ow : ∀ {b}, Owns σ (env.set i (.val d)) b → Owns σ env b ∧ b ≠ a := fun {b} h => by
    obtain ⟨j, c', e1, e2⟩ := h
    rcases other j _ e1 with ⟨_, z⟩ | ⟨hj, e3⟩
    · cases z
    · refine ⟨⟨j, c', e3, e2⟩, fun z => ?_⟩
      subst z
      exact hj (g.inj j i b c' c e3 e e2 ea)
  have ow' : ∀ {b}, exO ex σ (env.set i (.val d)) b → exO ex σ env b ∧ b ≠ a := fun {b} h => by
    rcases h with h | h
    · exact ⟨.inl h, fun z => na (by rw [← z]; exact h)⟩
    · exact ⟨.inr (ow h).1, (ow h).2⟩
  have mo : ∀ b o, ¬ exO ex σ env b → H b = some o → ¬ exO ex σ (env.set i (.val d)) b ∧ H b = some o := fun b o n q => ⟨fun z => n (ow' z).1, q⟩
  have rd : Rep K T (exO ex σ (env.set i (.val d))) H d (.ref a) := (ra.mono rfl mo).rep (fun z => (ow' z).2 rfl) f
  refine ⟨⟨fun _ _ q _ _ => q, fun _ q => q, fun j c' q => ?_, ?_⟩, a, ea, rd⟩
  · rcases other j _ q with ⟨_, z⟩ | ⟨_, e3⟩
    · cases z
    · exact ⟨c', e3⟩
  · refine ⟨by rw [List.length_set]; exact g.len, fun j d' q => ?_, fun j c' q => ?_, fun j k b c1 c2 q1 q2 => ?_, g.dom, g.tb⟩
    · rcases other j _ q with ⟨z, z'⟩ | ⟨_, e3⟩
      · cases z'; subst z; exact ⟨.ref a, ea, rd⟩
      · obtain ⟨v, e1, r⟩ := g.val j d' e3
        exact ⟨v, e1, r.mono mo⟩
    · rcases other j _ q with ⟨_, z⟩ | ⟨_, e3⟩
      · cases z
      · obtain ⟨b, e1, n, r⟩ := g.own j c' e3
        exact ⟨b, e1, n, r.mono rfl mo⟩
    · rcases other j _ q1 with ⟨_, z⟩ | ⟨_, e3⟩
      · cases z
      · rcases other k _ q2 with ⟨_, z⟩ | ⟨_, e4⟩
        · cases z
        · exact g.inj j k b c1 c2 e3 e4
end
section
variable {T : Tab} {X : Cx}
theorem qo_name (i : Nat) {x : Str} {pos : Pos} (hN : X.N[i]? = some x := by rfl) (hv : Vis X.env.scope x := by first | exact Or.inl rfl | exact Or.inr (Or.inl rfl) | exact Or.inr (Or.inr rfl))
    (hd : (x == ("__debug__" : Str)) = false := by decide) (hcd : (x == ("__classdict__" : Str)) = false := by decide) : QO T X (.Name x pos) (oName i) := by
  intro pn xe W tk hp
  refine impE (pe_var (X := X.tr pn xe) (i := i) hN hv hd hcd) fun σ H Q h => ?_
  obtain ⟨ex, env, g, r, e, o⟩ := h
  unfold oName at e
  cases q : env[i]? with
  | none => rw [q] at e; cases e
  | some sl =>
    rw [q] at e
    cases sl with
    | emp => cases e
    | val d =>
      cases e
      obtain ⟨v, e1, h1⟩ := g.val i d q
      exact ⟨v, e1, o v H (Step.refl g) h1⟩
    | own c =>
      cases e
      obtain ⟨a, e1, _⟩ := g.own i c q
      exact ⟨.ref a, e1, o (.ref a) H (Step.refl g) e1⟩
theorem qe_name (i : Nat) {x : Str} {pos : Pos} (hN : X.N[i]? = some x := by rfl) (hv : Vis X.env.scope x := by first | exact Or.inl rfl | exact Or.inr (Or.inl rfl) | exact Or.inr (Or.inr rfl))
    (hd : (x == ("__debug__" : Str)) = false := by decide) (hcd : (x == ("__classdict__" : Str)) = false := by decide) : QE T X (.Name x pos) (eName i) := by
  intro pn xe W tk hp
  refine impE (pe_var (X := X.tr pn xe) (i := i) hN hv hd hcd) fun σ H Q h => ?_
  obtain ⟨ex, env, g, r, e, o⟩ := h
  unfold eName at e
  cases q : env[i]? with
  | none => rw [q] at e; cases e
  | some sl =>
    rw [q] at e
    cases sl with
    | emp => cases e
    | val d =>
      cases e
      obtain ⟨v, e1, h1⟩ := g.val i d q
      exact ⟨v, e1, o v H (Step.refl g) h1⟩
    | own c =>
      dsimp only at e
      cases f : frzC c with
      | none => rw [f] at e; cases e
      | some d =>
        rw [f] at e
        cases e
        obtain ⟨s, a, e1, rd⟩ := g.freeze q f
        exact ⟨.ref a, e1, o (.ref a) H s rd⟩
/-- an expression's value, no more than read -/
def toA (f : M EV) : M AV := M.bind f fun ev => match frz ev with
  | some d => M.ret (.v d)
  | none => M.stuck
theorem qo_of {e : Expr} {f : M EV} (h : QE T X e f) : QO T X e (toA f) := by
  intro pn xe W tk hp
  refine impE (h pn xe W tk hp) fun σ H Q q => ?_
  obtain ⟨ex, env, q⟩ := q
  refine ⟨ex, env, (trx_bind (relE X.K T) rmA q).mono fun v H1 ⟨ev, env1, s, r, q⟩ => ?_⟩
  cases f : frz ev with
  | none => rw [f] at q; obtain ⟨_, _, e, _⟩ := q; cases e
  | some d =>
    rw [f] at q
    obtain ⟨g, k⟩ := trx_ret q
    obtain ⟨g0, _⟩ : Good X.K T ex σ H env ∧ True := ⟨by rename_i q0 _; exact q0.1, trivial⟩
    exact k v H1 (Step.refl g) (RepE.frz g0 s r f)
end
end Dt
end
section
set_option maxRecDepth 100000
set_option maxHeartbeats 4000000
/-! QC: constants, operators by their data, tests, displays, calls of the text's own defs. -/
namespace Dt
open PySem PySem.Spec
open L2 hiding passL ps_try_many HdsOk takes0 XE Takes CX takes_of passes_call PMk MkP ps_raise mk_of ps_try_as pmk_own
open L2N hiding St
open PyProof.Rows hiding St

section
variable {T : Tab} {X : Cx} {pos : Pos}
/-! ### constants -/
def eC (d : D) : M EV := M.ret (.v d)
theorem trC {K : PySem.W.Frag} {W : WX} {σ : St} {H : Hp} {Q : VK} {d : D} {v : V} (hd : ∀ ex H, Rep K T ex H d v) (h : tr K T (relE K T) (eC d) W σ H Q) : Q v H := by
  obtain ⟨ex, env, q⟩ := h
  obtain ⟨g, k⟩ := trx_ret q
  exact k v H (Step.refl g) (hd _ _)
theorem qe_int {i : Int} {j : Nat} : QE T X (.Constant (.int i) j pos) (eC (.int i)) := fun pn xe W _ _ => impE pe_int fun σ H Q h => trC (d := .int i) (v := .int i) (fun _ _ => by exact rfl) h
theorem qe_bl {b : Bool} {j : Nat} : QE T X (.Constant (.bool b) j pos) (eC (.bl b)) := fun pn xe W _ _ => impE pe_bl fun σ H Q h => trC (d := .bl b) (v := .bl b) (fun _ _ => by exact rfl) h
theorem qe_non {j : Nat} : QE T X (.Constant .none j pos) (eC .non) := fun pn xe W _ _ => impE pe_non fun σ H Q h => trC (d := .non) (v := .non) (fun _ _ => by exact rfl) h
theorem qe_str {x : Str} {j : Nat} (l : List Nat) (hl : mkS l = x := by decide +kernel) : QE T X (.Constant (.str x) j pos) (eC (.str l)) := fun pn xe W _ _ => impE pe_str fun σ H Q h => trC (d := .str l) (v := .str x) (fun _ _ => by show V.str x = V.str (mkS l); rw [hl]) h
end

/-! ### operators -/
def rQ (K : PySem.W.Frag) (T : Tab) (op : D → D → Option EV) : R2 := fun x y H Q => ∃ ex d1 d2 ev, (∀ a, ex a → H a ≠ none) ∧ Rd1 K T ex H d1 x ∧ Rd1 K T ex H d2 y ∧ op d1 d2 = some ev ∧ ∀ v H', Ext H H' → RepV K T ex H H' v ev → Q v H'
def opM (op : D → D → Option EV) (x y : AV) : M EV := fun env => (deref env x).bind fun d1 => (deref env y).bind fun d2 => lift (op d1 d2) env
def eOp (op : D → D → Option EV) (fa fb : M AV) : M EV := M.bind fa fun x => M.bind fb fun y => opM op x y
def toB (f : M EV) : M Bool := M.bind f fun ev => match ev with
  | .v (.bl b) => M.ret b
  | _ => M.stuck
theorem Good.dm {K : PySem.W.Frag} {T : Tab} {ex : Addr → Prop} {σ : St} {H : Hp} {env : Sl} (g : Good K T ex σ H env) : ∀ a, exO ex σ env a → H a ≠ none := fun a h q => g.fresh q h
section
variable {K : PySem.W.Frag} {T : Tab} {ex : Addr → Prop} {σ : St} {H H' : Hp} {env : Sl} {W : WX} {Q : VK}
theorem RepV.e {v : V} {ev : EV} (g : Good K T ex σ H env) (k : Ext H H') (r : RepV K T (exO ex σ env) H H' v ev) : RepE K T ex σ env H H' v ev := by
  cases ev with
  | v d => exact r
  | o c => obtain ⟨a, e, n, h⟩ := r; exact ⟨a, e, n, h, g.more n k h.there⟩
theorem opt_bind {α β : Type} {o : Option α} {f : α → Option β} {b : β} (h : o.bind f = some b) : ∃ a, o = some a ∧ f a = some b := by
  cases o with
  | none => cases h
  | some a => exact ⟨a, rfl, h⟩
theorem trx_op {op : D → D → Option EV} {x y : AV} {vx vy : V} (h : trx K T (relE K T) ex (opM op x y) env W σ H Q) (rx : RepA K T ex σ env H vx x) (ry : RepA K T ex σ env H vy y) : rQ K T op vx vy H Q := by
  obtain ⟨g, r, e, o⟩ := h
  obtain ⟨d1, e1, e⟩ := opt_bind e
  obtain ⟨d2, e2, e⟩ := opt_bind e
  cases q : op d1 d2 with
  | none => rw [q] at e; cases e
  | some ev =>
    rw [q] at e
    cases e
    exact ⟨_, d1, d2, ev, g.dm, deref_ok g rx e1, deref_ok g ry e2, q, fun v H' k r => o v H' (Step.ext g k) (r.e g k)⟩
theorem tr_op {op : D → D → Option EV} {fa fb : M AV} (h : tr K T (relE K T) (eOp op fa fb) W σ H Q) : tOp (rQ K T op) (tr K T (relA K T) fa W) (tr K T (relA K T) fb W) σ H Q := by
  obtain ⟨ex, env, h⟩ := h
  refine ⟨ex, env, (trx_bind (relA K T) rmE h).mono fun x H1 ⟨a, env1, s1, ra, h1⟩ => ⟨ex, env1, (trx_bind (relA K T) rmE h1).mono fun y H2 ⟨b, env2, s2, rb, h2⟩ => ?_⟩⟩
  exact trx_op h2 (RepA.step ra s2) rb
theorem tr_opB {op : D → D → Option EV} {fa fb : M AV} {Q : Bool → Hp → Prop} (h : tr K T relT (toB (eOp op fa fb)) W σ H Q) : tTest (tOp (rQ K T op) (tr K T (relA K T) fa W) (tr K T (relA K T) fb W)) σ H Q := by
  obtain ⟨ex, env, h⟩ := h
  refine tr_op ⟨ex, env, (trx_bind (relE K T) rmT h).mono fun x H1 ⟨ev, env1, s1, ra, h1⟩ => ?_⟩
  have stuck : ∀ {f : M Bool}, f = M.stuck → trx K T relT ex f env1 W σ H1 Q → False := fun e ⟨_, _, q, _⟩ => by rw [e] at q; cases q
  cases ev with
  | o c => exact (stuck rfl h1).elim
  | v d =>
    cases d with
    | bl b =>
      obtain ⟨g, k⟩ := trx_ret h1
      exact ⟨b, ra, k b H1 (Step.refl g) rfl⟩
    | _ => exact (stuck rfl h1).elim
end
section
variable {T : Tab} {X : Cx} {pos : Pos} {a b c : Expr} {fa fb fc : M AV}
theorem qe_op {o : Operator} {op : D → D → Option EV} (ho : ∀ pn xe, OpR (X.tr pn xe) (binaryOp o) (rQ X.K T op)) (ha : QO T X a fa) (hb : QO T X b fb) : QE T X (.BinOp a o b pos) (eOp op fa fb) :=
  fun pn xe W tk hp => impE (pe_op (ho pn xe) (ha pn xe W tk hp) (hb pn xe W tk hp)) fun σ H Q h => tr_op h
theorem qe_cmp {o : CmpOp} {op : D → D → Option EV} (ho : ∀ pn xe, OpR (X.tr pn xe) (compareOp o) (rQ X.K T op)) (ha : QO T X a fa) (hb : QO T X b fb) (hm : behindInMarks o b = false := by first | exact nomark _ (by decide) (by decide) | rfl | with_unfolding_all rfl) : QE T X (.Compare a [o] [b] pos) (eOp op fa fb) :=
  fun pn xe W tk hp => impE (pe_cmpR (ho pn xe) (ha pn xe W tk hp) (hb pn xe W tk hp) hm) fun σ H Q h => tr_op h
theorem qt_cmp {o : CmpOp} {op : D → D → Option EV} (ho : ∀ pn xe, OpR (X.tr pn xe) (compareOp o) (rQ X.K T op)) (ha : QO T X a fa) (hb : QO T X b fb) (hm : behindInMarks o b = false := by first | exact nomark _ (by decide) (by decide) | rfl | with_unfolding_all rfl) : QT T X (.Compare a [o] [b] pos) (toB (eOp op fa fb)) :=
  fun pn xe W tk hp => impT (pt_cmpR (ho pn xe) (ha pn xe W tk hp) (hb pn xe W tk hp) hm) fun σ H Q h => tr_opB h
end

/-! ### a op b op' c -/
def eChain (op op' : D → D → Option EV) (fa fb fc : M AV) : M EV := M.bind fa fun x => M.bind fb fun y => M.bind (toB (opM op x y)) fun k => if k = true then M.bind fc fun z => opM op' y z else M.ret (.v (.bl false))
section
variable {K : PySem.W.Frag} {T : Tab} {ex : Addr → Prop} {σ : St} {H H' : Hp} {env : Sl} {W : WX} {Q : VK}
theorem trx_opB {op : D → D → Option EV} {x y : AV} {vx vy : V} {R : Bool → Hp → Prop} (h : trx K T relT ex (toB (opM op x y)) env W σ H R) (rx : RepA K T ex σ env H vx x) (ry : RepA K T ex σ env H vy y) : rQ K T op vx vy H fun z H3 => ∃ k, z = .bl k ∧ R k H3 := by
  refine trx_op ((trx_bind (relE K T) rmT h).mono fun z H1 ⟨ev, env1, s1, ra, h1⟩ => ?_) rx ry
  have stuck : ∀ {f : M Bool}, f = M.stuck → trx K T relT ex f env1 W σ H1 R → False := fun e ⟨_, _, q, _⟩ => by rw [e] at q; cases q
  cases ev with
  | o c => exact (stuck rfl h1).elim
  | v d =>
    cases d with
    | bl b =>
      obtain ⟨g, k⟩ := trx_ret h1
      exact ⟨b, ra, k b H1 (Step.refl g) rfl⟩
    | _ => exact (stuck rfl h1).elim
theorem tr_chain {op op' : D → D → Option EV} {fa fb fc : M AV} (h : tr K T (relE K T) (eChain op op' fa fb fc) W σ H Q) : tChain (rQ K T op) (rQ K T op') (tr K T (relA K T) fa W) (tr K T (relA K T) fb W) (tr K T (relA K T) fc W) σ H Q := by
  obtain ⟨ex, env, h⟩ := h
  refine ⟨ex, env, (trx_bind (relA K T) rmE h).mono fun x H1 ⟨a, env1, s1, ra, h1⟩ => ⟨ex, env1, (trx_bind (relA K T) rmE h1).mono fun y H2 ⟨b, env2, s2, rb, h2⟩ => ?_⟩⟩
  have q : rQ K T op x y H2 fun z H3 => ∃ k, z = .bl k ∧ ∃ c env3, Step K T ex σ H2 env2 H3 env3 ∧ relT ex σ env3 H2 H3 k c ∧ trx K T (relE K T) ex (if c = true then M.bind fc fun z => opM op' b z else M.ret (.v (.bl false))) env3 W σ H3 Q :=
    trx_opB (trx_bind relT rmE h2) (RepA.step ra s2) rb
  have mono : ∀ {R R' : VK}, rQ K T op x y H2 R → (∀ v H', R v H' → R' v H') → rQ K T op x y H2 R' := fun ⟨ex, d1, d2, ev, p1, p2, p3, p4, p5⟩ k => ⟨ex, d1, d2, ev, p1, p2, p3, p4, fun v H' a b => k v H' (p5 v H' a b)⟩
  refine mono q fun z H3 ⟨k, ez, c, env3, s3, ec, h3⟩ => ⟨k, ez, ?_⟩
  have ec : k = c := ec
  subst ec
  cases k with
  | true =>
    rw [if_pos rfl] at h3 ⊢
    exact ⟨ex, env3, (trx_bind (relA K T) rmE h3).mono fun w H4 ⟨d, env4, s4, rd, h4⟩ => trx_op h4 (RepA.step (RepA.step rb s3) s4) rd⟩
  | false =>
    rw [if_neg Bool.false_ne_true] at h3 ⊢
    obtain ⟨g, k⟩ := trx_ret h3
    exact k _ H3 (Step.refl g) rfl
theorem tr_chainB {op op' : D → D → Option EV} {fa fb fc : M AV} {Q : Bool → Hp → Prop} (h : tr K T relT (toB (eChain op op' fa fb fc)) W σ H Q) : tTest (tChain (rQ K T op) (rQ K T op') (tr K T (relA K T) fa W) (tr K T (relA K T) fb W) (tr K T (relA K T) fc W)) σ H Q := by
  obtain ⟨ex, env, h⟩ := h
  refine tr_chain ⟨ex, env, (trx_bind (relE K T) rmT h).mono fun x H1 ⟨ev, env1, s1, ra, h1⟩ => ?_⟩
  have stuck : ∀ {f : M Bool}, f = M.stuck → trx K T relT ex f env1 W σ H1 Q → False := fun e ⟨_, _, q, _⟩ => by rw [e] at q; cases q
  cases ev with
  | o c => exact (stuck rfl h1).elim
  | v d =>
    cases d with
    | bl b =>
      obtain ⟨g, k⟩ := trx_ret h1
      exact ⟨b, ra, k b H1 (Step.refl g) rfl⟩
    | _ => exact (stuck rfl h1).elim
end
section
variable {T : Tab} {X : Cx} {pos : Pos} {a b c : Expr} {fa fb fc : M AV} {o o' : CmpOp} {op op' : D → D → Option EV}
theorem qt_chain (ho : ∀ pn xe, OpR (X.tr pn xe) (compareOp o) (rQ X.K T op)) (ho' : ∀ pn xe, OpR (X.tr pn xe) (compareOp o') (rQ X.K T op')) (ha : QO T X a fa) (hb : QO T X b fb) (hc : QO T X c fc)
    (hm : lastMarks [o, o'] [b, c] = false := by with_unfolding_all rfl) : QT T X (.Compare a [o, o'] [b, c] pos) (toB (eChain op op' fa fb fc)) :=
  fun pn xe W tk hp => impT (pt_chain (ho pn xe) (ho' pn xe) (ha pn xe W tk hp) (hb pn xe W tk hp) (hc pn xe W tk hp) hm) fun σ H Q h => tr_chainB h
end

/-! ### truth values -/
def bAnd (f g : M Bool) : M Bool := M.bind f fun c => if c = true then g else M.ret false
def bOr (f g : M Bool) : M Bool := M.bind f fun c => if c = true then M.ret true else g
def bNot (f : M Bool) : M Bool := M.bind f fun c => M.ret (!c)
def eAnd (f g : M EV) : M EV := M.bind (toB f) fun c => if c = true then g else M.ret (.v (.bl false))
def eNot (f : M EV) : M EV := M.bind (toB f) fun c => M.ret (.v (.bl (!c)))
def eIf (c : M Bool) (f g : M EV) : M EV := M.bind c fun b => if b = true then f else g
section
variable {K : PySem.W.Frag} {T : Tab} {ex : Addr → Prop} {σ : St} {H H' : Hp} {env : Sl} {W : WX}
theorem tr_toB {f : M EV} {Q : Bool → Hp → Prop} (h : tr K T relT (toB f) W σ H Q) : tr K T (relE K T) f W σ H fun x H1 => ∃ c, x = .bl c ∧ Q c H1 := by
  obtain ⟨ex, env, h⟩ := h
  refine ⟨ex, env, (trx_bind (relE K T) rmT h).mono fun x H1 ⟨ev, env1, s1, ra, h1⟩ => ?_⟩
  have stuck : ∀ {f : M Bool}, f = M.stuck → trx K T relT ex f env1 W σ H1 Q → False := fun e ⟨_, _, q, _⟩ => by rw [e] at q; cases q
  cases ev with
  | o c => exact (stuck rfl h1).elim
  | v d =>
    cases d with
    | bl b =>
      obtain ⟨g, k⟩ := trx_ret h1
      exact ⟨b, ra, k b H1 (Step.refl g) rfl⟩
    | _ => exact (stuck rfl h1).elim
theorem tr_bool {α γ : Type} {rel : Rl γ α} (hm : RM rel) {f : M Bool} {k : Bool → M α} {Q : γ → Hp → Prop} (h : tr K T rel (M.bind f k) W σ H Q) : tr K T relT f W σ H fun c H1 => tr K T rel (k c) W σ H1 Q := by
  obtain ⟨ex, env, h⟩ := h
  refine ⟨ex, env, (trx_bind relT hm h).mono fun c H1 ⟨b, env1, s1, e, h1⟩ => ?_⟩
  have e : c = b := e
  subst e
  exact ⟨ex, env1, h1⟩
theorem tr_ret {α γ : Type} {rel : Rl γ α} {a : α} {v : γ} {Q : γ → Hp → Prop} (h : tr K T rel (M.ret a) W σ H Q) (r : ∀ ex env, rel ex σ env H H v a) : Q v H := by
  obtain ⟨ex, env, h⟩ := h
  obtain ⟨g, k⟩ := trx_ret h
  exact k v H (Step.refl g) (r _ _)
end
section
variable {T : Tab} {X : Cx} {pos : Pos} {a b c : Expr} {rest : List Expr} {f g : M Bool} {fe ge : M EV}
theorem qt_val (h : QE T X a fe) (he : ∀ whole, isTrue a X.env whole = (do let v ← whole; standAt a.pos; holding [v] (truthy v)) := by intro _; rfl) : QT T X a (toB fe) :=
  fun pn xe W tk hp => impT (pt_val (h pn xe W tk hp) he) fun σ H Q q => tr_toB q
theorem qw_or1 (h : QT T X a f) : QW T X (.BoolOp .Or [a] pos) f := fun pn xe W tk hp => pw_or1 (h pn xe W tk hp)
theorem qw_or (h : QT T X a f) (k : QW T X (.BoolOp .Or (b :: rest) pos) g) : QW T X (.BoolOp .Or (a :: b :: rest) pos) (bOr f g) := fun pn xe W tk hp => impW (pw_or (h pn xe W tk hp) (k pn xe W tk hp)) fun σ H Q q => by
  obtain ⟨ex, env, z⟩ := tr_bool rmT q
  refine ⟨ex, env, z.mono fun c H1 q1 => ?_⟩
  cases c with
  | true => exact tr_ret q1 fun _ _ => rfl
  | false => exact q1
theorem qt_w (h : QW T X a f) : QT T X a f := fun pn xe W tk hp => (h pn xe W tk hp).pt
theorem qt_not (h : QT T X a f) : QT T X (.UnaryOp .Not a pos) (bNot f) := fun pn xe W tk hp => impT (pt_not (h pn xe W tk hp)) fun σ H Q q => by
  obtain ⟨ex, env, z⟩ := tr_bool rmT q
  exact ⟨ex, env, z.mono fun c H1 q1 => tr_ret q1 fun _ _ => rfl⟩
theorem qe_one {o : BoolOp} (h : QE T X a fe) : QE T X (.BoolOp o [a] pos) fe := fun pn xe W tk hp => pe_one (h pn xe W tk hp)
theorem qe_and (h : QE T X a fe) (k : QE T X (.BoolOp .And (b :: rest) pos) ge) : QE T X (.BoolOp .And (a :: b :: rest) pos) (eAnd fe ge) := fun pn xe W tk hp => impE (pe_and (h pn xe W tk hp) (k pn xe W tk hp)) fun σ H Q q => by
  obtain ⟨ex, env, z⟩ := tr_toB (tr_bool rmE q)
  refine ⟨ex, env, z.mono fun x H1 ⟨c, e, q1⟩ => ⟨c, e, ?_⟩⟩
  cases c with
  | true => exact q1
  | false => exact tr_ret q1 fun _ _ => rfl
theorem qe_if (h : QT T X c f) (ha : QE T X a fe) (hb : QE T X b ge) : QE T X (.IfExp c a b pos) (eIf f fe ge) := fun pn xe W tk hp => impE (pe_ifExp (h pn xe W tk hp) (ha pn xe W tk hp) (hb pn xe W tk hp)) fun σ H Q q => by
  obtain ⟨ex, env, z⟩ := tr_bool rmE q
  refine ⟨ex, env, z.mono fun c H1 q1 => ?_⟩
  cases c with
  | true => exact q1
  | false => exact q1
end

/-! ### lists of arguments -/
def asNil : M (List AV) := M.ret []
def asCons (f : M AV) (g : M (List AV)) : M (List AV) := M.bind f fun a => M.bind g fun as => M.ret (a :: as)
def vals : List AV → Option (List D)
  | [] => some []
  | .v d :: r => (vals r).map (d :: ·)
  | .s _ :: _ => none
def eTup (g : M (List AV)) : M EV := M.bind g fun as => match vals as with
  | some ds => if ds.length ≤ 4000 then M.ret (.v (.tup ds)) else M.stuck
  | none => M.stuck
def eLst (g : M (List AV)) : M EV := M.bind g fun as => match vals as with
  | some ds => if ds.length ≤ 4000 then M.ret (.o (.lst ds)) else M.stuck
  | none => M.stuck
section
variable {K : PySem.W.Frag} {T : Tab} {ex : Addr → Prop} {σ : St} {H H' : Hp} {env : Sl} {W : WX}
theorem small4000 {n : Nat} (h : n ≤ 4000) : n ≤ sizeLine := by rw [sizeLine_eq]; omega
theorem vals_rep : ∀ {as : List AV} {ds : List D} {vs : List V}, Paired (fun a v => RepA K T ex σ env H v a) as vs → vals as = some ds → RepL K T (exO ex σ env) H ds vs
  | [], _, _, h, e => by cases h; cases e; exact .nil
  | .v d :: r, ds, _, h, e => by
    cases h with
    | cons h1 h2 =>
      unfold vals at e
      cases q : vals r with
      | none => rw [q] at e; cases e
      | some es => rw [q] at e; cases e; exact .cons h1 (vals_rep h2 q)
  | .s i :: r, ds, _, h, e => by cases e
theorem tr_tup {g : M (List AV)} {Q : VK} (h : tr K T (relE K T) (eTup g) W σ H Q) : tTup (tr K T (relAs K T) g W) σ H Q := by
  obtain ⟨ex, env, h⟩ := h
  refine ⟨ex, env, (trx_bind (relAs K T) rmE h).mono fun vs H1 ⟨as, env1, s1, ra, h1⟩ => ?_⟩
  cases q : vals as with
  | none => rw [q] at h1; obtain ⟨_, _, e, _⟩ := h1; cases e
  | some ds =>
    rw [q] at h1
    by_cases hl : ds.length ≤ 4000
    · dsimp only at h1
      rw [if_pos hl] at h1
      obtain ⟨g1, k⟩ := trx_ret h1
      have rl := vals_rep ra q
      refine ⟨by rw [← rl.length]; exact small4000 hl, fun p hp => ?_⟩
      have ext : Ext H1 (upd H1 p (.tup vs)) := fun b o e => by rw [upd_ne (ne_of_none e hp)]; exact e
      refine k _ _ (Step.ext g1 ext) ?_
      exact ⟨p, vs, rfl, g1.fresh hp, upd_same, rl.mono fun b o n e => ⟨n, ext b o e⟩⟩
    · dsimp only at h1
      rw [if_neg hl] at h1
      obtain ⟨_, _, e, _⟩ := h1; cases e
theorem rep_newL {ds : List D} {vs : List V} {ex : Addr → Prop} {p : Addr} (hp : H p = none) (rl : RepL K T ex H ds vs) : RepO K T (fun b => ex b ∨ b = p) (upd H p (.lst vs)) p (.lst ds) :=
  ⟨vs, upd_same, rl.mono fun b o n e => ⟨fun z => z.elim n fun z => ne_of_none e hp z, by rw [upd_ne (ne_of_none e hp)]; exact e⟩⟩
theorem ext_new {o : HO} {p : Addr} (hp : H p = none) : Ext H (upd H p o) := fun b o e => by rw [upd_ne (ne_of_none e hp)]; exact e
theorem tr_lst {g : M (List AV)} {Q : VK} (h : tr K T (relE K T) (eLst g) W σ H Q) : tLst (tr K T (relAs K T) g W) σ H Q := by
  obtain ⟨ex, env, h⟩ := h
  refine ⟨ex, env, (trx_bind (relAs K T) rmE h).mono fun vs H1 ⟨as, env1, s1, ra, h1⟩ => ?_⟩
  cases q : vals as with
  | none => rw [q] at h1; obtain ⟨_, _, e, _⟩ := h1; cases e
  | some ds =>
    rw [q] at h1
    by_cases hl : ds.length ≤ 4000
    · dsimp only at h1
      rw [if_pos hl] at h1
      obtain ⟨g1, k⟩ := trx_ret h1
      have rl := vals_rep ra q
      refine ⟨by rw [← rl.length]; exact small4000 hl, fun p hp => ?_⟩
      exact k _ _ (Step.ext g1 (ext_new hp)) ⟨p, rfl, hp, rep_newL hp rl, g1.more hp (ext_new hp) (by rw [upd_same]; exact fun z => nomatch z)⟩
    · dsimp only at h1
      rw [if_neg hl] at h1
      obtain ⟨_, _, e, _⟩ := h1; cases e
end
section
variable {T : Tab} {X : Cx} {pos : Pos} {e : Expr} {es : List Expr} {f : M AV} {g : M (List AV)}
theorem qas_nil : QAs T X [] asNil := fun pn xe W tk hp => impA pa_nil fun σ H Q q => tr_ret q fun _ _ => .nil
theorem qas_cons (h : QO T X e f) (k : QAs T X es g) (hs : starEach (e :: es) X.env = (false, eval e X.env) :: starEach es X.env := by rfl) : QAs T X (e :: es) (asCons f g) := fun pn xe W tk hp => impA (pa_cons (h pn xe W tk hp) (k pn xe W tk hp) hs) fun σ H Q q => by
  obtain ⟨ex, env, q⟩ := q
  refine ⟨ex, env, (trx_bind (relA X.K T) rmAs q).mono fun v H1 ⟨a, env1, s1, ra, h1⟩ => ⟨ex, env1, (trx_bind (relAs X.K T) rmAs h1).mono fun vs H2 ⟨as, env2, s2, rs, h2⟩ => ?_⟩⟩
  obtain ⟨g2, z⟩ := trx_ret h2
  exact z (v :: vs) H2 (Step.refl g2) (.cons (RepA.step ra s2) rs)
theorem qe_tup {x1} (h : QAs T X es g) : QE T X (.Tuple es x1 pos) (eTup g) := fun pn xe W tk hp => impE (pe_tup (h pn xe W tk hp)) fun σ H Q q => tr_tup q
theorem qe_lst (h : QAs T X es g) : QE T X (.List es pos) (eLst g) := fun pn xe W tk hp => impE (pe_lst (h pn xe W tk hp)) fun σ H Q q => tr_lst q
end
end Dt
end
section
set_option maxRecDepth 100000
set_option maxHeartbeats 4000000
/-! QD: calls of the text's own defs: what a slot owns is lent. -/
namespace Dt
variable {NG : Prop}
open PySem PySem.Spec
open L2 hiding passL ps_try_many HdsOk takes0 XE Takes CX takes_of passes_call PMk MkP ps_raise mk_of ps_try_as pmk_own
open L2N hiding St
open PyProof.Rows hiding St

def argS : Option Slot → Option Slot
  | some (.val d) => some (.val d)
  | some (.own c) => some (.own c)
  | _ => none
def argOf (env : Sl) : AV → Option Slot
  | .v d => some (.val d)
  | .s i => argS env[i]?
def argsOf (env : Sl) : List AV → Option Sl
  | [] => some []
  | a :: r => (argOf env a).bind fun s => (argsOf env r).map (s :: ·)
def sidx : List AV → List Nat
  | [] => []
  | .v _ :: r => sidx r
  | .s i :: r => i :: sidx r
def isOwn : Option Slot → Bool
  | some (.own _) => true
  | _ => false
def put1 (env : Sl) (i : Nat) (o : Slot) : Sl := if isOwn env[i]? = true then env.set i o else env
def back (env : Sl) : List AV → Sl → Sl
  | .s i :: r, o :: os => back (put1 env i o) r os
  | .v _ :: r, _ :: os => back env r os
  | _, _ => env
def callM (g : M EV) (as : List AV) : M EV := fun env =>
  if (sidx as).Nodup then (argsOf env as).bind fun sl => match g sl with
    | some (.ok ev outs) => some (.ok ev (back env as outs))
    | some (.exc x outs) => some (.exc x (back env as outs))
    | none => none
  else none
def eCall (g : M EV) (fs : M (List AV)) : M EV := M.bind fs fun as => callM g as

theorem put1_get (env : Sl) (i k : Nat) (o : Slot) : (put1 env i o)[k]? = if k = i ∧ isOwn env[i]? = true then some o else env[k]? := by
  unfold put1
  by_cases h : isOwn env[i]? = true
  · rw [if_pos h]
    have hi : i < env.length := by
      rcases Nat.lt_or_ge i env.length with q | q
      · exact q
      · rw [List.getElem?_eq_none q] at h; cases h
    by_cases e : k = i
    · subst e; rw [List.getElem?_set_self hi, if_pos ⟨rfl, h⟩]
    · rw [List.getElem?_set_ne (Ne.symm e), if_neg fun z => e z.1]
  · rw [if_neg h, if_neg fun z => h z.2]
theorem mem_sidx : ∀ {as : List AV} {j k : Nat}, as[j]? = some (.s k) → k ∈ sidx as
  | [], j, k, h => by simp at h
  | .v d :: r, 0, k, h => by simp at h
  | .v d :: r, j + 1, k, h => by simp at h; exact mem_sidx (as := r) h
  | .s i :: r, 0, k, h => by simp at h; subst h; simp [sidx]
  | .s i :: r, j + 1, k, h => by simp at h; exact List.mem_cons_of_mem _ (mem_sidx (as := r) h)
theorem back_get : ∀ {as : List AV} {env outs : Sl}, (sidx as).Nodup → outs.length = as.length →
    (∀ k : Nat, k ∉ sidx as → (back env as outs)[k]? = env[k]?) ∧ ∀ j k : Nat, as[j]? = some (AV.s k) → (back env as outs)[k]? = if isOwn env[k]? = true then outs[j]? else env[k]?
  | [], env, outs, _, _ => by
    refine ⟨fun k _ => ?_, fun j k h => by simp at h⟩
    cases outs <;> rfl
  | .v d :: r, env, [], _, hl => by simp at hl
  | .v d :: r, env, o :: os, hn, hl => by
    obtain ⟨h1, h2⟩ := back_get (as := r) (env := env) (outs := os) hn (by simpa using hl)
    refine ⟨fun k hk => h1 k hk, fun j k h => ?_⟩
    cases j with
    | zero => simp at h
    | succ j => simp at h; simpa [back] using h2 j k h
  | .s i :: r, env, [], _, hl => by simp at hl
  | .s i :: r, env, o :: os, hn, hl => by
    have hn' : i ∉ sidx r ∧ (sidx r).Nodup := by simpa [sidx] using hn
    obtain ⟨h1, h2⟩ := back_get (as := r) (env := put1 env i o) (outs := os) hn'.2 (by simpa using hl)
    refine ⟨fun k hk => ?_, fun j k h => ?_⟩
    · have hk' : k ≠ i ∧ k ∉ sidx r := by simpa [sidx] using hk
      show (back (put1 env i o) r os)[k]? = _
      rw [h1 k hk'.2, put1_get, if_neg fun z => hk'.1 z.1]
    · cases j with
      | zero =>
        simp at h; subst h
        show (back (put1 env i o) r os)[i]? = _
        rw [h1 i hn'.1, put1_get]
        by_cases q : isOwn env[i]? = true
        · rw [if_pos ⟨rfl, q⟩, if_pos q] <;> simp
        · rw [if_neg fun z => q z.2, if_neg q]
      | succ j =>
        simp at h
        have hki : k ≠ i := fun z => hn'.1 (z ▸ mem_sidx h)
        show (back (put1 env i o) r os)[k]? = _
        have pk : (put1 env i o)[k]? = env[k]? := by rw [put1_get, if_neg fun z => hki z.1]
        rw [h2 j k h, pk] <;> simp
theorem back_len : ∀ {as : List AV} {env outs : Sl}, (back env as outs).length = env.length
  | [], env, outs => by cases outs <;> rfl
  | .v d :: r, env, [] => rfl
  | .v d :: r, env, o :: os => back_len (as := r) (env := env) (outs := os)
  | .s i :: r, env, [] => rfl
  | .s i :: r, env, o :: os => by
    show (back (put1 env i o) r os).length = _
    rw [back_len (as := r)]
    unfold put1
    split
    · rw [List.length_set]
    · rfl
theorem args_get : ∀ {as : List AV} {env sl : Sl}, argsOf env as = some sl → sl.length = as.length ∧ ∀ (j : Nat) (a : AV), as[j]? = some a → ∃ s, sl[j]? = some s ∧ argOf env a = some s
  | [], env, sl, h => by cases h; exact ⟨rfl, fun j a e => by simp at e⟩
  | a :: r, env, sl, h => by
    obtain ⟨s, e1, h⟩ := opt_bind h
    cases q : argsOf env r with
    | none => rw [q] at h; cases h
    | some sr =>
      rw [q] at h
      cases h
      obtain ⟨hl, h2⟩ := args_get q
      refine ⟨by simp [hl], fun j b e => ?_⟩
      cases j with
      | zero => simp at e; subst e; exact ⟨s, by simp, e1⟩
      | succ j => simp at e; simpa using h2 j b e

section
variable {K : PySem.W.Frag} {T : Tab} {ex : Addr → Prop} {σ : St} {H H' : Hp} {env sl outs : Sl} {as : List AV} {vs : List V}
/-- what of the caller's is not lent -/
def exC (ex : Addr → Prop) (σ : St) (env : Sl) (vs : List V) (sl : Sl) : Addr → Prop := fun a => exO ex σ env a ∧ ¬ Owns (vs.map some) sl a
theorem paired_len {α β : Type} {F : α → β → Prop} : ∀ {l : List α} {m : List β}, Paired F l m → l.length = m.length
  | _, _, .nil => rfl
  | _, _, .cons _ t => by simp [paired_len t]
theorem vmap {v : Option V} {j : Nat} (h : (vs.map some)[j]? = some v) : ∃ u, v = some u ∧ vs[j]? = some u := by
  rw [List.getElem?_map] at h
  cases q : vs[j]? with
  | none => rw [q] at h; cases h
  | some u => rw [q] at h; cases h; exact ⟨u, rfl, rfl⟩
theorem vmap' {u : V} {j : Nat} (h : vs[j]? = some u) : (vs.map some)[j]? = some (some u) := by rw [List.getElem?_map, h]; rfl
/-- an argument that owns comes from a slot that does -/
theorem lent (hp : Paired (fun a v => RepA K T ex σ env H v a) as vs) (ha : argsOf env as = some sl) {j : Nat} {c : OC} (e : sl[j]? = some (.own c)) :
    ∃ i u, as[j]? = some (.s i) ∧ env[i]? = some (.own c) ∧ vs[j]? = some u ∧ σ[i]? = some (some u) := by
  obtain ⟨hl, hg⟩ := args_get ha
  have hj : j < as.length := by rw [← hl]; exact (List.getElem?_eq_some_iff.mp e).1
  obtain ⟨s, e1, e2⟩ := hg j _ (List.getElem?_eq_getElem hj)
  rw [e] at e1; cases e1
  obtain ⟨u, e3, r⟩ := paired_get hp (List.getElem?_eq_getElem hj)
  cases q : as[j] with
  | v d => rw [q] at e2; cases e2
  | s i =>
    rw [q] at e2 r
    refine ⟨i, u, by rw [List.getElem?_eq_getElem hj, q], ?_, e3, r⟩
    have e2 : argS env[i]? = some (.own c) := e2
    cases w : env[i]? with
    | none => rw [w] at e2; cases e2
    | some s => rw [w] at e2; cases s <;> cases e2; rfl
theorem lent_owns (hp : Paired (fun a v => RepA K T ex σ env H v a) as vs) (ha : argsOf env as = some sl) {a : Addr} (h : Owns (vs.map some) sl a) : Owns σ env a := by
  obtain ⟨j, c, e1, e2⟩ := h
  obtain ⟨i, u, _, e4, e5, e6⟩ := lent hp ha e1
  obtain ⟨u', eu, e7⟩ := vmap e2
  cases eu
  rw [e5] at e7; cases e7
  exact ⟨i, c, e4, e6⟩
theorem exC_exO (hp : Paired (fun a v => RepA K T ex σ env H v a) as vs) (ha : argsOf env as = some sl) (a : Addr) : exO (exC ex σ env vs sl) (vs.map some) sl a ↔ exO ex σ env a := by
  constructor
  · rintro (h | h)
    · exact h.1
    · exact .inr (lent_owns hp ha h)
  · intro h
    by_cases q : Owns (vs.map some) sl a
    · exact .inr q
    · exact .inl ⟨h, q⟩
theorem exC_eq (hp : Paired (fun a v => RepA K T ex σ env H v a) as vs) (ha : argsOf env as = some sl) : exO (exC ex σ env vs sl) (vs.map some) sl = exO ex σ env := funext fun a => propext (exC_exO hp ha a)
theorem call_good (g : Good K T ex σ H env) (hn : (sidx as).Nodup) (hp : Paired (fun a v => RepA K T ex σ env H v a) as vs) (ha : argsOf env as = some sl) : Good K T (exC ex σ env vs sl) (vs.map some) H sl := by
  obtain ⟨hl, hg⟩ := args_get ha
  have hlv := paired_len hp
  refine ⟨by rw [List.length_map, hl, hlv], fun j d e => ?_, fun j c e => ?_, fun i j a c c' e1 e2 e3 e4 => ?_, fun a h => g.dm a h.1, g.tb⟩
  · rw [exC_eq hp ha]
    have hj : j < as.length := by rw [← hl]; exact (List.getElem?_eq_some_iff.mp e).1
    obtain ⟨s, e1, e2⟩ := hg j _ (List.getElem?_eq_getElem hj)
    rw [e] at e1; cases e1
    obtain ⟨u, e3, r⟩ := paired_get hp (List.getElem?_eq_getElem hj)
    refine ⟨u, vmap' e3, ?_⟩
    cases q : as[j] with
    | v d' => rw [q] at e2 r; cases e2; exact r
    | s i =>
      rw [q] at e2 r
      have e2 : argS env[i]? = some (.val d) := e2
      have r : σ[i]? = some (some u) := r
      cases w : env[i]? with
      | none => rw [w] at e2; cases e2
      | some s =>
        rw [w] at e2
        cases s with
        | emp => cases e2
        | own c => cases e2
        | val d' =>
          cases e2
          obtain ⟨u', e5, r'⟩ := g.val i d w
          rw [r] at e5; cases e5
          exact r'
  · rw [exC_eq hp ha]
    obtain ⟨i, u, _, e4, e5, e6⟩ := lent hp ha e
    obtain ⟨a, e7, n, r⟩ := g.own i c e4
    rw [e6] at e7; cases e7
    exact ⟨a, vmap' e5, fun z => z.2 ⟨j, c, e, vmap' e5⟩, r⟩
  · obtain ⟨i1, u1, a1, b1, c1, d1⟩ := lent hp ha e1
    obtain ⟨i2, u2, a2, b2, c2, d2⟩ := lent hp ha e2
    obtain ⟨w1, x1, y1⟩ := vmap e3
    obtain ⟨w2, x2, y2⟩ := vmap e4
    cases x1; cases x2
    rw [c1] at y1; cases y1
    rw [c2] at y2; cases y2
    have := g.inj i1 i2 a c c' b1 b2 d1 d2
    subst this
    -- equal slots stand at one place
    have uniq : ∀ {as : List AV} {i j k : Nat}, (sidx as).Nodup → as[i]? = some (.s k) → as[j]? = some (.s k) → i = j := by
      intro as
      induction as with
      | nil => intro i j k _ h; simp at h
      | cons a r ih =>
        intro i j k hn h1 h2
        cases a with
        | v d =>
          cases i with
          | zero => simp at h1
          | succ i => cases j with
            | zero => simp at h2
            | succ j => simp at h1 h2; rw [ih (i := i) (j := j) hn h1 h2]
        | s m =>
          have hn' : m ∉ sidx r ∧ (sidx r).Nodup := by simpa [sidx] using hn
          cases i with
          | zero => cases j with
            | zero => rfl
            | succ j => simp at h1 h2; subst h1; exact absurd (mem_sidx h2) hn'.1
          | succ i => cases j with
            | zero => simp at h1 h2; subst h2; exact absurd (mem_sidx h1) hn'.1
            | succ j => simp at h1 h2; rw [ih (i := i) (j := j) hn'.2 h1 h2]
    exact uniq hn a1 a2
/-- behind the call -/
theorem call_step (g : Good K T ex σ H env) (hn : (sidx as).Nodup) (hp : Paired (fun a v => RepA K T ex σ env H v a) as vs) (ha : argsOf env as = some sl)
    (s : Step K T (exC ex σ env vs sl) (vs.map some) H sl H' outs) : Step K T ex σ H env H' (back env as outs) ∧ (∀ a, exO ex σ (back env as outs) a → exO (exC ex σ env vs sl) (vs.map some) outs a) ∧
      ∀ x, H x = none → Good K T (fun b => exC ex σ env vs sl b ∨ b = x) (vs.map some) H' outs → Good K T (fun b => ex b ∨ b = x) σ H' (back env as outs) := by
  obtain ⟨hl, hg⟩ := args_get ha
  have hlv := paired_len hp
  have hlo : outs.length = as.length := by rw [s.gd.len, List.length_map, hlv]
  obtain ⟨b1, b2⟩ := back_get (env := env) hn hlo
  have lo : ∀ {a}, Owns (vs.map some) sl a → Owns σ env a := fun h => lent_owns hp ha h
  -- each slot behind: as it was, or one that was lent
  have cs : ∀ k : Nat, ((back env as outs)[k]? = env[k]? ∧ (∀ (j : Nat) (c : OC), as[j]? = some (AV.s k) → env[k]? ≠ some (Slot.own c))) ∨ ∃ (j : Nat) (c : OC), as[j]? = some (AV.s k) ∧ env[k]? = some (Slot.own c) ∧ (back env as outs)[k]? = outs[j]? := fun k => by
    by_cases hk : ∃ j : Nat, as[j]? = some (.s k)
    · obtain ⟨j, hj⟩ := hk
      have q := b2 j k hj
      by_cases o : isOwn env[k]? = true
      · rw [if_pos o] at q
        cases w : env[k]? with
        | none => rw [w] at o; cases o
        | some sl' => rw [w] at o; cases sl' <;> first | exact .inr ⟨j, _, hj, rfl, q⟩ | cases o
      · rw [if_neg o] at q
        exact .inl ⟨q, fun j c _ e => o (by rw [e]; rfl)⟩
    · refine .inl ⟨b1 k fun hm => ?_, fun j c e => absurd ⟨j, e⟩ hk⟩
      refine hk ?_
      clear b1 b2 hlo hlv hl hg lo s ha hp hn
      induction as with
      | nil => simp [sidx] at hm
      | cons a r ih =>
        cases a with
        | v d => obtain ⟨j, e⟩ := ih (fun ⟨j, e⟩ => hk ⟨j + 1, by simpa using e⟩) hm; exact ⟨j + 1, by simpa using e⟩
        | s i =>
          rcases List.mem_cons.mp hm with e | e
          · subst e; exact ⟨0, by simp⟩
          · obtain ⟨j, e⟩ := ih (fun ⟨j, e⟩ => hk ⟨j + 1, by simpa using e⟩) e; exact ⟨j + 1, by simpa using e⟩
  have vj : ∀ {j k : Nat} {u : V}, as[j]? = some (AV.s k) → σ[k]? = some (some u) → vs[j]? = some u := fun {j k u} e1 e2 => by
    obtain ⟨w, e3, r⟩ := paired_get hp e1
    have r : σ[k]? = some (some w) := r
    rw [e2] at r; cases r
    exact e3
  -- what is owned behind was owned ahead
  have own2 : ∀ (k : Nat) (c : OC), (back env as outs)[k]? = some (Slot.own c) → ∃ c', env[k]? = some (Slot.own c') := fun k c e => by
    rcases cs k with ⟨q, _⟩ | ⟨j, c', _, q, _⟩
    · exact ⟨c, by rw [← q]; exact e⟩
    · exact ⟨c', q⟩
  have ow : ∀ {a}, Owns σ (back env as outs) a → Owns σ env a := fun {a} ⟨k, c, e1, e2⟩ => let ⟨c', e3⟩ := own2 k c e1; ⟨k, c', e3, e2⟩
  have exb : ∀ a, exO ex σ (back env as outs) a → exO (exC ex σ env vs sl) (vs.map some) outs a := fun a h => by
    rcases h with h | ⟨k, c, e1, e2⟩
    · refine .inl ⟨.inl h, fun q => ?_⟩
      exact (g.owned (lo q)).2 h
    · rcases cs k with ⟨q, nq⟩ | ⟨j, c', e3, e4, q⟩
      · rw [q] at e1
        refine .inl ⟨.inr ⟨k, c, e1, e2⟩, fun ⟨j, c', e5, e6⟩ => ?_⟩
        obtain ⟨i, u, e7, e8, e9, e10⟩ := lent hp ha e5
        obtain ⟨u', x1, x2⟩ := vmap e6
        cases x1
        rw [e9] at x2; cases x2
        have := g.inj i k a c' c e8 e1 e10 e2
        subst this
        exact nq j c' e7 e8
      · rw [q] at e1
        exact .inr ⟨j, c, e1, vmap' (vj e3 e2)⟩
  -- the slots behind, P: what besides is not to be met
  have gen : ∀ P : Addr → Prop, (∀ x, P x → H x = none) → (∀ x, P x → H' x ≠ none) → Good K T (fun b => exC ex σ env vs sl b ∨ P b) (vs.map some) H' outs → Good K T (fun b => ex b ∨ P b) σ H' (back env as outs) := fun P hP hP' gd => by
    have exP : ∀ a, exO (fun b => ex b ∨ P b) σ (back env as outs) a → exO ex σ env a ∨ P a := fun a h => by
      rcases h with (h | h) | h
      · exact .inl (.inl h)
      · exact .inr h
      · exact .inl (.inr (ow h))
    have mo : ∀ a o, ¬ exO ex σ env a → H a = some o → ¬ exO (fun b => ex b ∨ P b) σ (back env as outs) a ∧ (NT o → H' a = some o) := fun a o n e =>
      ⟨fun z => (exP a z).elim n fun z => (by rw [hP a z] at e; exact nomatch e), s.fr a o e fun z => n (.inr (lo z))⟩
    have mo2 : ∀ a o, ¬ exO (fun b => exC ex σ env vs sl b ∨ P b) (vs.map some) outs a → H' a = some o → ¬ exO (fun b => ex b ∨ P b) σ (back env as outs) a ∧ H' a = some o := fun a o n e => by
      refine ⟨fun z => n ?_, e⟩
      rcases z with (z | z) | z
      · exact (exb a (.inl z)).imp .inl id
      · exact .inl (.inr z)
      · exact (exb a (.inr z)).imp .inl id
    refine ⟨by rw [back_len]; exact g.len, fun k d e => ?_, fun k c e => ?_, fun i j a c c' e1 e2 e3 e4 => ?_, fun a h => ?_, gd.tb⟩
    · rcases cs k with ⟨q, nq⟩ | ⟨j, c', e3, e4, q⟩
      · rw [q] at e
        obtain ⟨v, e1, r⟩ := g.val k d e
        exact ⟨v, e1, r.monoT mo⟩
      · rw [q] at e
        obtain ⟨v, e1, r⟩ := gd.val j d e
        obtain ⟨u, x1, x2⟩ := vmap e1
        cases x1
        obtain ⟨a, e5, _, _⟩ := g.own k c' e4
        have := vj e3 e5
        rw [x2] at this; cases this
        exact ⟨_, e5, r.mono mo2⟩
    · rcases cs k with ⟨q, nq⟩ | ⟨j, c', e3, e4, q⟩
      · rw [q] at e
        obtain ⟨a, e1, n, r⟩ := g.own k c e
        refine ⟨a, e1, fun z => z.elim n fun z => r.there (hP a z), r.monoT ?_ mo⟩
        cases w : H a with
        | none => exact absurd w r.there
        | some o =>
          refine s.fr a o w (fun ⟨j, c', e5, e6⟩ => ?_) (r.nt w)
          obtain ⟨i, u, e7, e8, e9, e10⟩ := lent hp ha e5
          obtain ⟨u', x1, x2⟩ := vmap e6
          cases x1
          rw [e9] at x2; cases x2
          have := g.inj i k a c' c e8 e e10 e1
          subst this
          exact nq j c' e7 e8
      · rw [q] at e
        obtain ⟨a, e1, n, r⟩ := gd.own j c e
        obtain ⟨u, x1, x2⟩ := vmap e1
        cases x1
        obtain ⟨a', e5, n', r'⟩ := g.own k c' e4
        have := vj e3 e5
        rw [x2] at this; cases this
        exact ⟨a, e5, fun z => z.elim n' fun z => n (.inr z), r.mono rfl mo2⟩
    · obtain ⟨c1, f1⟩ := own2 i c e1
      obtain ⟨c2, f2⟩ := own2 j c' e2
      exact g.inj i j a c1 c2 f1 f2 e3 e4
    · rcases h with h | h
      · exact s.dm a (g.dom a h)
      · exact hP' a h
  have e0 : ∀ ex : Addr → Prop, (fun b => ex b ∨ (fun _ : Addr => False) b) = ex := fun ex => funext fun b => propext ⟨fun h => h.elim id False.elim, .inl⟩
  have g1 : Good K T ex σ H' (back env as outs) := by
    have q := gen (fun _ => False) (fun _ z => z.elim) (fun _ z => z.elim) (by rw [e0]; exact s.gd)
    rw [e0] at q
    exact q
  exact ⟨⟨fun b o e n => s.fr b o e fun z => n (lo z), s.dm, own2, g1⟩, exb, fun x hx gx => gen (fun b => b = x) (fun y e => by subst e; exact hx) (fun y e => by subst e; exact gx.dom y (.inr rfl)) gx⟩
end

/-! ### promises of defs -/
def spD (K : PySem.W.Frag) (T : Tab) (g : M EV) : Sp := fun vs H Q E => tr K T (relE K T) g (fun c d _ H' => E c d H') (vs.map some) H Q
section
variable {K : PySem.W.Frag} {T : Tab} {ex : Addr → Prop} {σ : St} {H H' : Hp} {env : Sl} {W : WX} {Q : VK}
theorem trx_call {g : M EV} {as : List AV} {vs : List V} (h : trx K T (relE K T) ex (callM g as) env W σ H Q) (hp : Paired (fun a v => RepA K T ex σ env H v a) as vs) : spD K T g vs H Q fun c d H' => W c d σ H' := by
  obtain ⟨gd, r, e, o⟩ := h
  unfold callM at e
  by_cases hn : (sidx as).Nodup
  · rw [if_pos hn] at e
    obtain ⟨sl, ha, e⟩ := opt_bind e
    refine ⟨exC ex σ env vs sl, sl, call_good gd hn hp ha, ?_⟩
    cases q : g sl with
    | none => rw [q] at e; cases e
    | some rg =>
      rw [q] at e
      refine ⟨rg, rfl, ?_⟩
      cases rg with
      | ok ev outs =>
        cases e
        intro v H' s rv
        obtain ⟨s', exb, gm⟩ := call_step gd hn hp ha s
        have mo2 : ∀ a o, ¬ exO (exC ex σ env vs sl) (vs.map some) outs a → H' a = some o → ¬ exO ex σ (back env as outs) a ∧ H' a = some o := fun a o n e => ⟨fun z => n (exb a z), e⟩
        refine o v H' s' ?_
        cases ev with
        | v d => exact Rep.mono mo2 rv
        | o c =>
          obtain ⟨a, e1, n, r, gx⟩ := rv
          exact ⟨a, e1, n, r.mono rfl fun b o nb e => ⟨fun z => nb (z.imp (exb b) id), e⟩, gm a n gx⟩
      | exc x outs =>
        cases e
        intro cls dd H' s rx
        obtain ⟨s', exb, gm⟩ := call_step gd hn hp ha s
        refine o cls dd H' s' ⟨rx.1, rx.2.imp id ?_⟩
        rintro ⟨a, ws, e1, e2, l, r⟩
        exact ⟨a, ws, e1, e2, l, r.mono fun a o n e => ⟨fun z => n (exb a z), e⟩⟩
  · rw [if_neg hn] at e; cases e
theorem tr_call {g : M EV} {fs : M (List AV)} (h : tr K T (relE K T) (eCall g fs) W σ H Q) : tr K T (relAs K T) fs W σ H fun vs H1 => spD K T g vs H1 Q fun c d H' => W c d σ H' := by
  obtain ⟨ex, env, h⟩ := h
  exact ⟨ex, env, (trx_bind (relAs K T) rmE h).mono fun vs H1 ⟨as, env1, s1, ra, h1⟩ => trx_call h1 ra⟩
end
/-- room for calls, and no display under way -/
structure RG (NG : Prop) (k : Nat) (A : Around) : Prop where
  r : Room k A
  g : A.guards = some [] ∨ NG
theorem RG.mono {j k : Nat} {A : Around} (h : RG NG k A) (l : j ≤ k) : RG NG j A := ⟨h.r.mono l, h.g⟩
theorem RG.deeper {k : Nat} {A : Around} (h : RG NG (k + 1) A) (env : Env) : RG NG k (A.deeper env) := ⟨h.r.deeper env, h.g⟩
theorem RG.in1 {k : Nat} {A : Around} (h : RG NG (k + 1) A) : RG NG k A.in1 := ⟨h.r.in1, h.g⟩
theorem RG.make {k : Nat} {A : Around} (h : RG NG (k + 1) A) (C : Addr) (us : List Value) : RG NG k (A.under (.builtin "type.__call__" ⟨.ref C :: us, []⟩)) := ⟨h.r.make C us [], h.g.imp (fun hg => by
  have e : (Code.builtin "type.__call__" ⟨.ref C :: us, []⟩).isGuard = false := by
    show guardIds.contains "type.__call__" = false
    decide +kernel
  simp [Around.under, Code.guards, e, pushGuards, hg]) id⟩
/-- a promise by positional values -/
def FnG (NG : Prop) (P : Program) (w : World) (K : PySem.W.Frag) (mg : Str → Option Value) (base : Heap) (k : Nat) (f : Addr) (sp : Sp) : Prop :=
  ∀ (A : Around) (outer : List Env) (s : Shared) (H : Hp) (us : List Value) (vs : List V) (Q : VK) (E : XK), RG NG k A → Env0 P w K mg base A outer s H → Vals vs us → sp vs H Q E →
    codeAny (model P w) A (.call (.ref f) ⟨us, []⟩) (CR (L2N.CX P w) outer P w H s Q E) s
theorem FnG.mono {P : Program} {w : World} {K : PySem.W.Frag} {mg : Str → Option Value} {base : Heap} {j k : Nat} {f : Addr} {sp : Sp} (F : FnG NG P w K mg base j f sp) (h : j ≤ k) : FnG NG P w K mg base k f sp := fun A outer s H us vs Q E hr => F A outer s H us vs Q E (hr.mono h)
theorem FnG.imp {P : Program} {w : World} {K : PySem.W.Frag} {mg : Str → Option Value} {base : Heap} {k : Nat} {f : Addr} {sp sp' : Sp} (F : FnG NG P w K mg base k f sp) (h : ∀ vs H Q E, sp' vs H Q E → sp vs H Q E) : FnG NG P w K mg base k f sp' := fun A outer s H us vs Q E hr e0 r hs => F A outer s H us vs Q E hr e0 r (h _ _ _ _ hs)
/-- a def whose promise is g -/
def FnQ (NG : Prop) (T : Tab) (X : Cx) (k : Nat) (f : Addr) (g : M EV) : Prop := FnG NG X.prog X.w X.K X.mg X.base k f (spD X.K T g)
section
variable {X : Cx} {pins : List (Addr × Obj)} {σ : St} {H : Hp} {s : Shared} {W : WX} {k : Nat} {f C : Addr} {sp : Sp} {Q : VK} {us : List Value} {vs : List V} {x : Str} {p pos apos : Pos} {e : Expr} {es : List Expr} {t : TA}
theorem run_at (F : FnG NG X.prog X.w X.K X.mg X.base k f sp) (hr : RG NG k X.A) (tk : Takes X W) (I : Inv X pins σ H s) (r : Vals vs us) (h : sp vs H Q fun c d H' => W c d σ H') :
    codeAny (model X.prog X.w) X.A (.call (.ref f) ⟨us, []⟩) (fun r s' => match r with | .ok (.ret v) => EP X pins σ Q v s' | .ok _ => False | .error e => X.xe e s') s := by
  refine codeAny_mono (F X.A X.stack s H us vs Q _ hr I.env0 r h) fun r s' hq => ?_
  cases r with
  | error e => exact tk e s' (XE.of_call I (fun _ _ _ h => h) hq)
  | ok fl =>
    cases fl with
    | ret u => exact I.after hq
    | next => exact False.elim hq
    | brk => exact False.elim hq
    | cont => exact False.elim hq
theorem pe_callQ (F : FnG NG X.prog X.w X.K X.mg X.base k f sp) (hr : RG NG k X.A) (tk : Takes X W) (hg : Gl X x) (hm : X.mg x = some (.ref f)) (hk : PySem.W.keepIn X.K (.ref f) = true) (ha : PA X (e :: es) t)
    (hdb : (x == ("__debug__" : Str)) = false := by decide) (he : starEach (e :: es) X.env = (false, eval e X.env) :: starEach es X.env := by rfl) (hpl : (backTo pos (starEach es X.env)).any (·.1) = false := by rfl) :
    PE X (.Call (.Name x p) (e :: es) [] pos) (fun σ H Q => t σ H fun vs H1 => sp vs H1 Q fun c d H' => W c d σ H') := by
  refine ⟨fun pins s σ H Q I h => ?_⟩
  refine wpAny_Call_Name_kw (ld_glob I hg hm ?_ hdb)
  refine PySem.W.callWith_K (h₀ := X.base) I.ok.mod.kin hk (thn (ha.run pos pins s σ H _ I h) fun us s1 ⟨vs, H1, I1, r, q⟩ => ⟨I1.kIn, ?_⟩) he hpl
  exact wpAny_call (run_at F hr tk I1 r q)
end
section
variable {T : Tab} {X : Cx} {k : Nat} {f : Addr} {g : M EV} {x : Str} {p pos : Pos} {e : Expr} {es : List Expr} {fs : M (List AV)}
theorem qe_call (F : FnQ NG T X k f g) (hr : RG NG k X.A) (hg : Gl X x) (hm : X.mg x = some (.ref f)) (hk : PySem.W.keepIn X.K (.ref f) = true) (ha : QAs T X (e :: es) fs) (hdb : (x == ("__debug__" : Str)) = false := by decide)
    (he : starEach (e :: es) X.env = (false, eval e X.env) :: starEach es X.env := by rfl) (hpl : (backTo pos (starEach es X.env)).any (·.1) = false := by rfl) : QE T X (.Call (.Name x p) (e :: es) [] pos) (eCall g fs) :=
  fun pn xe W tk hp => impE (pe_callQ (X := X.tr pn xe) F hr tk hg hm hk (ha pn xe W tk hp) hdb he hpl) fun σ H Q q => tr_call q
end
end Dt
end
section
set_option maxRecDepth 100000
set_option maxHeartbeats 4000000
/-! QF: statements, loops, try, the promise of a def. -/
namespace Dt
variable {NG : Prop}
open PySem PySem.Spec
open L2 hiding passL ps_try_many HdsOk takes0 XE Takes CX takes_of passes_call PMk MkP ps_raise mk_of ps_try_as pmk_own
open L2N hiding St
open PyProof.Rows hiding St

inductive SR where
  | nx (e : Sl) | bk (e : Sl) | ct (e : Sl) | rt (v : EV) (e : Sl) | exc (x : ExD) (e : Sl)
abbrev S := Sl → Option SR
section
variable (K : PySem.W.Frag) (T : Tab) (np : Nat → Bool)
def OutS (ex : Addr → Prop) (env : Sl) (W : WX) (σ : St) (H : Hp) (D : Ends) : SR → Prop
  | .nx env' => ∀ σ' H', SStep K T np ex σ H env σ' H' env' → D.nx σ' H'
  | .bk env' => ∀ σ' H', SStep K T np ex σ H env σ' H' env' → D.bk σ' H'
  | .ct env' => ∀ σ' H', SStep K T np ex σ H env σ' H' env' → D.ct σ' H'
  | .rt ev env' => ∀ v σ' H', SStep K T np ex σ H env σ' H' env' → RepR K T np ex σ env H σ' env' H' v ev → D.rt v H'
  | .exc x env' => ∀ cls dd σ' H', SStep K T np ex σ H env σ' H' env' → RepX K T (exO ex σ' env') H' cls dd x → W cls dd σ' H'
def tsx (ex : Addr → Prop) (f : S) (env : Sl) (W : WX) (σ : St) (H : Hp) (D : Ends) : Prop := Good K T ex σ H env ∧ ∃ r, f env = some r ∧ OutS K T np ex env W σ H D r
def trS (f : S) (W : WX) : TS := fun D σ H => ∃ ex env, tsx K T np ex f env W σ H D
end
section
variable {K : PySem.W.Frag} {T : Tab} {np : Nat → Bool} {ex : Addr → Prop} {env env1 : Sl} {W : WX} {σ σ1 : St} {H H1 : Hp} {D : Ends}
theorem OutS.back {r : SR} (s : SStep K T np ex σ H env σ1 H1 env1) (o : OutS K T np ex env W σ H D r) : OutS K T np ex env1 W σ1 H1 D r := by
  cases r with
  | nx e => exact fun σ' H' q => o σ' H' (s.trans q)
  | bk e => exact fun σ' H' q => o σ' H' (s.trans q)
  | ct e => exact fun σ' H' q => o σ' H' (s.trans q)
  | rt v e => exact fun v σ' H' q r => o v σ' H' (s.trans q) (RepR.trans s r)
  | exc x e => exact fun c d σ' H' q r => o c d σ' H' (s.trans q) r
theorem RepE.r {v : V} {ev : EV} {env' : Sl} {H' : Hp} (g : Good K T ex σ H env) (s : Step K T ex σ H env H' env') (r : RepE K T ex σ env' H H' v ev) : RepR K T np ex σ env H σ env' H' v ev := by
  cases ev with
  | v d => exact r
  | o c =>
    obtain ⟨a, e, n, h, gx⟩ := r
    exact ⟨a, e, fun q => g.dom a q n, fun q => g.fresh n (.inr (s.owns q)), .inr n, h, gx⟩
end
def sE {α : Type} (f : M α) (k : α → S) : S := fun env => match f env with
  | some (.ok a e) => k a e
  | some (.exc x e) => some (.exc x e)
  | none => none
section
variable {K : PySem.W.Frag} {T : Tab} {np : Nat → Bool} {ex : Addr → Prop} {env env1 : Sl} {W : WX} {σ σ1 : St} {H H1 : Hp} {D : Ends}
theorem trS_expr {α γ : Type} {f : M α} {k : α → S} (h : trS K T np (sE f k) W D σ H) (rel : Rl γ α) : tr K T rel f W σ H fun v H1 => ∃ ex env H0 env1 a, Good K T ex σ H0 env ∧ Step K T ex σ H0 env H1 env1 ∧ rel ex σ env1 H0 H1 v a ∧ tsx K T np ex (k a) env1 W σ H1 D ∧
    ∃ r, k a env1 = some r ∧ OutS K T np ex env W σ H0 D r := by
  obtain ⟨ex, env, g, r, e, o⟩ := h
  refine ⟨ex, env, g, ?_⟩
  unfold sE at e
  cases q : f env with
  | none => rw [q] at e; cases e
  | some ra =>
    rw [q] at e
    refine ⟨ra, rfl, ?_⟩
    cases ra with
    | ok a e1 => exact fun v H' s hr => ⟨ex, env, H, e1, a, g, s, hr, ⟨s.gd, r, e, o.back s.s⟩, r, e, o⟩
    | exc x e1 => cases e; exact fun c d H' s rx => o c d σ H' s.s rx
end

/-! ### judgements -/
section
variable (T : Tab) (X : Cx) (np : Nat → Bool)
def QS (st : Stmt) (f : S) : Prop := ∀ pn xe W, Takes (X.tr pn xe) W → PassesOwn (model X.prog X.w) X.A X.env xe → PS (X.tr pn xe) st (trS X.K T np f W)
def QSs (st : List Stmt) (f : S) : Prop := ∀ pn xe W, Takes (X.tr pn xe) W → PassesOwn (model X.prog X.w) X.A X.env xe → PSs (X.tr pn xe) st (trS X.K T np f W)
end
def sSeq (f g : S) : S := fun env => match f env with
  | some (.nx e) => g e
  | r => r
def sNil : S := fun env => some (.nx env)
def sExpr (f : M EV) : S := sE f fun _ e => some (.nx e)
def sRet (f : M EV) : S := sE f fun v e => some (.rt v e)
def sIf (c : M Bool) (f g : S) : S := sE c fun b => if b = true then f else g
def slotOf : EV → Slot
  | .v d => .val d
  | .o c => .own c
def sSet (i : Nat) (f : M EV) : S := sE f fun v e => some (.nx (e.set i (slotOf v)))
/-- return x: what a local owns is given away -/
def sRetV (np : Nat → Bool) (i : Nat) : S := fun env => match env[i]? with
  | some (.val d) => some (.rt (.v d) env)
  | some (.own c) => if np i = false then some (.rt (.o c) (env.set i .emp)) else match frzC c with
    | some d => some (.rt (.v d) (env.set i (.val d)))
    | none => none
  | _ => none
section
variable {K : PySem.W.Frag} {T : Tab} {np : Nat → Bool} {ex : Addr → Prop} {env env0 : Sl} {W : WX} {σ σ1 : St} {H H0 : Hp} {D : Ends}
theorem set_get {α : Type} {l : List α} {i j : Nat} {x y : α} (h : (l.set i x)[j]? = some y) : (j = i ∧ y = x ∧ i < l.length) ∨ (j ≠ i ∧ l[j]? = some y) := by
  by_cases e : j = i
  · subst e
    by_cases hl : j < l.length
    · rw [List.getElem?_set_self hl] at h; exact .inl ⟨rfl, (Option.some.inj h).symm, hl⟩
    · rw [List.getElem?_eq_none (by simpa using hl)] at h; cases h
  · rw [List.getElem?_set_ne (Ne.symm e)] at h; exact .inr ⟨e, h⟩
theorem Good.store {v : V} {ev : EV} {i : Nat} (hi : np i = false) (g0 : Good K T ex σ H0 env0) (s : Step K T ex σ H0 env0 H env) (r : RepE K T ex σ env H0 H v ev) : SStep K T np ex σ H0 env0 (σ.set i (some v)) H (env.set i (slotOf ev)) := by
  have g := s.gd
  by_cases hl : i < env.length
  case neg =>
    have h1 : env.set i (slotOf ev) = env := List.set_eq_of_length_le (by omega)
    have h2 : σ.set i (some v) = σ := List.set_eq_of_length_le (by rw [← g.len]; omega)
    rw [h1, h2]
    exact s.s
  have hσ : i < σ.length := by rw [← g.len]; exact hl
  have σi : (σ.set i (some v))[i]? = some (some v) := List.getElem?_set_self hσ
  have σj : ∀ j, j ≠ i → (σ.set i (some v))[j]? = σ[j]? := fun j h => List.getElem?_set_ne (Ne.symm h)
  have par : ∀ j, np j = true → (σ.set i (some v))[j]? = σ[j]? := fun j h => σj j (fun z => by rw [z, hi] at h; cases h)
  have ln : (σ.set i (some v)).length = σ.length := List.length_set
  have subp : ∀ (j : Nat) (c : OC), np j = true → (env.set i (slotOf ev))[j]? = some (.own c) → ∃ c', env0[j]? = some (.own c') := fun j c hj e => by
    rcases set_get e with ⟨h1, _, _⟩ | ⟨_, h⟩
    · rw [h1, hi] at hj; cases hj
    · exact s.sb j c h
  cases ev with
  | v d =>
    have ow : ∀ {a}, Owns (σ.set i (some v)) (env.set i (slotOf (.v d))) a → Owns σ env a := fun ⟨j, c, e1, e2⟩ => by
      rcases set_get e1 with ⟨_, h, _⟩ | ⟨h1, h2⟩
      · cases h
      · rw [σj j h1] at e2; exact ⟨j, c, h2, e2⟩
    have mo : ∀ a o, ¬ exO ex σ env a → H a = some o → ¬ exO ex (σ.set i (some v)) (env.set i (slotOf (.v d))) a ∧ H a = some o := fun a o n e => ⟨fun z => n (z.imp id ow), e⟩
    refine ⟨s.fr, s.dm, subp, fun j c a hj e e2 => ?_, par, ln, ⟨by rw [List.length_set, List.length_set]; exact g.len, fun j d' e => ?_, fun j c e => ?_, fun j k a c c' e1 e2 e3 e4 => ?_, g.dom, g.tb⟩⟩
    · rcases set_get e with ⟨_, h, _⟩ | ⟨h1, h2⟩
      · cases h
      · obtain ⟨c', e3⟩ := s.sb j c h2
        rw [σj j h1] at e2
        exact .inl ⟨j, c', hj, e3, e2⟩
    · rcases set_get e with ⟨h1, h, _⟩ | ⟨h1, h2⟩
      · cases h; subst h1; exact ⟨v, σi, Rep.mono mo r⟩
      · obtain ⟨u, e1, q⟩ := g.val j d' h2
        exact ⟨u, by rw [σj j h1]; exact e1, q.mono mo⟩
    · rcases set_get e with ⟨_, h, _⟩ | ⟨h1, h2⟩
      · cases h
      · obtain ⟨a, e1, n, q⟩ := g.own j c h2
        exact ⟨a, by rw [σj j h1]; exact e1, n, q.mono rfl mo⟩
    · rcases set_get e1 with ⟨_, h, _⟩ | ⟨h1, h2⟩
      · cases h
      · rcases set_get e2 with ⟨_, h, _⟩ | ⟨h3, h4⟩
        · cases h
        · rw [σj j h1] at e3
          rw [σj k h3] at e4
          exact g.inj j k a c c' h2 h4 e3 e4
  | o c0 =>
    obtain ⟨x, ev, nx, ro, gx⟩ := r
    subst ev
    have nox : ¬ exO ex σ env x := fun z => g0.fresh nx (s.exO z)
    have ow : ∀ {a}, Owns (σ.set i (some (.ref x))) (env.set i (slotOf (.o c0))) a → Owns σ env a ∨ a = x := fun ⟨j, c, e1, e2⟩ => by
      rcases set_get e1 with ⟨h1, _, _⟩ | ⟨h1, h2⟩
      · subst h1; rw [σi] at e2; cases e2; exact .inr rfl
      · rw [σj j h1] at e2; exact .inl ⟨j, c, h2, e2⟩
    have mo : ∀ a o, ¬ exO (fun b => ex b ∨ b = x) σ env a → H a = some o → ¬ exO ex (σ.set i (some (.ref x))) (env.set i (slotOf (.o c0))) a ∧ H a = some o := fun a o n e => ⟨fun z => n (by
      rcases z with z | z
      · exact .inl (.inl z)
      · rcases ow z with z | z
        · exact .inr z
        · exact .inl (.inr z)), e⟩
    have mo2 : ∀ a o, ¬ (exO ex σ env a ∨ a = x) → H a = some o → ¬ exO ex (σ.set i (some (.ref x))) (env.set i (slotOf (.o c0))) a ∧ H a = some o := fun a o n e => ⟨fun z => n (by
      rcases z with z | z
      · exact .inl (.inl z)
      · exact (ow z).imp .inr id), e⟩
    refine ⟨s.fr, s.dm, subp, fun j c a hj e e2 => ?_, par, ln, ⟨by rw [List.length_set, List.length_set]; exact g.len, fun j d' e => ?_, fun j c e => ?_, fun j k a c c' e1 e2 e3 e4 => ?_, g.dom, g.tb⟩⟩
    · rcases set_get e with ⟨h1, _, _⟩ | ⟨h1, h2⟩
      · subst h1; rw [σi] at e2; cases e2; exact .inr nx
      · obtain ⟨c', e3⟩ := s.sb j c h2
        rw [σj j h1] at e2
        exact .inl ⟨j, c', hj, e3, e2⟩
    · rcases set_get e with ⟨_, h, _⟩ | ⟨h1, h2⟩
      · cases h
      · obtain ⟨u, e1, q⟩ := gx.val j d' h2
        exact ⟨u, by rw [σj j h1]; exact e1, q.mono mo⟩
    · rcases set_get e with ⟨h1, h, _⟩ | ⟨h1, h2⟩
      · cases h; subst h1; exact ⟨x, σi, fun z => nox (.inl z), ro.mono rfl mo2⟩
      · obtain ⟨a, e1, n, q⟩ := gx.own j c h2
        exact ⟨a, by rw [σj j h1]; exact e1, fun z => n (.inl z), q.mono rfl mo⟩
    · have nj : ∀ {j : Nat} {c : OC}, env[j]? = some (.own c) → σ[j]? ≠ some (some (V.ref x)) := fun {j c} h z => nox (.inr ⟨j, c, h, z⟩)
      rcases set_get e1 with ⟨h1, _, _⟩ | ⟨h1, h2⟩
      · subst h1
        rw [σi] at e3
        cases e3
        rcases set_get e2 with ⟨h3, _, _⟩ | ⟨h3, h4⟩
        · exact h3.symm
        · rw [σj k h3] at e4; exact absurd e4 (nj h4)
      · rw [σj j h1] at e3
        rcases set_get e2 with ⟨h3, _, _⟩ | ⟨h3, h4⟩
        · subst h3; rw [σi] at e4; cases e4; exact absurd e3 (nj h2)
        · rw [σj k h3] at e4
          exact g.inj j k a c c' h2 h4 e3 e4
/-- what a local owns, given away -/
theorem Good.give (g : Good K T ex σ H env) {i : Nat} {c : OC} (hi : np i = false) (e : env[i]? = some (.own c)) :
    ∃ a, σ[i]? = some (some (V.ref a)) ∧ SStep K T np ex σ H env σ H (env.set i .emp) ∧ RepR K T np ex σ env H σ (env.set i .emp) H (.ref a) (.o c) := by
  obtain ⟨a, ea, na, ra⟩ := g.own i c e
  have get : ∀ {j : Nat} {s : Slot}, (env.set i .emp)[j]? = some s → s ≠ .emp → j ≠ i ∧ env[j]? = some s := fun {j s} h n => by
    rcases set_get h with ⟨_, h2, _⟩ | h
    · exact absurd h2 n
    · exact h
  have ow : ∀ {b}, Owns σ (env.set i .emp) b → Owns σ env b ∧ b ≠ a := fun {b} ⟨j, c', e1, e2⟩ => by
    obtain ⟨h1, h2⟩ := get e1 (fun z => nomatch z)
    exact ⟨⟨j, c', h2, e2⟩, fun z => h1 (by subst z; exact g.inj j i b c' c h2 e e2 ea)⟩
  have no : ∀ b, exO (fun b => ex b ∨ b = a) σ (env.set i .emp) b → exO ex σ env b := fun b h => by
    rcases h with (h | h) | h
    · exact .inl h
    · subst h; exact .inr ⟨i, c, e, ea⟩
    · exact .inr (ow h).1
  have mo : ∀ b o, ¬ exO ex σ env b → H b = some o → ¬ exO (fun b => ex b ∨ b = a) σ (env.set i .emp) b ∧ H b = some o := fun b o n q => ⟨fun z => n (no b z), q⟩
  have gx : Good K T (fun b => ex b ∨ b = a) σ H (env.set i .emp) := by
    refine ⟨by rw [List.length_set]; exact g.len, fun j d q => ?_, fun j c' q => ?_, fun j k b c1 c2 q1 q2 q3 q4 => ?_, fun b h => ?_, g.tb⟩
    · obtain ⟨_, h⟩ := get q (fun z => nomatch z)
      obtain ⟨v, e1, r⟩ := g.val j d h
      exact ⟨v, e1, r.mono mo⟩
    · obtain ⟨h1, h⟩ := get q (fun z => nomatch z)
      obtain ⟨b, e1, n, r⟩ := g.own j c' h
      exact ⟨b, e1, fun z => z.elim n fun z => h1 (by subst z; exact g.inj j i b c' c h e e1 ea), r.mono rfl mo⟩
    · exact g.inj j k b c1 c2 (get q1 fun z => nomatch z).2 (get q2 fun z => nomatch z).2 q3 q4
    · rcases h with h | h
      · exact g.dom b h
      · subst h; exact ra.there
  have g1 : Good K T ex σ H (env.set i .emp) := by
    have mo' : ∀ b o, ¬ exO (fun b => ex b ∨ b = a) σ (env.set i .emp) b → H b = some o → ¬ exO ex σ (env.set i .emp) b ∧ H b = some o := fun b o n q => ⟨fun z => n (z.imp .inl id), q⟩
    refine ⟨gx.len, fun j d q => ?_, fun j c' q => ?_, gx.inj, fun b h => gx.dom b (.inl h), gx.tb⟩
    · obtain ⟨v, e1, r⟩ := gx.val j d q
      exact ⟨v, e1, r.mono mo'⟩
    · obtain ⟨b, e1, n, r⟩ := gx.own j c' q
      exact ⟨b, e1, fun z => n (.inl z), r.mono rfl mo'⟩
  refine ⟨a, ea, ⟨fun _ _ q _ _ => q, fun _ q => q, fun j c' _ q => ⟨c', (get q fun z => nomatch z).2⟩, fun j c' b hj q1 q2 => .inl ⟨j, c', hj, (get q1 fun z => nomatch z).2, q2⟩, fun _ _ => rfl, rfl, g1⟩,
    a, rfl, na, fun z => (ow z).2 rfl, .inl ⟨i, c, hi, e, ea⟩, ra.mono rfl fun b o n q => ⟨fun z => n ?_, q⟩, gx⟩
  rcases z with z | z
  · exact z.elim .inl fun z => .inr (ow z).1
  · subst z; exact .inr ⟨i, c, e, ea⟩
end
section
variable {T : Tab} {X : Cx} {np : Nat → Bool} {pos : Pos} {e : Expr} {st : Stmt} {rest : List Stmt} {f : M EV} {p q : S}
theorem qss_nil : QSs T X np [] sNil := fun pn xe W tk hp => impSs pss_nil fun D σ H ⟨ex, env, g, r, e, o⟩ => by cases e; exact o σ H (SStep.refl g)
theorem qss_cons (h : QS T X np st p) (k : QSs T X np rest q) : QSs T X np (st :: rest) (sSeq p q) := fun pn xe W tk hp => impSs (pss_cons (h pn xe W tk hp) (k pn xe W tk hp)) fun D σ H ⟨ex, env, g, r, e, o⟩ => by
  unfold sSeq at e
  refine ⟨ex, env, g, ?_⟩
  cases w : p env with
  | none => rw [w] at e; cases e
  | some rp =>
    rw [w] at e
    refine ⟨rp, rfl, ?_⟩
    cases rp with
    | nx env1 => exact fun σ' H' s => ⟨ex, env1, s.gd, r, e, o.back s⟩
    | _ => cases e; exact o
theorem qss_one (h : QS T X np st p) : QSs T X np [st] p := fun pn xe W tk hp => pss_one (h pn xe W tk hp)
theorem qs_expr (h : QE T X e f) (hs : swapsWith e none pos.line X.env = pure false := by rfl) : QS T X np (.Expr e pos) (sExpr f) := fun pn xe W tk hp => impS (ps_expr (X := X.tr pn xe) (h pn xe W tk hp) hs) fun D σ H q => by
  obtain ⟨ex, env, z⟩ := trS_expr q (relE X.K T)
  refine ⟨ex, env, z.mono fun v H1 ⟨ex, env, H0, env1, a, g, s, ra, _, r, e, o⟩ => ?_⟩
  cases e
  exact o σ H1 s.s
theorem qs_ret (h : QE T X e f) : QS T X np (.Return (some e) pos) (sRet f) := fun pn xe W tk hp => impS (ps_ret (h pn xe W tk hp)) fun D σ H q => by
  obtain ⟨ex, env, z⟩ := trS_expr q (relE X.K T)
  refine ⟨ex, env, z.mono fun v H1 ⟨ex, env, H0, env1, a, g, s, ra, _, r, e, o⟩ => ?_⟩
  cases e
  exact o v σ H1 s.s (RepE.r g s ra)
theorem qs_if {c : Expr} {a b : List Stmt} {t : M Bool} (hc : QT T X c t) (ha : QSs T X np a p) (hb : QSs T X np b q) : QS T X np (.If c a b pos) (sIf t p q) := fun pn xe W tk hp => impS (ps_if (hc pn xe W tk hp) (ha pn xe W tk hp) (hb pn xe W tk hp)) fun D σ H z => by
  obtain ⟨ex, env, z⟩ := trS_expr z relT
  refine ⟨ex, env, z.mono fun c H1 ⟨ex, env, H0, env1, a, g, s, ra, t, _⟩ => ?_⟩
  have ra : c = a := ra
  subst ra
  cases c with
  | true => exact ⟨ex, env1, t⟩
  | false => exact ⟨ex, env1, t⟩
theorem qs_set (i : Nat) {x : Str} {pos' : Pos} (hN : X.N.Nodup) (h : QE T X e f) (hi : X.N[i]? = some x := by rfl) (hx : Loc X.env.scope x := by first | exact Or.inl rfl | exact Or.inr rfl) (hnp : np i = false := by rfl)
    (hs : swapsWith e (some (.Name x pos')) pos.line X.env = pure false := by rfl) (hf : X.fn x = true ∨ X.env.scope.names.lookup x = some .local := by first | exact .inl rfl | exact .inr rfl) : QS T X np (.Assign [.Name x pos'] e pos) (sSet i f) :=
  fun pn xe W tk hp => impS (ps_set (X := X.tr pn xe) hN hi hx (h pn xe W tk hp) hs hf) fun D σ H q => by
    obtain ⟨ex, env, z⟩ := trS_expr q (relE X.K T)
    refine ⟨ex, env, z.mono fun v H1 ⟨ex, env, H0, env1, a, g, s, ra, _, r, e, o⟩ => ?_⟩
    cases e
    exact o _ H1 (Good.store hnp g s ra)
theorem qs_retV (i : Nat) {x : Str} {p : Pos} (hN : X.N[i]? = some x := by rfl) (hv : Vis X.env.scope x := by first | exact Or.inl rfl | exact Or.inr (Or.inl rfl) | exact Or.inr (Or.inr rfl))
    (hd : (x == ("__debug__" : Str)) = false := by decide) (hcd : (x == ("__classdict__" : Str)) = false := by decide) : QS T X np (.Return (some (.Name x p)) pos) (sRetV np i) :=
  fun pn xe W tk hp => impS (ps_ret (pe_var (X := X.tr pn xe) (i := i) hN hv hd hcd)) fun D σ H ⟨ex, env, g, r, e, o⟩ => by
    unfold sRetV at e
    cases w : env[i]? with
    | none => rw [w] at e; cases e
    | some s =>
      rw [w] at e
      cases s with
      | emp => cases e
      | val d =>
        cases e
        obtain ⟨v, e1, h1⟩ := g.val i d w
        exact ⟨v, e1, o v σ H (SStep.refl g) h1⟩
      | own c =>
        dsimp only at e
        by_cases hi : np i = false
        · rw [if_pos hi] at e
          cases e
          obtain ⟨a, e1, s, r⟩ := g.give hi w
          exact ⟨.ref a, e1, o _ σ H s r⟩
        · rw [if_neg hi] at e
          cases fc : frzC c with
          | none => rw [fc] at e; cases e
          | some d =>
            rw [fc] at e
            cases e
            obtain ⟨s, a, e1, rd⟩ := g.freeze w fc
            exact ⟨.ref a, e1, o _ σ H s.s rd⟩
end

/-! ### a def -/
def lt (np : Nat) : Nat → Bool := fun i => decide (i < np)
def funD (n np : Nat) (body : S) : M EV := fun args => if args.length = np then match body (args ++ List.replicate (n - np) .emp) with
  | some (.rt v e) => some (.ok v (e.take np))
  | some (.nx e) => some (.ok (.v .non) (e.take np))
  | some (.exc x e) => some (.exc x (e.take np))
  | _ => none
  else none
section
variable {K : PySem.W.Frag} {T : Tab} {ex : Addr → Prop} {args env' : Sl} {vs : List V} {σ' : St} {H H' : Hp} {n np : Nat}
theorem app_get {α : Type} {l : List α} {k j : Nat} {x y : α} (h : (l ++ List.replicate k x)[j]? = some y) : (j < l.length ∧ l[j]? = some y) ∨ (l.length ≤ j ∧ y = x) := by
  by_cases e : j < l.length
  · rw [List.getElem?_append_left e] at h; exact .inl ⟨e, h⟩
  · rw [List.getElem?_append_right (by omega), List.getElem?_replicate] at h
    split at h
    · cases h; exact .inr ⟨by omega, rfl⟩
    · cases h
theorem start_owns {k k' : Nat} (hl : args.length = vs.length) {a : Addr} : Owns (vs.map some ++ List.replicate k none) (args ++ List.replicate k' .emp) a ↔ Owns (vs.map some) args a := by
  constructor
  · rintro ⟨j, c, e1, e2⟩
    rcases app_get e1 with ⟨h1, h2⟩ | ⟨_, h⟩
    · rcases app_get e2 with ⟨_, h3⟩ | ⟨h4, _⟩
      · exact ⟨j, c, h2, h3⟩
      · rw [List.length_map] at h4; omega
    · cases h
  · rintro ⟨j, c, e1, e2⟩
    have h1 := (List.getElem?_eq_some_iff.mp e1).1
    refine ⟨j, c, ?_, ?_⟩
    · rw [List.getElem?_append_left h1]; exact e1
    · rw [List.getElem?_append_left (by rw [List.length_map]; omega)]; exact e2
theorem start_good (hnp : args.length = np) (hn : np ≤ n) (g : Good K T ex (vs.map some) H args) : Good K T ex (vs.map some ++ List.replicate (n - vs.length) none) H (args ++ List.replicate (n - np) .emp) := by
  have hl : args.length = vs.length := by have := g.len; rwa [List.length_map] at this
  have eo : exO ex (vs.map some ++ List.replicate (n - vs.length) none) (args ++ List.replicate (n - np) .emp) = exO ex (vs.map some) args := funext fun a => propext (or_congr Iff.rfl (start_owns hl))
  have up : ∀ {i : Nat} {x : Option V}, (vs.map some)[i]? = some x → (vs.map some ++ List.replicate (n - vs.length) none)[i]? = some x := fun {i x} h => by
    rw [List.getElem?_append_left (List.getElem?_eq_some_iff.mp h).1]; exact h
  refine ⟨by simp only [List.length_append, List.length_map, List.length_replicate]; omega, fun i d e => ?_, fun i c e => ?_, fun i j a c c' e1 e2 e3 e4 => ?_, g.dom, g.tb⟩
  · rw [eo]
    rcases app_get e with ⟨_, h⟩ | ⟨_, h⟩
    · obtain ⟨v, e1, r⟩ := g.val i d h; exact ⟨v, up e1, r⟩
    · cases h
  · rw [eo]
    rcases app_get e with ⟨_, h⟩ | ⟨_, h⟩
    · obtain ⟨v, e1, n, r⟩ := g.own i c h; exact ⟨v, up e1, n, r⟩
    · cases h
  · rcases app_get e1 with ⟨h1, h2⟩ | ⟨_, h⟩
    · rcases app_get e2 with ⟨h3, h4⟩ | ⟨_, h⟩
      · rw [List.getElem?_append_left (by rw [List.length_map]; omega)] at e3 e4
        exact g.inj i j a c c' h2 h4 e3 e4
      · cases h
    · cases h
theorem end_step (hnp : args.length = np) (hn : np ≤ n) (g : Good K T ex (vs.map some) H args) (s : SStep K T (lt np) ex (vs.map some ++ List.replicate (n - vs.length) none) H (args ++ List.replicate (n - np) .emp) σ' H' env') :
    Step K T ex (vs.map some) H args H' (env'.take np) ∧ (∀ a, exO ex (vs.map some) (env'.take np) a → exO ex σ' env' a) ∧ ∀ x, Good K T (fun b => ex b ∨ b = x) σ' H' env' → Good K T (fun b => ex b ∨ b = x) (vs.map some) H' (env'.take np) := by
  have hl : args.length = vs.length := by have := g.len; rwa [List.length_map] at this
  have tk : ∀ {i : Nat} {x : Slot}, (env'.take np)[i]? = some x → i < np ∧ env'[i]? = some x := fun {i x} h => by
    rw [List.getElem?_take] at h
    split at h
    · exact ⟨by assumption, h⟩
    · cases h
  have par : ∀ i, i < np → σ'[i]? = (vs.map some)[i]? := fun i h => by
    rw [s.par i (decide_eq_true h), List.getElem?_append_left (by rw [List.length_map]; omega)]
  have ow : ∀ {a}, Owns (vs.map some) (env'.take np) a → Owns σ' env' a := fun ⟨i, c, e1, e2⟩ => ⟨i, c, (tk e1).2, by rw [par i (tk e1).1]; exact e2⟩
  have gen : ∀ ex2 : Addr → Prop, Good K T ex2 σ' H' env' → Good K T ex2 (vs.map some) H' (env'.take np) := fun ex2 gd => by
    have mo : ∀ a o, ¬ exO ex2 σ' env' a → H' a = some o → ¬ exO ex2 (vs.map some) (env'.take np) a ∧ H' a = some o := fun a o n e => ⟨fun z => n (z.imp id ow), e⟩
    refine ⟨?_, fun i d e => ?_, fun i c e => ?_, fun i j a c c' e1 e2 e3 e4 => ?_, gd.dom, gd.tb⟩
    · have h1 := s.gd.len
      rw [List.length_take, List.length_map]
      -- the slots' number
      have h2 : np ≤ σ'.length := by
        rcases Nat.lt_or_ge σ'.length np with q | q
        · have := par σ'.length q
          rw [List.getElem?_eq_none (Nat.le_refl _)] at this
          have h3 : σ'.length < (vs.map some).length := by rw [List.length_map]; omega
          rw [List.getElem?_eq_getElem h3] at this
          cases this
        · exact q
      omega
    · obtain ⟨v, e1, r⟩ := gd.val i d (tk e).2
      exact ⟨v, by rw [← par i (tk e).1]; exact e1, r.mono mo⟩
    · obtain ⟨a, e1, n, r⟩ := gd.own i c (tk e).2
      exact ⟨a, by rw [← par i (tk e).1]; exact e1, n, r.mono rfl mo⟩
    · exact gd.inj i j a c c' (tk e1).2 (tk e2).2 (by rw [par i (tk e1).1]; exact e3) (by rw [par j (tk e2).1]; exact e4)
  refine ⟨⟨fun b o e nb => s.fr b o e fun z => nb ((start_owns hl).mp z), s.dm, fun i c e => ?_, gen ex s.gd⟩, fun a h => h.imp id ow, fun x => gen _⟩
  obtain ⟨h1, h2⟩ := tk e
  obtain ⟨c', e3⟩ := s.sbp i c (decide_eq_true h1) h2
  rcases app_get e3 with ⟨_, h⟩ | ⟨_, h⟩
  · exact ⟨c', h⟩
  · cases h
end
section
variable {P : Program} {w : World} {K : PySem.W.Frag} {mg : Str → Option Value} {base : Heap} {T : Tab}
theorem fun_len {body : S} {n np : Nat} {vs : List V} {H : Hp} {Q : VK} {E : XK} (h : spD K T (funD n np body) vs H Q E) : vs.length = np := by
  obtain ⟨ex, env, g, r, e, _⟩ := h
  unfold funD at e
  by_cases hl : env.length = np
  · have := g.len; rw [List.length_map] at this; omega
  · rw [if_neg hl] at e; cases e
theorem sp_body {st : Stmt} {qual : Str} {f : Addr} {N ps : List Str} {body : S} {cdv : Value} {A : Around} {outer : List Env} {s : Shared} {H : Hp} {E : XK} {vs : List V} {Q : VK} (hpl : ps.length ≤ N.length)
    (q : QSs T (cxOf (L2N.CX P w) P w K mg base N qual (defScope st) f cdv A outer s H E) (lt ps.length) (defBody st) body) (hsp : spD K T (funD N.length ps.length body) vs H Q E) :
    ∃ t, PSs (cxOf (L2N.CX P w) P w K mg base N qual (defScope st) f cdv A outer s H E) (defBody st) t ∧ t { nx := fun _ H' => Q .non H', rt := Q } (start N vs) H := by
  have q := q (cxOf (L2N.CX P w) P w K mg base N qual (defScope st) f cdv A outer s H E).pn (cxOf (L2N.CX P w) P w K mg base N qual (defScope st) f cdv A outer s H E).xe (fun c d _ H => E c d H) (takes_of rfl rfl rfl rfl) (passes_of rfl)
  refine ⟨_, q, ?_⟩
  obtain ⟨ex, args, g, r, e, o⟩ := hsp
  unfold funD at e
  by_cases hl : args.length = ps.length
  · rw [if_pos hl] at e
    refine ⟨ex, _, start_good hl hpl g, ?_⟩
    cases w : body (args ++ List.replicate (N.length - ps.length) .emp) with
    | none => rw [w] at e; cases e
    | some rb =>
      rw [w] at e
      refine ⟨rb, rfl, ?_⟩
      cases rb with
      | bk _ => cases e
      | ct _ => cases e
      | nx e1 =>
        cases e
        intro σ' H' s
        obtain ⟨s', _, _⟩ := end_step hl hpl g s
        exact o .non H' s' rfl
      | rt v e1 =>
        cases e
        intro u σ' H' s rr
        obtain ⟨s', exb, gm⟩ := end_step hl hpl g s
        refine o u H' s' ?_
        cases v with
        | v d => exact Rep.mono (fun a o n e => ⟨fun z => n (exb a z), e⟩) rr
        | o c =>
          obtain ⟨a, ev, na, no, hn, ro, gx⟩ := rr
          refine ⟨a, ev, ?_, ro.mono rfl fun b o n e => ⟨fun z => n (z.imp (exb b) id), e⟩, gm a gx⟩
          rcases hn with ⟨j, c', hj, e1, _⟩ | hn
          · rcases app_get e1 with ⟨h1, _⟩ | ⟨_, h⟩
            · have := of_decide_eq_false hj; omega
            · cases h
          · exact hn
      | exc x e1 =>
        cases e
        intro cls dd σ' H' s rx
        obtain ⟨s', exb, _⟩ := end_step hl hpl g s
        refine o cls dd H' s' ⟨rx.1, rx.2.imp id ?_⟩
        rintro ⟨a, ws, e1, e2, l, r⟩
        exact ⟨a, ws, e1, e2, l, r.mono fun a o n e => ⟨fun z => n (exb a z), e⟩⟩
  · rw [if_neg hl] at e; cases e
theorem Fun.qc {x qual : Str} {st : Stmt} {f : Addr} {fd : FuncData} {N ps : List Str} {k : Nat} {body : S} (F : Fun K x qual st f fd) (Sc : FnScope N ps (defScope st)) (bd : Binds K fd ps [])
    (hb : ∀ (cdv : Value) (A : Around) (outer : List Env) (s : Shared) (H : Hp) (E : XK), fd.code = cdv → RG NG k (A.deeper (envOfC qual (defScope st) s.heap.objs.size f cdv)) →
      QSs T (cxOf (L2N.CX P w) P w K mg base N qual (defScope st) f cdv A outer s H E) (lt ps.length) (defBody st) body) :
    FnG NG P w K mg base (k + 1) f (spD K T (funD N.length ps.length body)) := by
  have hpl : ps.length ≤ N.length := by have := congrArg List.length Sc.pre; rw [List.length_take] at this; omega
  obtain ⟨oc, od, kV, doc, pm, an, cdv, ct, osl, rfl, lk, hcd⟩ := F.ex
  intro A outer s H us vs Q E hr e0 r hsp
  have hl : vs.length = ps.length := fun_len hsp
  have KX : K.In s.heap := e0.mod.kin.keeps fun b o e => (e0.bs b o e).1
  have lim : s.heap.NoLimit := e0.mod.nolimit.keeps fun b o e => (e0.bs b o e).1
  have hb2 := bd s us KX (by rw [List.append_nil, ← r.length]; exact hl)
  rw [List.append_nil] at hb2
  have hkind : ∀ y ∈ ps.zip us, (defScope st).names.lookup y.1 = some .local ∨ ((defScope st).names.lookup y.1 = some .cell ∧ ((cellsFrom (s.heap.objs.size + 1) (defScope st).names []).lookup y.1).isSome = true) := fun ⟨n, v⟩ hy => by
    rcases Sc.par n (List.of_mem_zip hy).1 with q | q
    · exact .inl q
    · exact .inr ⟨q, PySem.W.cellsFrom_some _ _ _ (.inl q)⟩
  refine codeAny_call_function hr.r.depth (KX _ _ lk) rfl Sc.co Sc.gen rfl (PySem.W.codeRec_of KX hcd) (hb2 _ _ _ _ ?_)
  refine wpAny_newFunctionEnv_cells Sc.kind hkind fun env he s1 x => ?_
  subst he
  refine ⟨lim.keeps x.toInCall.keep, codeAny_func ?_⟩
  obtain ⟨t, ht, hq⟩ := sp_body hpl (hb cdv A outer s H E rfl (hr.deeper _)) hsp
  have I : Inv (cxOf (L2N.CX P w) P w K mg base N qual (defScope st) f cdv A outer s H E) [] (start N vs) H s1 := inv_start Sc hr.r.hd e0 hl r x
  refine wpAny_mono (ht.run [] s1 (start N vs) H _ I hq) (fun fl s' hs => ?_) fun e s' hs => hs
  have fin : ∀ {σ' : St} {H' : Hp} {v : V} {u : Value}, Inv (cxOf (L2N.CX P w) P w K mg base N qual (defScope st) f cdv A outer s H E) [] σ' H' s' → RelV v u → Q v H' → CE outer P w H s Q u s' :=
    fun {σ' H' v u} J rv q => ⟨v, H', J.os, J.bare, J.base, J.hok, rv, q⟩
  cases fl with
  | ret u =>
    obtain ⟨v, σ', H', J, rv, q⟩ := hs
    exact fin J rv q
  | next =>
    obtain ⟨σ', H', J, q⟩ := hs
    exact fin (v := V.non) (u := Value.none) J rfl q
  | brk =>
    obtain ⟨_, _, _, q⟩ := hs
    exact False.elim q
  | cont =>
    obtain ⟨_, _, _, q⟩ := hs
    exact False.elim q
theorem Fun.q {x qual : Str} {st : Stmt} {f : Addr} {fd : FuncData} {N ps : List Str} {k : Nat} {body : S} (F : Fun K x qual st f fd) (Sc : FnScope N ps (defScope st)) (bd : Binds K fd ps [])
    (hb : ∀ (cdv : Value) (A : Around) (outer : List Env) (s : Shared) (H : Hp) (E : XK), RG NG k (A.deeper (envOfC qual (defScope st) s.heap.objs.size f cdv)) →
      QSs T (cxOf (L2N.CX P w) P w K mg base N qual (defScope st) f cdv A outer s H E) (lt ps.length) (defBody st) body) :
    FnG NG P w K mg base (k + 1) f (spD K T (funD N.length ps.length body)) := Fun.qc F Sc bd fun cdv A outer s H E _ hr => hb cdv A outer s H E hr
end
end Dt
end
section
set_option maxRecDepth 100000
set_option maxHeartbeats 4000000
/-! QG: what is walked; targets; for, while, list comprehensions; raise and try. -/
namespace Dt
open PySem PySem.Spec
open L2 hiding passL ps_try_many HdsOk takes0 XE Takes CX takes_of passes_call PMk MkP ps_raise mk_of ps_try_as pmk_own
open L2N hiding St
open PyProof.Rows hiding St

/-! ### what is walked -/
def Keep (exs : Addr → Prop) (H1 H : Hp) : Prop := ∀ b o, ¬ exs b → H1 b = some o → NT o → H b = some o
structure ItOK (K : PySem.W.Frag) (T : Tab) (exs : Addr → Prop) (H1 : Hp) (J : It) (items : List D) : Prop where
  len : items.length ≤ sizeLine
  go : ∀ i H, i < items.length → Keep exs H1 H → J.go i H
  stop : ∀ H, Keep exs H1 H → J.stop items.length H
  yld : ∀ (i : Nat) (H : Hp) (x : V) (H' : Hp) (d : D), items[i]? = some d → Keep exs H1 H → J.yld i H x H' → Ext H H' ∧ ∀ ex', (∀ b o, ¬ exs b → H1 b = some o → ¬ ex' b) → (∀ b, ex' b → H b ≠ none) → Rep K T ex' H' d x
def relI (K : PySem.W.Frag) (T : Tab) : Rl It (List D) := fun ex σ env' _ H' J items => ItOK K T (exO ex σ env') H' J items
theorem rmI {K : PySem.W.Frag} {T : Tab} : RM (relI K T) := fun _ _ _ _ _ _ _ _ _ r => r
def QI (T : Tab) (X : Cx) (tg iter : Expr) (f : M (List D)) : Prop := ∀ pn xe W, Takes (X.tr pn xe) W → PassesOwn (model X.prog X.w) X.A X.env xe → PI (X.tr pn xe) tg iter (tr X.K T (relI X.K T) f W)
theorem impI {X : Cx} {tg e : Expr} {t t' : TI} (h : PI X tg e t) (k : ∀ σ H Q, t' σ H Q → t σ H Q) : PI X tg e t' := ⟨fun pins s σ H Q I q => h.run pins s σ H Q I (k σ H Q q)⟩
theorem impG {X : Cx} {e : Expr} {t t' : TG} (h : PG X e t) (k : ∀ v σ H Q, t' v σ H Q → t v σ H Q) : PG X e t' := ⟨fun pins s σ H v u Q I r q => h.run pins s σ H v u Q I r (k v σ H Q q)⟩

/-- a list, a tuple, a text: its items (what owns the list lets it go) -/
def itemsOf : D → Option (List D)
  | .lst ds => some ds
  | .tup ds => some ds
  | .str s => if s.length ≤ 1000000 then some (s.map fun c => .str [c]) else none
  | _ => none
def iOf (f : M EV) : M (List D) := M.bind f fun ev => match frz ev with
  | some d => lift (itemsOf d)
  | none => M.stuck
section
variable {K : PySem.W.Frag} {T : Tab} {exs : Addr → Prop} {H1 : Hp}
theorem itok_list {a : Addr} {vs : List V} {ds : List D} (hz : vs.length ≤ sizeLine) (h : ¬ exs a ∧ H1 a = some (.lst vs)) (r : RepL K T exs H1 ds vs) : ItOK K T exs H1 (Itl K a) ds := by
  have sq : ∀ H, Keep exs H1 H → SqL K H a vs := fun H k => SqL.of (k a _ h.1 h.2 (fun _ z => nomatch z))
  have hl := r.length
  refine ⟨by omega, fun i H hi k => ?_, fun H k => ⟨vs, sq H k, by omega⟩, fun i H x H' d hd k y => ?_⟩
  · have : i < vs.length := by omega
    exact ⟨vs, vs[i], sq H k, List.getElem?_eq_getElem this⟩
  · obtain ⟨e, q⟩ := y
    subst e
    obtain ⟨v, e1, rv⟩ := r.get hd
    rw [q vs (sq _ k)] at e1
    cases e1
    exact ⟨fun _ _ q => q, fun ex' n1 _ => rv.monoT fun b o nb e => ⟨n1 b o nb e, k b o nb e⟩⟩
theorem itok_tup {a : Addr} {vs : List V} {ds : List D} (hz : vs.length ≤ sizeLine) (h : ¬ exs a ∧ H1 a = some (.tup vs)) (r : RepL K T exs H1 ds vs) : ItOK K T exs H1 (Itt K a) ds := by
  have sq : ∀ H, Keep exs H1 H → SqT K H a vs := fun H k => SqT.of (k a _ h.1 h.2 (fun _ z => nomatch z))
  have hl := r.length
  refine ⟨by omega, fun i H hi k => ?_, fun H k => ⟨vs, sq H k, by omega⟩, fun i H x H' d hd k y => ?_⟩
  · have : i < vs.length := by omega
    exact ⟨vs, vs[i], sq H k, List.getElem?_eq_getElem this⟩
  · obtain ⟨e, q⟩ := y
    subst e
    obtain ⟨v, e1, rv⟩ := r.get hd
    rw [q vs (sq _ k)] at e1
    cases e1
    exact ⟨fun _ _ q => q, fun ex' n1 _ => rv.monoT fun b o nb e => ⟨n1 b o nb e, k b o nb e⟩⟩
theorem itok_str {s : List Nat} (hs : s.length ≤ 1000000) : ItOK K T exs H1 (Its (mkS s)) (s.map fun c => .str [c]) := by
  have hz : (mkS s).cps.size = s.length := by simp [mkS]
  refine ⟨by rw [List.length_map, sizeLine_eq]; omega, fun i H hi k => ?_, fun H k => ?_, fun i H x H' d hd k y => ?_⟩
  · rw [List.length_map] at hi
    show i < (mkS s).cps.size
    omega
  · show (mkS s).cps.size ≤ _
    rw [List.length_map]; omega
  · obtain ⟨e, c, e1, e2⟩ := y
    subst e e2
    refine ⟨fun _ _ q => q, fun ex' _ _ => ?_⟩
    have e3 : s[i]? = some c := by rw [← e1, ← Array.getElem?_toList, mkS_cps]
    rw [List.getElem?_map, e3] at hd
    cases hd
    show V.str ⟨#[c]⟩ = V.str (mkS [c])
    rfl
theorem itok_range {n : Nat} {lo : Int} (hn : n ≤ 2000000) : ItOK K T exs H1 (Itr lo n) ((List.range n).map fun (i : Nat) => D.int (lo + (i : Int))) := by
  refine ⟨by rw [List.length_map, List.length_range, sizeLine_eq]; omega, fun i H hi k => (show i < n by simpa using hi), fun H k => (by simp [Itr]), fun i H x H' d hd k y => ?_⟩
  obtain ⟨e, e1⟩ := y
  subst e e1
  refine ⟨fun _ _ q => q, fun ex' _ _ => ?_⟩
  rw [List.getElem?_map] at hd
  cases q : (List.range n)[i]? with
  | none => rw [q] at hd; cases hd
  | some j =>
    rw [q] at hd; cases hd
    have := List.getElem?_range (n := n) (i := i) (by have := (List.getElem?_eq_some_iff.mp q).1; simpa using this)
    rw [this] at q; cases q
    exact rfl
end
section
variable {X : Cx} {tg : Expr}
def iListL (K : PySem.W.Frag) (tl : TE) : TI := fun σ H R => tl σ H fun x H1 => ∃ a xs, x = .ref a ∧ SqL K H1 a xs ∧ (xs.length ≤ sizeLine → R (Itl K a) H1)
def iTupL (K : PySem.W.Frag) (tl : TE) : TI := fun σ H R => tl σ H fun x H1 => ∃ a xs, x = .ref a ∧ SqT K H1 a xs ∧ (xs.length ≤ sizeLine → R (Itt K a) H1)
theorem pi_listL {l : Expr} {tl : TE} (hl : PE X l tl) : PI X tg l (iListL X.K tl) := by
  refine ⟨fun pins s σ H R I h => ?_⟩
  refine thn (hl.run pins s σ H _ I h) fun v s1 ⟨x, H1, I1, r1, q1⟩ => ?_
  obtain ⟨a, xs, e, hq, q⟩ := q1
  subst e
  cases r1
  obtain ⟨its, rv, p, hz⟩ := I1.list hq
  refine wpAny_pyIter_list p.isList ?_
  refine ⟨s1.heap.objs.size, [s1.heap.objs.size], _, _, H1, rfl, I1.kept (t' := s1.toks) fun b o e => Heap.get?_push_of_some _ e, turn_list a _, ⟨_, Heap.get?_push_size _ rfl, rfl, rfl⟩, fun b hb => ?_, q hz⟩
  have e : b = s1.heap.objs.size := by simpa using hb
  subst e
  exact I1.fpOk (Nat.le_refl _) (I1.hok.fresh (Nat.le_refl _))
theorem pi_tupL {l : Expr} {tl : TE} (hl : PE X l tl) : PI X tg l (iTupL X.K tl) := by
  refine ⟨fun pins s σ H R I h => ?_⟩
  refine thn (hl.run pins s σ H _ I h) fun v s1 ⟨x, H1, I1, r1, q1⟩ => ?_
  obtain ⟨a, xs, e, hq, q⟩ := q1
  subst e
  cases r1
  obtain ⟨its, rv, p, hz⟩ := I1.tuple hq
  refine wpAny_pyIter_tuple (show s1.heap.IsTuple a its.toArray from p) ?_
  refine ⟨s1.heap.objs.size, [s1.heap.objs.size], _, _, H1, rfl, I1.kept (t' := s1.toks) fun b o e => Heap.get?_push_of_some _ e, turn_tuple a _, ⟨_, Heap.get?_push_size _ rfl, rfl, rfl⟩, fun b hb => ?_, q hz⟩
  have e : b = s1.heap.objs.size := by simpa using hb
  subst e
  exact I1.fpOk (Nat.le_refl _) (I1.hok.fresh (Nat.le_refl _))
end
section
variable {T : Tab} {X : Cx} {tg e : Expr} {f : M EV}
/-- a walk over what an expression gives: list, tuple or text by the data -/
theorem qi_lst (h : QE T X e f) : QI T X tg e (M.bind f fun ev => match frz ev with | some (.lst ds) => M.ret ds | _ => M.stuck) := fun pn xe W tk hp => impI (pi_listL (h pn xe W tk hp)) fun σ H Q ⟨ex, env, q⟩ => by
  have g0 := q.1
  refine ⟨ex, env, (trx_bind (relE X.K T) rmI q).mono fun v H1 ⟨ev, env1, s, r, q⟩ => ?_⟩
  have stuck : ∀ {f : M (List D)}, f = M.stuck → trx X.K T (relI X.K T) ex f env1 W σ H1 Q → False := fun e ⟨_, _, q, _⟩ => by rw [e] at q; cases q
  cases w : frz ev with
  | none => rw [w] at q; exact (stuck rfl q).elim
  | some d =>
    rw [w] at q
    have rd := RepE.frz g0 s r w
    cases d with
    | lst ds =>
      obtain ⟨g, k⟩ := trx_ret q
      obtain ⟨a, vs, e1, h0, h1, h2⟩ := rd
      exact ⟨a, vs, e1, SqL.of h1, fun hz => k _ H1 (Step.refl g) (itok_list hz ⟨h0, h1⟩ h2)⟩
    | _ => exact (stuck rfl q).elim
theorem qi_tup (h : QE T X e f) : QI T X tg e (M.bind f fun ev => match frz ev with | some (.tup ds) => M.ret ds | _ => M.stuck) := fun pn xe W tk hp => impI (pi_tupL (h pn xe W tk hp)) fun σ H Q ⟨ex, env, q⟩ => by
  have g0 := q.1
  refine ⟨ex, env, (trx_bind (relE X.K T) rmI q).mono fun v H1 ⟨ev, env1, s, r, q⟩ => ?_⟩
  have stuck : ∀ {f : M (List D)}, f = M.stuck → trx X.K T (relI X.K T) ex f env1 W σ H1 Q → False := fun e ⟨_, _, q, _⟩ => by rw [e] at q; cases q
  cases w : frz ev with
  | none => rw [w] at q; exact (stuck rfl q).elim
  | some d =>
    rw [w] at q
    have rd := RepE.frz g0 s r w
    cases d with
    | tup ds =>
      obtain ⟨g, k⟩ := trx_ret q
      obtain ⟨a, vs, e1, h0, h1, h2⟩ := rd
      exact ⟨a, vs, e1, SqT.of h1, fun hz => k _ H1 (Step.refl g) (itok_tup hz ⟨h0, h1⟩ h2)⟩
    | _ => exact (stuck rfl q).elim
theorem qi_str (h : QE T X e f) : QI T X tg e (M.bind f fun ev => match frz ev with | some (.str s) => if s.length ≤ 1000000 then M.ret (s.map fun c => D.str [c]) else M.stuck | _ => M.stuck) := fun pn xe W tk hp => impI (pi_str (h pn xe W tk hp)) fun σ H Q ⟨ex, env, q⟩ => by
  have g0 := q.1
  refine ⟨ex, env, (trx_bind (relE X.K T) rmI q).mono fun v H1 ⟨ev, env1, s, r, q⟩ => ?_⟩
  have stuck : ∀ {f : M (List D)}, f = M.stuck → trx X.K T (relI X.K T) ex f env1 W σ H1 Q → False := fun e ⟨_, _, q, _⟩ => by rw [e] at q; cases q
  cases w : frz ev with
  | none => rw [w] at q; exact (stuck rfl q).elim
  | some d =>
    rw [w] at q
    have rd := RepE.frz g0 s r w
    cases d with
    | str z =>
      dsimp only at q
      by_cases hz : z.length ≤ 1000000
      · rw [if_pos hz] at q
        obtain ⟨g, k⟩ := trx_ret q
        exact ⟨mkS z, rd, k _ H1 (Step.refl g) (itok_str hz)⟩
      · rw [if_neg hz] at q; exact (stuck rfl q).elim
    | _ => exact (stuck rfl q).elim
end
theorem qi_of {T : Tab} {X : Cx} {tg e : Expr} {f : M EV} (h : QE T X e f) : QI T X tg e (iOf f) := fun pn xe W tk hp => ⟨fun pins s σ H Q I ⟨ex, env, gd, r, er, o⟩ => by
  unfold iOf M.bind at er
  cases q : f env with
  | none => rw [q] at er; cases er
  | some ra =>
    rw [q] at er
    cases ra with
    | exc x e1 =>
      cases er
      exact (qi_lst h pn xe W tk hp).run pins s σ H Q I ⟨ex, env, gd, .exc x e1, by simp only [M.bind, q], o⟩
    | ok ev e1 =>
      dsimp only at er
      cases w : frz ev with
      | none => rw [w] at er; cases er
      | some d =>
        rw [w] at er
        cases d with
        | lst ds => cases er; exact (qi_lst h pn xe W tk hp).run pins s σ H Q I ⟨ex, env, gd, .ok ds e1, by simp only [M.bind, q, w]; rfl, o⟩
        | tup ds => cases er; exact (qi_tup h pn xe W tk hp).run pins s σ H Q I ⟨ex, env, gd, .ok ds e1, by simp only [M.bind, q, w]; rfl, o⟩
        | str z =>
          have er : lift (if z.length ≤ 1000000 then some (z.map fun c => D.str [c]) else none) e1 = some r := er
          by_cases hz : z.length ≤ 1000000
          · rw [if_pos hz] at er
            cases er
            exact (qi_str h pn xe W tk hp).run pins s σ H Q I ⟨ex, env, gd, .ok _ e1, by simp only [M.bind, q, w, if_pos hz]; rfl, o⟩
          · rw [if_neg hz] at er; cases er
        | _ => cases er⟩
def rangeD (lo hi : Int) : List D := (List.range (hi - lo).toNat).map fun (i : Nat) => D.int (lo + (i : Int))
def small62 (i : Int) : Bool := decide (-1000000 ≤ i ∧ i ≤ 1000000)
def iRange1 (fs : M (List AV)) : M (List D) := M.bind fs fun as => match as with
  | [.v (.int j)] => if small62 j = true then M.ret (rangeD 0 j) else M.stuck
  | _ => M.stuck
section
variable {T : Tab} {X : Cx} {tg a b : Expr} {fs : M (List AV)} {p pos : Pos}
theorem int_of {K : PySem.W.Frag} {T : Tab} {ex : Addr → Prop} {σ : St} {env : Sl} {H : Hp} {v : V} {j : Int} (r : RepA K T ex σ env H v (.v (.int j))) : v = .int j := r
theorem qi_range1 (hg : Gl X "range") (hm : X.mg "range" = none) (h : QAs T X [a] fs) (hs : starEach [a] X.env = [(false, eval a X.env)] := by rfl) : QI T X tg (.Call (.Name "range" p) [a] [] pos) (iRange1 fs) := fun pn xe W tk hp => impI (pi_range1 (X := X.tr pn xe) hg hm (h pn xe W tk hp) hs) fun σ H Q ⟨ex, env, q⟩ => by
  refine ⟨ex, env, (trx_bind (relAs X.K T) rmI q).mono fun vs H1 ⟨as, env1, s, r, q⟩ => ?_⟩
  have stuck : ∀ {f : M (List D)}, f = M.stuck → trx X.K T (relI X.K T) ex f env1 W σ H1 Q → False := fun e ⟨_, _, q, _⟩ => by rw [e] at q; cases q
  split at q
  · rename_i j
    by_cases hj : small62 j = true
    · rw [if_pos hj] at q
      obtain ⟨g, k⟩ := trx_ret q
      have hj' := of_decide_eq_true hj
      cases r with
      | cons r1 r2 =>
        cases r2
        have e := int_of r1
        subst e
        refine ⟨j, rfl, by omega, by omega, k _ H1 (Step.refl g) ?_⟩
        have : ItOK X.K T (exO ex σ env1) H1 (Itr 0 j.toNat) ((List.range j.toNat).map fun (i : Nat) => D.int (0 + (i : Int))) := itok_range (by omega)
        unfold relI rangeD
        rw [Int.sub_zero]
        exact this
    · rw [if_neg hj] at q; exact (stuck rfl q).elim
  · exact (stuck rfl q).elim
end

/-! ### targets -/
def trG (K : PySem.W.Frag) (T : Tab) (np : Nat → Bool) (t : D → Sl → Option Sl) : TG := fun v σ H Q => ∃ ex env d env', Good K T ex σ H env ∧ Rep K T (exO ex σ env) H d v ∧ t d env = some env' ∧ ∀ σ' H', SStep K T np ex σ H env σ' H' env' → Q σ' H'
def QG (T : Tab) (X : Cx) (np : Nat → Bool) (tg : Expr) (t : D → Sl → Option Sl) : Prop := ∀ pn xe, PG (X.tr pn xe) tg (trG X.K T np t)
def gN (i : Nat) : D → Sl → Option Sl := fun d env => some (env.set i (.val d))
def gsNil : List D → Sl → Option Sl := fun ds env => match ds with
  | [] => some env
  | _ => none
def gsCons (t : D → Sl → Option Sl) (u : List D → Sl → Option Sl) : List D → Sl → Option Sl := fun ds env => match ds with
  | d :: r => (t d env).bind fun e => u r e
  | [] => none
def gT (u : List D → Sl → Option Sl) : D → Sl → Option Sl := fun d env => match d with
  | .tup ds => u ds env
  | _ => none
section
variable {T : Tab} {X : Cx} {np : Nat → Bool} {n : Nat} {pos : Pos} {e : Expr} {es : List Expr} {t : D → Sl → Option Sl} {u : List D → Sl → Option Sl}
theorem qg_name (i : Nat) {x : Str} (hN : X.N.Nodup) (hi : X.N[i]? = some x := by rfl) (hx : Loc X.env.scope x := by first | exact Or.inl rfl | exact Or.inr rfl) (hnp : np i = false := by rfl)
    (hf : X.fn x = true ∨ X.env.scope.names.lookup x = some .local := by first | exact .inl rfl | exact .inr rfl) : QG T X np (.Name x pos) (gN i) := fun pn xe => impG (pg_name (X := X.tr pn xe) hN hi hx hf) fun v σ H Q ⟨ex, env, d, env', g, r, e, k⟩ => by
  cases e
  exact k _ H (Good.store (ev := .v d) hnp g (Step.refl g) r)
end

/-! ### for -/
def forL (t : D → Sl → Option Sl) (body : S) : List D → Sl → Option SR
  | [], env => some (.nx env)
  | d :: ds, env => match t d env with
    | none => none
    | some e1 => match body e1 with
      | some (.nx e) => forL t body ds e
      | some (.ct e) => forL t body ds e
      | some (.bk e) => some (.nx e)
      | some (.rt v e) => some (.rt v e)
      | some (.exc x e) => some (.exc x e)
      | none => none
def sFor (f : M (List D)) (t : D → Sl → Option Sl) (body : S) : S := sE f fun ds => forL t body ds
section
variable {T : Tab} {X : Cx} {np : Nat → Bool} {pos : Pos} {tg iter : Expr} {body : List Stmt} {f : M (List D)} {t : D → Sl → Option Sl} {b : S}
theorem qs_for (hc : X.calm = true) (hi : QI T X tg iter f) (hg : QG T X np tg t) (hb : QSs T X np body b) (hs : ∀ x, foldedSetIterable iter X.env x = pure x := by intro _; rfl) : QS T X np (.For tg iter body [] pos) (sFor f t b) := fun pn xe W tk hp => by
  refine impS (ps_for (X := X.tr pn xe) hp hc (hi pn xe W tk hp) (hg pn xe) (hb pn xe W tk hp) hs) fun D σ H q => ?_
  obtain ⟨ex, env, z⟩ := trS_expr q (relI X.K T)
  refine ⟨ex, env, z.mono fun J H1 ⟨ex, env0, H0, env1, items, g0, s0, it, ⟨g1, r, er, o⟩, _⟩ => ?_⟩
  have it : ItOK X.K T (exO ex σ env1) H1 J items := it
  refine ⟨fun i m σi Hi => m = items.length - i ∧ i ≤ items.length ∧ ∃ envi, SStep X.K T np ex σ H1 env1 σi Hi envi ∧ forL t b (items.drop i) envi = some r, ⟨items.length, by simp, Nat.zero_le _, env1, SStep.refl g1, by simpa using er⟩, ?_⟩
  rintro i m σi Hi ⟨rfl, hi, envi, s, e⟩
  have keep : Keep (exO ex σ env1) H1 Hi := fun b o n q => s.fr b o q fun z => n (.inr z)
  by_cases hlt : i < items.length
  · refine .inr ⟨it.go i Hi hlt keep, fun σ' H' => ∃ m', m' < items.length - i ∧ m' = items.length - (i + 1) ∧ i + 1 ≤ items.length ∧ ∃ envi, SStep X.K T np ex σ H1 env1 σ' H' envi ∧ forL t b (items.drop (i + 1)) envi = some r, fun σ' H' ⟨m', h1, h2, h3, h4⟩ => ⟨m', h1, h2, h3, h4⟩, fun x H' y => ?_⟩
    have hd : items.drop i = items[i] :: items.drop (i + 1) := List.drop_eq_getElem_cons hlt
    rw [hd] at e
    unfold forL at e
    obtain ⟨ext, rep⟩ := it.yld i Hi x H' items[i] (List.getElem?_eq_getElem hlt) keep y
    have gi := s.gd.ext ext
    have se : SStep X.K T np ex σi Hi envi σi H' envi := (Step.ext s.gd ext).s
    have rd : Rep X.K T (exO ex σi envi) H' items[i] x := rep _ (fun b o nb q z => by
      rcases z with z | z
      · exact nb (.inl z)
      · rcases s.owns z with z | z
        · exact nb (.inr z)
        · rw [z] at q; cases q) s.gd.dm
    cases q1 : t items[i] envi with
    | none => rw [q1] at e; cases e
    | some e1 =>
      rw [q1] at e
      dsimp only at e
      refine ⟨ex, envi, _, e1, gi, rd, q1, fun σ2 H2 s2 => ?_⟩
      have s12 := (s.trans se).trans s2
      cases q2 : b e1 with
      | none => rw [q2] at e; cases e
      | some rb =>
        rw [q2] at e
        refine ⟨ex, e1, s2.gd, rb, q2, ?_⟩
        cases rb with
        | nx e3 => exact fun σ3 H3 s3 => ⟨items.length - (i + 1), by omega, rfl, hlt, e3, s12.trans s3, e⟩
        | ct e3 => exact fun σ3 H3 s3 => ⟨items.length - (i + 1), by omega, rfl, hlt, e3, s12.trans s3, e⟩
        | bk e3 => cases e; exact fun σ3 H3 s3 => o σ3 H3 (s12.trans s3)
        | rt v e3 => cases e; exact fun v σ3 H3 s3 rr => o v σ3 H3 (s12.trans s3) (RepR.trans s12 rr)
        | exc x e3 => cases e; exact fun c d σ3 H3 s3 rx => o c d σ3 H3 (s12.trans s3) rx
  · have ei : i = items.length := by omega
    subst ei
    rw [List.drop_length] at e
    cases e
    exact .inl ⟨it.stop Hi keep, o σi Hi s⟩
end

section
variable {T : Tab} {X : Cx} {np : Nat → Bool} {pos : Pos} {test : Expr} {body : List Stmt} {c : M Bool} {b : S}
end
end Dt
end
section
set_option maxRecDepth 100000
set_option maxHeartbeats 4000000
/-! QH: list comprehensions. -/
namespace Dt
open PySem PySem.Spec
open L2 hiding passL ps_try_many HdsOk takes0 XE Takes CX takes_of passes_call PMk MkP ps_raise mk_of ps_try_as pmk_own
open L2N hiding St
open PyProof.Rows hiding St

def wipeE (env : Sl) : List Nat → Sl
  | [] => env
  | v :: vs => (wipeE env vs).set v .emp
theorem wipeE_len (env : Sl) : ∀ vs, (wipeE env vs).length = env.length
  | [] => rfl
  | v :: vs => by unfold wipeE; rw [List.length_set, wipeE_len env vs]
theorem wipeE_get {env : Sl} {i : Nat} {s : Slot} : ∀ {vs : List Nat}, (wipeE env vs)[i]? = some s → s = .emp ∨ (i ∉ vs ∧ env[i]? = some s)
  | [], h => .inr ⟨by simp, h⟩
  | v :: vs, h => by
    unfold wipeE at h
    rcases set_get h with ⟨_, e, _⟩ | ⟨h1, h2⟩
    · exact .inl e
    · rcases wipeE_get h2 with e | ⟨e1, e2⟩
      · exact .inl e
      · exact .inr ⟨by simp only [List.mem_cons, not_or]; exact ⟨h1, e1⟩, e2⟩
theorem wipe_in {σ : St} {i : Nat} : ∀ {vs : List Nat}, i ∈ vs → i < σ.length → (wipe σ vs)[i]? = some none
  | v :: vs, h, hl => by
    unfold wipe
    by_cases e : i = v
    · subst e
      rw [List.getElem?_set_self (by rw [wipe_length]; exact hl)]
    · rw [List.getElem?_set_ne (Ne.symm e)]
      exact wipe_in ((List.mem_cons.mp h).resolve_left e) hl
theorem wipe_eq {σ τ : St} {vs : List Nat} (hl : τ.length = σ.length) (h : ∀ i, i ∉ vs → τ[i]? = σ[i]?) : wipe τ vs = wipe σ vs := by
  refine List.ext_getElem? fun i => ?_
  by_cases hi : i ∈ vs
  · by_cases hs : i < σ.length
    · rw [wipe_in hi hs, wipe_in hi (by rw [hl]; exact hs)]
    · rw [List.getElem?_eq_none (by rw [wipe_length]; omega), List.getElem?_eq_none (by rw [wipe_length]; omega)]
  · rw [wipe_out hi, wipe_out hi, h i hi]

section
variable {K : PySem.W.Frag} {T : Tab} {ex : Addr → Prop} {σ τ : St} {H H' : Hp} {env env' : Sl}
/-- fewer slots are told, at σ in place of τ -/
theorem Good.wipe {vs : List Nat} (g : Good K T ex τ H env) (hl : τ.length = σ.length) (h : ∀ i, i ∉ vs → τ[i]? = σ[i]?) : Good K T ex σ H (wipeE env vs) := by
  have get : ∀ {j : Nat} {s : Slot}, (wipeE env vs)[j]? = some s → s ≠ .emp → env[j]? = some s ∧ σ[j]? = τ[j]? := fun {j s} e n => by
    rcases wipeE_get e with e | ⟨e1, e2⟩
    · exact absurd e n
    · exact ⟨e2, (h j e1).symm⟩
  have mo : ∀ a o, ¬ exO ex τ env a → H a = some o → ¬ exO ex σ (wipeE env vs) a ∧ H a = some o := fun a o n e => ⟨fun z => n (by
    rcases z with z | ⟨j, c, e1, e2⟩
    · exact .inl z
    · obtain ⟨e3, e4⟩ := get e1 (fun z => nomatch z)
      rw [e4] at e2
      exact .inr ⟨j, c, e3, e2⟩), e⟩
  refine ⟨by rw [wipeE_len, g.len, hl], fun i d e => ?_, fun i c e => ?_, fun i j a c c' e1 e2 e3 e4 => ?_, g.dom, g.tb⟩
  · obtain ⟨e1, e2⟩ := get e (fun z => nomatch z)
    obtain ⟨v, e3, r⟩ := g.val i d e1
    exact ⟨v, by rw [e2]; exact e3, r.mono mo⟩
  · obtain ⟨e1, e2⟩ := get e (fun z => nomatch z)
    obtain ⟨a, e3, n, r⟩ := g.own i c e1
    exact ⟨a, by rw [e2]; exact e3, n, r.mono rfl mo⟩
  · obtain ⟨f1, f2⟩ := get e1 (fun z => nomatch z)
    obtain ⟨f3, f4⟩ := get e2 (fun z => nomatch z)
    exact g.inj i j a c c' f1 f3 (by rw [← f2]; exact e3) (by rw [← f4]; exact e4)
theorem owns_wipe {vs : List Nat} (h : ∀ i, i ∉ vs → τ[i]? = σ[i]?) {a : Addr} (w : Owns σ (wipeE env vs) a) : Owns τ env a := by
  obtain ⟨i, c, e1, e2⟩ := w
  rcases wipeE_get e1 with e | ⟨e3, e4⟩
  · cases e
  · exact ⟨i, c, e4, by rw [h i e3]; exact e2⟩
theorem Good.less {x : Addr} (g : Good K T (fun b => ex b ∨ b = x) σ H env) : Good K T ex σ H env := by
  have mo : ∀ b o, ¬ exO (fun b => ex b ∨ b = x) σ env b → H b = some o → ¬ exO ex σ env b ∧ H b = some o := fun b o n q => ⟨fun z => n (z.imp .inl id), q⟩
  refine ⟨g.len, fun j d q => ?_, fun j c' q => ?_, g.inj, fun b h => g.dom b (.inl h), g.tb⟩
  · obtain ⟨v, e1, r⟩ := g.val j d q
    exact ⟨v, e1, r.mono mo⟩
  · obtain ⟨b, e1, n, r⟩ := g.own j c' q
    exact ⟨b, e1, fun z => n (.inl z), r.mono rfl mo⟩
/-- another heap that differs at what is not met alone -/
theorem Good.chg (g : Good K T ex σ H env) (k : ∀ b o, ¬ ex b → H b = some o → H' b = some o) (d : ∀ b, ex b → H' b ≠ none) (tb : LamX.Tabs T.tb H') : Good K T ex σ H' env := by
  have mo : ∀ b o, ¬ exO ex σ env b → H b = some o → ¬ exO ex σ env b ∧ H' b = some o := fun b o n q => ⟨n, k b o (fun z => n (.inl z)) q⟩
  refine ⟨g.len, fun j d q => ?_, fun j c' q => ?_, g.inj, d, tb⟩
  · obtain ⟨v, e1, r⟩ := g.val j d q
    exact ⟨v, e1, r.mono mo⟩
  · obtain ⟨b, e1, n, r⟩ := g.own j c' q
    refine ⟨b, e1, n, r.mono ?_ mo⟩
    cases w : H b with
    | none => exact absurd w r.there
    | some o => exact k b o n w
end

/-- one turn after another: the items so far, the slots -/
def compL (vs : List Nat) (t : D → Sl → Option Sl) (c : M Bool) (f : M EV) : List D → List D → Sl → Option (List D × Sl)
  | [], acc, env => some (acc, env)
  | d :: ds, acc, env => match t d env with
    | none => none
    | some e1 => match c e1 with
      | some (.ok true e2) => match f e2 with
        | some (.ok ev e3) => match frz ev with
          | some x => compL vs t c f ds (acc ++ [x]) (wipeE e3 vs)
          | none => none
        | _ => none
      | some (.ok false e2) => compL vs t c f ds acc (wipeE e2 vs)
      | _ => none
def eComp (vs : List Nat) (items : M (List D)) (t : D → Sl → Option Sl) (c : M Bool) (f : M EV) : M EV := M.bind items fun ds => fun env => match compL vs t c f ds [] (wipeE env vs) with
  | some (acc, e) => some (.ok (.o (.lst acc)) e)
  | none => none
def bYes : M Bool := M.ret true
/-- protected: all but the block's own slots -/
def but (vs : List Nat) : Nat → Bool := fun i => !(vs.contains i)
/-- a judgement within a comprehension's block -/
def Blk (X : Cx) (scope : Scope) (J : Cx → Prop) : Prop := ∀ (s : Shared) (H : Hp) (C : Addr) (cl : List (Str × Addr)) (fp : List Addr), J (X.blk s H scope (compEnvC scope cl C X.env) fp)
def QTs (T : Tab) (X : Cx) (ifs : List Expr) (c : M Bool) : Prop := ∀ pn xe W, Takes (X.tr pn xe) W → PassesOwn (model X.prog X.w) X.A X.env xe → PTs (X.tr pn xe) ifs (tr X.K T relT c W)
theorem qts_nil {T : Tab} {X : Cx} : QTs T X [] bYes := fun pn xe W tk hp => ⟨fun pins s σ H Q I q => pts_nil.run pins s σ H Q I (tr_ret q fun _ _ => rfl)⟩
theorem qts_one {T : Tab} {X : Cx} {e : Expr} {c : M Bool} (h : QT T X e c) : QTs T X [e] c := fun pn xe W tk hp => pts_one (h pn xe W tk hp)

section
variable {T : Tab} {X : Cx} {elt tg iter : Expr} {ifs : List Expr} {scope : Scope} {own : List (Str × Nat)} {pos : Pos} {fi : M (List D)} {t : D → Sl → Option Sl} {c : M Bool} {f : M EV}
def W0 : WX := fun _ _ _ _ => False
/-- the turns of the block -/
theorem comp_turns {K : PySem.W.Frag} {ex : Addr → Prop} {σ : St} {H0 H1 : Hp} {env env1 envF : Sl} {J : It} {items acc : List D} {Dd : Addr} {vs : List Nat} (g0 : Good K T ex σ H0 env) (s0 : Step K T ex σ H0 env H1 env1) (it : ItOK K T (exO ex σ env1) H1 J items)
    (er : compL vs t c f items [] (wipeE env1 vs) = some (acc, envF)) (hD : H1 Dd = none) {Qd : Hp → Prop}
    (hq : ∀ H' vacc, Step K T ex σ H1 env1 H' envF → Good K T (fun b => ex b ∨ b = Dd) σ H' envF → H' Dd = some (.lst vacc) → RepL K T (fun b => exO ex σ envF b ∨ b = Dd) H' acc vacc → Qd H') :
    ∃ Wv : Nat → Nat → Hp → Prop, (∃ m, Wv 0 m (upd H1 Dd (.lst []))) ∧ ∀ i m H, Wv i m H →
      (J.stop i H ∧ Qd H) ∨ (J.go i H ∧ ∃ Nx : Hp → Prop, (∀ H', Nx H' → ∃ m', m' < m ∧ Wv (i + 1) m' H') ∧ ∀ x H', J.yld i H x H' → trG K T (but vs) t x (wipe σ vs) H' fun σ2 H2 => wipe σ2 vs = wipe σ vs ∧ tr K T relT c W0 σ2 H2 fun b H3 =>
        if b = true then tr K T (relE K T) f W0 σ2 H3 fun y H4 => ∃ acc, H4 Dd = some (.lst acc) ∧ acc.length < sizeLine ∧ Nx (upd H4 Dd (.lst (acc ++ [y]))) else Nx H3) := by
  -- the state between two turns
  let Inv := fun (i : Nat) (Hi : Hp) => ∃ acci envi vacc, compL vs t c f (items.drop i) acci envi = some (acc, envF) ∧ Step K T (fun b => ex b ∨ b = Dd) σ H1 env1 Hi envi ∧ Hi Dd = some (.lst vacc) ∧
    RepL K T (fun b => exO ex σ envi b ∨ b = Dd) Hi acci vacc ∧ acci.length ≤ i ∧ ∃ e0, envi = wipeE e0 vs
  have gd1 := s0.gd
  refine ⟨fun i m Hi => m = items.length - i ∧ i ≤ items.length ∧ Inv i Hi, ⟨items.length, by simp, Nat.zero_le _, [], wipeE env1 vs, [], by simpa using er, ?_, upd_same, .nil, Nat.le_refl _, env1, rfl⟩, ?_⟩
  · have gw : Good K T ex σ H1 (wipeE env1 vs) := gd1.wipe rfl fun _ _ => rfl
    refine ⟨fun b o e _ _ => ext_new hD b o e, fun b e => ?_, fun i c e => ?_, gw.more hD (ext_new hD) (by rw [upd_same]; exact fun z => nomatch z)⟩
    · cases q : H1 b with
      | none => exact absurd q e
      | some o => rw [ext_new hD b o q]; exact fun z => nomatch z
    · rcases wipeE_get e with e | ⟨_, e⟩
      · cases e
      · exact ⟨c, e⟩
  · rintro i m Hi ⟨rfl, hi, acci, envi, vacc, e, s, eD, ra, hai, e0, ew⟩
    have keep : Keep (exO ex σ env1) H1 Hi := fun b o n q => s.fr b o q fun z => n (.inr z)
    by_cases hlt : i < items.length
    case neg =>
      have ei : i = items.length := by omega
      subst ei
      rw [List.drop_length] at e
      cases e
      exact .inl ⟨it.stop Hi keep, hq Hi vacc ⟨s.fr, s.dm, s.sb, s.gd.less⟩ s.gd eD ra⟩
    case pos =>
    refine .inr ⟨it.go i Hi hlt keep, fun H' => ∃ m', m' < items.length - i ∧ m' = items.length - (i + 1) ∧ i + 1 ≤ items.length ∧ Inv (i + 1) H', fun H' ⟨m', h1, h2, h3, h4⟩ => ⟨m', h1, h2, h3, h4⟩, fun x H' y => ?_⟩
    have hd : items.drop i = items[i] :: items.drop (i + 1) := List.drop_eq_getElem_cons hlt
    rw [hd] at e
    unfold compL at e
    obtain ⟨ext, rep⟩ := it.yld i Hi x H' items[i] (List.getElem?_eq_getElem hlt) keep y
    cases q1 : t items[i] envi with
    | none => rw [q1] at e; cases e
    | some e1 =>
    rw [q1] at e
    dsimp only at e
    have gi := s.gd.ext ext
    -- in the block
    have σw : ∀ j, j ∉ vs → σ[j]? = (wipe σ vs)[j]? := fun j hj => (wipe_out hj).symm
    have gb : Good K T (fun b => ex b ∨ b = Dd) (wipe σ vs) H' envi := by
      have := gi.wipe (vs := vs) (σ := wipe σ vs) (wipe_length σ vs).symm σw
      rw [ew] at this ⊢
      have idem : wipeE (wipeE e0 vs) vs = wipeE e0 vs := by
        refine List.ext_getElem? fun j => ?_
        cases q : (wipeE (wipeE e0 vs) vs)[j]? with
        | none => rw [List.getElem?_eq_none_iff, wipeE_len] at q; rw [List.getElem?_eq_none q]
        | some sl =>
          rcases wipeE_get q with z | ⟨_, z⟩
          · subst z
            cases q2 : (wipeE e0 vs)[j]? with
            | none => rw [List.getElem?_eq_none_iff, ← wipeE_len (wipeE e0 vs) vs] at q2; rw [List.getElem?_eq_none q2] at q; cases q
            | some s2 =>
              rcases wipeE_get q2 with z | ⟨hj, _⟩
              · rw [z]
              · have : ∀ {vs : List Nat} {env : Sl}, j ∉ vs → (wipeE env vs)[j]? = env[j]? := by
                  intro vs
                  induction vs with
                  | nil => intro env _; rfl
                  | cons v vs ih =>
                    intro env h
                    simp only [List.mem_cons, not_or] at h
                    unfold wipeE
                    rw [List.getElem?_set_ne (Ne.symm h.1)]
                    exact ih h.2
                rw [this hj, q2] at q
                exact q.symm ▸ rfl
          · exact z.symm
      rw [idem] at this
      exact this
    have rd : Rep K T (exO (fun b => ex b ∨ b = Dd) (wipe σ vs) envi) H' items[i] x := by
      refine rep _ (fun b o nb q z => ?_) (fun b z => ?_)
      · rcases z with (z | z) | z
        · exact nb (.inl z)
        · subst z; rw [hD] at q; cases q
        · refine nb (.inr (s.owns ?_))
          obtain ⟨j, c', f1, f2⟩ := z
          exact ⟨j, c', f1, (wipe_some f2).1⟩
      · have : exO (fun b => ex b ∨ b = Dd) σ envi b := by
          rcases z with z | ⟨j, c', f1, f2⟩
          · exact .inl z
          · exact .inr ⟨j, c', f1, (wipe_some f2).1⟩
        exact s.gd.dm b this
    refine ⟨fun b => ex b ∨ b = Dd, envi, _, e1, gb, rd, q1, fun σ2 H2 s2 => ?_⟩
    have par2 : ∀ j, j ∉ vs → σ2[j]? = (wipe σ vs)[j]? := fun j hj => s2.par j (by unfold but; simp [hj])
    have hw2 : wipe σ2 vs = wipe σ vs := by
      have h1 := wipe_eq (vs := vs) s2.ln par2
      rw [h1]
      exact wipe_eq (wipe_length σ vs) fun j hj => wipe_out hj
    refine ⟨hw2, ?_⟩
    have par3 : ∀ j, j ∉ vs → σ2[j]? = σ[j]? := fun j hj => (par2 j hj).trans (wipe_out hj)
    have ln3 : σ2.length = σ.length := s2.ln.trans (wipe_length σ vs)
    -- what the block leaves
    have ownb : ∀ {a}, Owns (wipe σ vs) envi a → Owns σ env1 a := fun ⟨j, c', f1, f2⟩ => s.owns ⟨j, c', f1, (wipe_some f2).1⟩
    have fin : ∀ {H3 : Hp} {e3 : Sl}, Step K T (fun b => ex b ∨ b = Dd) σ2 H2 e1 H3 e3 → (∀ b o, H1 b = some o → ¬ Owns σ env1 b → NT o → H3 b = some o) ∧ (∀ b, H1 b ≠ none → H3 b ≠ none) ∧
        (∀ (j : Nat) (c' : OC), (wipeE e3 vs)[j]? = some (.own c') → ∃ c', env1[j]? = some (.own c')) ∧ Good K T (fun b => ex b ∨ b = Dd) σ H3 (wipeE e3 vs) ∧ ∃ vb, H3 Dd = some (.lst vacc) ∧ RepL K T (fun b => exO ex σ (wipeE e3 vs) b ∨ b = Dd) H3 acci vb ∧ vb = vacc := fun {H3 e3} s3 => by
      have own3 : ∀ {a}, Owns σ2 e3 a → Owns (wipe σ vs) envi a ∨ H' a = none := fun z => s2.owns (s3.owns z)
      have frD : ∀ b o, H' b = some o → ¬ Owns (wipe σ vs) envi b → NT o → H3 b = some o := fun b o q n nt => s3.fr b o (s2.fr b o q n nt) (fun z => (s2.owns z).elim n fun z => by rw [z] at q; cases q) nt
      have nD : ¬ Owns (wipe σ vs) envi Dd := fun z => (gb.owned z).2 (.inr rfl)
      refine ⟨fun b o q n nt => frD b o (ext b o (s.fr b o q n nt)) (fun z => n (ownb z)) nt, fun b q => s3.dm b (s2.dm b ?_), fun j c' q => ?_, s3.gd.wipe ln3 par3, vacc, frD Dd _ (ext Dd _ eD) nD (fun _ z => nomatch z), ?_, rfl⟩
      · have := s.dm b q
        intro z
        cases w : Hi b with
        | none => exact this w
        | some o => rw [ext b o w] at z; cases z
      · rcases wipeE_get q with z | ⟨hj, z⟩
        · cases z
        · obtain ⟨c1, z1⟩ := s3.sb j c' z
          obtain ⟨c2, z2⟩ := s2.sbp j c1 (by unfold but; simp [hj]) z1
          exact s.sb j c2 z2
      · refine ra.monoT fun b o n q => ⟨fun z => ?_, frD b o (ext b o q) fun z => ?_⟩
        · rcases z with (z | z) | z
          · exact n (.inl (.inl z))
          · rcases own3 (owns_wipe par3 z) with z | z
            · obtain ⟨j, c', f1, f2⟩ := z
              exact n (.inl (.inr ⟨j, c', f1, (wipe_some f2).1⟩))
            · rw [ext b o q] at z; cases z
          · exact n (.inr z)
        · obtain ⟨j, c', f1, f2⟩ := z
          exact n (.inl (.inr ⟨j, c', f1, (wipe_some f2).1⟩))
    refine ⟨fun b => ex b ∨ b = Dd, e1, s2.gd, ?_⟩
    cases q2 : c e1 with
    | none => rw [q2] at e; cases e
    | some rc =>
    rw [q2] at e
    refine ⟨rc, rfl, ?_⟩
    cases rc with
    | exc x e2 => cases e
    | ok k e2 =>
    intro k' H3 s3 ek
    have ek : k' = k := ek
    subst ek
    cases k' with
    | false =>
      dsimp only at e
      refine iteF ?_
      obtain ⟨f1, f2, f3, f4, vb, f5, f6, f7⟩ := fin s3
      subst f7
      exact ⟨_, by omega, rfl, hlt, acci, _, vb, e, ⟨f1, f2, f3, f4⟩, f5, f6, by omega, e2, rfl⟩
    | true =>
      dsimp only at e
      refine iteT ⟨fun b => ex b ∨ b = Dd, e2, s3.gd, ?_⟩
      cases q3 : f e2 with
      | none => rw [q3] at e; cases e
      | some rf =>
      rw [q3] at e
      refine ⟨rf, rfl, ?_⟩
      cases rf with
      | exc x e3 => cases e
      | ok ev e3 =>
      intro yv H4 s4 rv
      dsimp only at e
      cases q4 : frz ev with
      | none => rw [q4] at e; cases e
      | some xd =>
      rw [q4] at e
      dsimp only at e
      have rd := RepE.frz s3.gd s4 rv q4
      obtain ⟨f1, f2, f3, f4, vb, f5, f6, f7⟩ := fin (s3.trans s4)
      subst f7
      have hlen := f6.length
      have hil := it.len
      refine ⟨vb, f5, by omega, _, by omega, rfl, hlt, acci ++ [xd], wipeE e3 vs, vb ++ [yv], e, ⟨fun b o q n nt => ?_, fun b q => ?_, f3, ?_⟩, upd_same, ?_, by simp; omega, e3, rfl⟩
      · rw [upd_ne (fun z => by subst z; rw [hD] at q; cases q)]
        exact f1 b o q n nt
      · by_cases z : b = Dd
        · subst z; rw [upd_same]; exact fun z => nomatch z
        · rw [upd_ne z]; exact f2 b q
      · refine f4.chg (fun b o n q => ?_) (fun b z => ?_) (tabs_upd f4.tb f5 (fun _ z => nomatch z) (fun _ z => nomatch z))
        · rw [upd_ne (fun z => n (.inr z))]; exact q
        · by_cases w : b = Dd
          · subst w; rw [upd_same]; exact fun z => nomatch z
          · rw [upd_ne w]; exact f4.dom b z
      · have rd' : Rep K T (fun b => exO ex σ (wipeE e3 vs) b ∨ b = Dd) H4 xd yv := rd.mono fun b o n q => ⟨fun z => n (by
          rcases z with (z | z) | z
          · exact .inl (.inl z)
          · exact .inr (owns_wipe par3 z)
          · exact .inl (.inr z)), q⟩
        refine (f6.append (RepL.one rd')).mono fun b o n q => ⟨n, ?_⟩
        rw [upd_ne (fun z => n (.inr z))]; exact q

theorem qe_comp (hc : X.calm = true) (hN : X.N.Nodup) (hi : QI T X tg iter fi) (ok : BlkOk X.N X.env.scope scope own)
    (hg : Blk X scope fun Y => QG T Y (but (own.map (·.2))) tg t) (ht : Blk X scope fun Y => QTs T Y ifs c) (he : Blk X scope fun Y => QE T Y elt f) (hs : ∀ x, foldedSetIterable iter X.env x = pure x := by intro _; rfl) :
    QE T X (.ListComp elt [⟨tg, iter, ifs, 0⟩] scope pos) (eComp (own.map (·.2)) fi t c f) := fun pn xe W tk hp => by
  refine impE (pe_lc (X := X.tr pn xe) (g := trG X.K T (but (own.map (·.2))) t) (tt := tr X.K T relT c W0) (te := tr X.K T (relE X.K T) f W0) hc hN (hi pn xe W tk hp) ok (fun s H C cl fp => hg s H C cl fp [] fun _ _ => False) (fun s H C cl fp => ht s H C cl fp [] (fun _ _ => False) W0 takes0 .never)
    (fun s H C cl fp => he s H C cl fp [] (fun _ _ => False) W0 takes0 .never) hs) fun σ H Q q => ?_
  obtain ⟨ex, env, q⟩ := q
  have g0 := q.1
  refine ⟨ex, env, (trx_bind (relI X.K T) rmE q).mono fun J H1 ⟨items, env1, s0, it, q⟩ D hD => ?_⟩
  obtain ⟨g1, r, er, o⟩ := q
  dsimp only at er
  cases w : compL (own.map (·.2)) t c f items [] (wipeE env1 (own.map (·.2))) with
  | none => rw [w] at er; cases er
  | some p =>
    obtain ⟨acc, envF⟩ := p
    rw [w] at er
    cases er
    exact comp_turns (Qd := fun H' => Q (.ref D) H') g0 s0 it w hD fun H' vacc s gD eD ra => o (.ref D) H' s ⟨D, rfl, hD, ⟨vacc, eD, ra⟩, gD⟩
end
end Dt
end
section
set_option maxRecDepth 100000
set_option maxHeartbeats 4000000
/-! QI: what is owned is changed; fields; methods; objects made; raise, try. -/
namespace Dt
open PySem PySem.Spec
open L2 hiding passL ps_try_many HdsOk takes0 XE Takes CX takes_of passes_call PMk MkP ps_raise mk_of ps_try_as pmk_own
open L2N hiding St
open PyProof.Rows hiding St

section
variable {K : PySem.W.Frag} {T : Tab} {ex : Addr → Prop} {σ : St} {H H' : Hp} {env env' : Sl}
theorem Good.mut (g : Good K T ex σ H env) {i : Nat} {c c' : OC} {a : Addr} {o : HO} (e : env[i]? = some (.own c)) (ea : σ[i]? = some (some (V.ref a))) (r : RepO K T (exO ex σ env) (upd H a o) a c') :
    Step K T ex σ H env (upd H a o) (env.set i (.own c')) ∧ ∀ b, exO ex σ (env.set i (.own c')) b ↔ exO ex σ env b := by
  have hi : i < env.length := (List.getElem?_eq_some_iff.mp e).1
  have ow : ∀ {b}, Owns σ (env.set i (.own c')) b ↔ Owns σ env b := fun {b} => by
    constructor
    · rintro ⟨j, d, e1, e2⟩
      rcases set_get e1 with ⟨h, _, _⟩ | ⟨_, h⟩
      · subst h; exact ⟨j, c, e, e2⟩
      · exact ⟨j, d, h, e2⟩
    · rintro ⟨j, d, e1, e2⟩
      by_cases h : j = i
      · subst h; exact ⟨j, c', List.getElem?_set_self hi, e2⟩
      · exact ⟨j, d, by rw [List.getElem?_set_ne (Ne.symm h)]; exact e1, e2⟩
  have exq : ∀ b, exO ex σ (env.set i (.own c')) b ↔ exO ex σ env b := fun b => or_congr Iff.rfl ow
  have ex2 : exO ex σ (env.set i (.own c')) = exO ex σ env := funext fun b => propext (exq b)
  have oa : Owns σ env a := ⟨i, c, e, ea⟩
  have mo : ∀ b u, ¬ exO ex σ env b → H b = some u → ¬ exO ex σ env b ∧ upd H a o b = some u := fun b u n q => ⟨n, by rw [upd_ne (fun z => n (by rw [z]; exact .inr oa))]; exact q⟩
  refine ⟨⟨fun b u q n _ => by rw [upd_ne (fun z => n (by rw [z]; exact oa))]; exact q, fun b q => ?_, fun j d q => ?_, ⟨by rw [List.length_set]; exact g.len, fun j d q => ?_, fun j d q => ?_, fun j k b d d' q1 q2 q3 q4 => ?_, fun b h => ?_, (let ⟨_, e1, _, rr⟩ := g.own i c e; by rw [ea] at e1; cases e1; exact rr.tabs g.tb)⟩⟩, exq⟩
  · by_cases z : b = a
    · subst z; rw [upd_same]; exact fun w => nomatch w
    · rw [upd_ne z]; exact q
  · rcases set_get q with ⟨h, _, _⟩ | ⟨_, h⟩
    · subst h; exact ⟨c, e⟩
    · exact ⟨d, h⟩
  · rcases set_get q with ⟨_, h, _⟩ | ⟨_, h⟩
    · cases h
    · obtain ⟨v, e1, rr⟩ := g.val j d h
      rw [ex2]
      exact ⟨v, e1, rr.mono mo⟩
  · rw [ex2]
    rcases set_get q with ⟨h1, h, _⟩ | ⟨h1, h⟩
    · cases h; subst h1
      obtain ⟨b, e1, n, _⟩ := g.own j c e
      rw [ea] at e1; cases e1
      exact ⟨a, ea, n, r⟩
    · obtain ⟨b, e1, n, rr⟩ := g.own j d h
      refine ⟨b, e1, n, rr.mono (upd_ne fun z => ?_) mo⟩
      subst z
      exact h1 (g.inj j i b d c h e e1 ea)
  · have f1 : ∃ d, env[j]? = some (.own d) := by
      rcases set_get q1 with ⟨h, _, _⟩ | ⟨_, h⟩
      · subst h; exact ⟨c, e⟩
      · exact ⟨d, h⟩
    have f2 : ∃ d, env[k]? = some (.own d) := by
      rcases set_get q2 with ⟨h, _, _⟩ | ⟨_, h⟩
      · subst h; exact ⟨c, e⟩
      · exact ⟨d', h⟩
    obtain ⟨x1, y1⟩ := f1
    obtain ⟨x2, y2⟩ := f2
    exact g.inj j k b x1 x2 y1 y2 q3 q4
  · by_cases z : b = a
    · subst z; rw [upd_same]; exact fun w => nomatch w
    · rw [upd_ne z]; exact g.dom b h
end

/-! ### methods of lists that a slot owns -/
def ownLst : Option Slot → Bool
  | some (.own (.lst _)) => true
  | _ => false
def mutM (op : List D → List D → Option (D × List D)) (i : Nat) (fs : M (List AV)) : M EV := fun env => if ownLst env[i]? = true then (M.bind fs fun as => fun env => match env[i]? with
  | some (.own (.lst xs)) => (vals as).bind fun ds => (op xs ds).bind fun p => some (.ok (.v p.1) (env.set i (.own (.lst p.2))))
  | _ => none) env else none
/-- what a method does by its data: r is the layer's reading -/
def Muts (K : PySem.W.Frag) (op : List D → List D → Option (D × List D)) (r : V → List V → Hp → VK → Prop) : Prop := ∀ (T : Tab) (ex : Addr → Prop) (H : Hp) (a : Addr) (xs : List D) (ws : List V) (ds : List D) (vs : List V) (d : D) (ys : List D) (Q : VK), ex a → H a = some (.lst ws) → RepL K T ex H xs ws → RepL K T ex H ds vs → op xs ds = some (d, ys) →
  (∀ v ws', RepL K T ex H ys ws' → Rep K T ex H d v → Q v (upd H a (.lst ws'))) → r (.ref a) vs H Q
section
variable {T : Tab} {X : Cx} {e : Expr} {es : List Expr} {x name : Str} {p apos pos : Pos} {id : String} {op : List D → List D → Option (D × List D)} {r : V → List V → Hp → VK → Prop} {fs : M (List AV)}
theorem mut_end {K : PySem.W.Frag} {ex : Addr → Prop} {σ : St} {H1 : Hp} {env1 : Sl} {W : WX} {Q : VK} {i : Nat} {as : List AV} {vs : List V} (hop : Muts K op r) (ra : Paired (fun a v => RepA K T ex σ env1 H1 v a) as vs)
    (q : trx K T (relE K T) ex (fun env => match env[i]? with
      | some (.own (.lst xs)) => (vals as).bind fun ds => (op xs ds).bind fun p => some (.ok (.v p.1) (env.set i (.own (.lst p.2))))
      | _ => none) env1 W σ H1 Q) : ∃ a, σ[i]? = some (some (V.ref a)) ∧ r (.ref a) vs H1 Q := by
  obtain ⟨g1, rr, er, o⟩ := q
  dsimp only at er
  cases w : env1[i]? with
  | none => rw [w] at er; cases er
  | some sl =>
    rw [w] at er
    cases sl with
    | emp => cases er
    | val d => cases er
    | own c =>
      cases c with
      | dic _ _ => cases er
      | ins _ _ => cases er
      | lst xs =>
        obtain ⟨ds, e1, er⟩ := opt_bind er
        obtain ⟨⟨d, ys⟩, e2, er⟩ := opt_bind er
        cases er
        obtain ⟨a, ea, n, ws, ha, rw'⟩ := g1.own i _ w
        have exa : exO ex σ env1 a := .inr ⟨i, _, w, ea⟩
        refine ⟨a, ea, hop T _ H1 a xs ws ds vs d ys Q exa ha rw' (vals_rep ra e1) e2 fun v ws' r1 r2 => ?_⟩
        have mo : ∀ b u, ¬ exO ex σ env1 b → H1 b = some u → ¬ exO ex σ env1 b ∧ upd H1 a (.lst ws') b = some u := fun b u n q => ⟨n, by rw [upd_ne (fun z => n (by rw [z]; exact exa))]; exact q⟩
        obtain ⟨st, exq⟩ := g1.mut (o := .lst ws') (c' := .lst ys) w ea ⟨ws', upd_same, r1.mono mo⟩
        exact o v _ st (Rep.mono (fun b u n q => ⟨fun z => n ((exq b).mp z), (mo b u n q).2⟩) r2)
theorem qe_mut (i : Nat) (slot : PySem.Slot "list" name id) (hty : typeOf (.builtin id) = pure (.type "method_descriptor")) (hm : ∀ pn xe, MtR (X.tr pn xe) id r) (hop : Muts X.K op r) (ha : QAs T X (e :: es) fs)
    (hN : X.N[i]? = some x := by rfl) (hv : Vis X.env.scope x := by first | exact Or.inl rfl | exact Or.inr (Or.inl rfl) | exact Or.inr (Or.inr rfl))
    (hbase : attributeBase (.Name x p) name X.env (eval (.Name x p) X.env) = eval (.Name x p) X.env := by rfl)
    (hfew : ((backTo pos (starEach (e :: es) X.env)).all (fun x => !x.1) && (backToKw pos (keywordEach [] X.env)).all (fun x => x.1.isSome)
      && decide ((e :: es).length + ([] : List Keyword).length + (if ([] : List Keyword).isEmpty then 0 else 1) < 30)) = true := by rfl)
    (hline : (apos.endLine == pos.line) = true := by rfl) (hs : starEach (e :: es) X.env = (false, eval e X.env) :: starEach es X.env := by rfl) (hplain : (backTo pos (starEach es X.env)).any (·.1) = false := by rfl)
    (hd : (x == ("__debug__" : Str)) = false := by decide) (hcd : (x == ("__classdict__" : Str)) = false := by decide) : QE T X (.Call (.Attribute (.Name x p) name apos) (e :: es) [] pos) (mutM op i fs) := fun pn xe W tk hp => by
  refine impE (pe_bm (X := X.tr pn xe) PySem.F.plainAttrs_list slot hty (hm pn xe) (pe_var hN hv hd hcd) (ha pn xe W tk hp) hbase hfew hline hs hplain) fun σ H Q ⟨ex, env, g, rr, er, o⟩ => ?_
  unfold mutM at er
  cases w : env[i]? with
  | none => rw [w] at er; cases er
  | some sl =>
    rw [w] at er
    cases sl with
    | emp => cases er
    | val d => cases er
    | own c =>
      cases c with
      | dic _ _ => cases er
      | ins _ _ => cases er
      | lst xs =>
        rw [show ownLst (some (Slot.own (OC.lst xs))) = true from rfl, if_pos rfl] at er
        obtain ⟨a, ea, n, ws, ha', _⟩ := g.own i _ w
        refine ⟨.ref a, ea, .inl ⟨rfl, _, .inl (.inl ha')⟩, ex, env, (trx_bind (relAs X.K T) rmE ⟨g, rr, er, o⟩).mono fun vs H1 ⟨as, env1, s, ra, q⟩ => ?_⟩
        obtain ⟨b, eb, hr⟩ := mut_end hop ra q
        rw [ea] at eb; cases eb
        exact hr
end
def opAppend : List D → List D → Option (D × List D) := fun xs ds => match ds with
  | [d] => if xs.length < 1000000 then some (.non, xs ++ [d]) else none
  | _ => none
def opExtend : List D → List D → Option (D × List D) := fun xs ds => match ds with
  | [.lst ys] => if xs.length + ys.length ≤ 1000000 then some (.non, xs ++ ys) else none
  | _ => none
def opPop : List D → List D → Option (D × List D) := fun xs ds => match ds with
  | [] => xs[xs.length - 1]?.map fun d => (d, xs.dropLast)
  | [.int i] => if 0 ≤ i ∧ i < 1000000 then xs[i.toNat]?.map fun d => (d, xs.eraseIdx i.toNat) else none
  | _ => none
theorem RepL.dropLast {K : PySem.W.Frag} {T : Tab} {ex : Addr → Prop} {H : Hp} {ds : List D} {vs : List V} (r : RepL K T ex H ds vs) : RepL K T ex H ds.dropLast vs.dropLast := by
  rw [List.dropLast_eq_take, List.dropLast_eq_take, r.length]
  exact r.take _
theorem muts_append {K : PySem.W.Frag} : Muts K opAppend rAppend := by
  intro T ex H a xs ws ds vs d ys Q ha hH rx rd e k
  unfold opAppend at e
  split at e
  · rename_i d'
    split at e
    · rename_i hl
      cases e
      obtain ⟨v, vr, ev, r1, r2⟩ := rd
      have : vr = [] := r2
      subst this ev
      have := rx.length
      exact ⟨a, ws, v, rfl, rfl, hH, by rw [sizeLine_eq]; omega, k .non _ (rx.append (RepL.one r1)) rfl⟩
    · cases e
  · cases e
theorem muts_extend {K : PySem.W.Frag} : Muts K opExtend rExtend := by
  intro T ex H a xs ws ds vs d ys Q ha hH rx rd e k
  unfold opExtend at e
  split at e
  · rename_i zs
    split at e
    · rename_i hl
      cases e
      obtain ⟨v, vr, ev, ⟨b, us, e1, n, hb, r1⟩, r2⟩ := rd
      have : vr = [] := r2
      subst this ev e1
      have := rx.length
      have := r1.length
      exact ⟨a, b, ws, us, rfl, rfl, hH, hb, by rw [sizeLine_eq]; omega, k .non _ (rx.append r1) rfl⟩
    · cases e
  · cases e
def rPopBoth : V → List V → Hp → VK → Prop := fun x vs H Q => rPop x vs H Q ∨ rPopAt x vs H Q
theorem muts_pop {K : PySem.W.Frag} : Muts K opPop rPopBoth := by
  intro T ex H a xs ws ds vs d ys Q ha hH rx rd e k
  unfold opPop at e
  have hl := rx.length
  split at e
  · have ev : vs = [] := rd
    subst ev
    cases q : xs[xs.length - 1]? with
    | none => rw [q] at e; cases e
    | some d' =>
      rw [q] at e; cases e
      obtain ⟨v, e1, r1⟩ := rx.get q
      exact .inl ⟨a, ws, v, rfl, rfl, hH, by rw [← hl]; exact e1, k v _ rx.dropLast r1⟩
  · rename_i i
    split at e
    · rename_i hi
      obtain ⟨v, vr, ev, r1, r2⟩ := rd
      have : vr = [] := r2
      subst this ev
      have r1 : v = .int i := r1
      subst r1
      cases q : xs[i.toNat]? with
      | none => rw [q] at e; cases e
      | some d' =>
        rw [q] at e; cases e
        obtain ⟨v, e1, r1⟩ := rx.get q
        have h1 := (List.getElem?_eq_some_iff.mp e1).1
        exact .inr ⟨a, ws, i, i.toNat, v, rfl, rfl, hH, by omega, by omega, PySem.StrLaws.seqIndex_nonneg hi.1 (by omega), e1, k v _ (rx.erase _) r1⟩
    · cases e
  · cases e
theorem mt_popB {X : Cx} : MtR X "list.pop" rPopBoth := by
  intro pins s σ H x xs v us Q I rx rxs h
  rcases h with h | h
  · exact mt_pop pins s σ H x xs v us Q I rx rxs h
  · exact mt_popAt pins s σ H x xs v us Q I rx rxs h

/-! ### x[i] = e -/
def keyD : D → Option Key
  | .int i => some (.inl i)
  | .str s => some (.inr (mkS s))
  | _ => none
def dicPut (ks : List Key) (vs : List D) (k : Key) (d : D) : List Key × List D := match ks, vs with
  | a :: ks, v :: vs => if a = k then (a :: ks, d :: vs) else (a :: (dicPut ks vs k d).1, v :: (dicPut ks vs k d).2)
  | _, _ => ([k], [d])
def atV (f : M AV) {α : Type} (k : D → M α) : M α := M.bind f fun a => match a with
  | .v d => k d
  | .s _ => M.stuck
def setLM (x : Nat) (d : D) (kd : D) : M Unit := fun env => match kd, env[x]? with
  | .int k, some (.own (.lst xs)) => (ixN xs.length k).bind fun j => some (.ok () (env.set x (.own (.lst (xs.set j d)))))
  | _, _ => none
def setDM (x : Nat) (d : D) (kd : D) : M Unit := fun env => match env[x]? with
  | some (.own (.dic ks vs)) => (keyD kd).bind fun k => if ks.length < 1000000 ∧ ks.length = vs.length ∧ ks.Nodup then some (.ok () (env.set x (.own (.dic (dicPut ks vs k d).1 (dicPut ks vs k d).2)))) else none
  | _ => none
def grd {α : Type} (x : Nat) (m : M α) : M α := fun env => if isOwn env[x]? = true then m env else none
def sSetL (x : Nat) (fe fi : M AV) : S := sE (atV fe fun d => grd x (atV fi fun kd => setLM x d kd)) fun _ env => some (.nx env)
def sSetD (x : Nat) (fe fi : M AV) : S := sE (atV fe fun d => grd x (atV fi fun kd => setDM x d kd)) fun _ env => some (.nx env)
def relU : Rl V Unit := fun _ _ _ _ _ _ _ => True
theorem rmU : RM relU := fun _ _ _ _ _ _ _ _ _ r => r
section
variable {K : PySem.W.Frag} {T : Tab} {ex : Addr → Prop} {σ : St} {H H' : Hp} {env : Sl} {W : WX}
theorem trx_atV {α γ : Type} {rel : Rl γ α} (hm : RM rel) {f : M AV} {k : D → M α} {Q : γ → Hp → Prop} (h : trx K T rel ex (atV f k) env W σ H Q) :
    trx K T (relA K T) ex f env W σ H fun v H1 => ∃ d env1, Step K T ex σ H env H1 env1 ∧ Rep K T (exO ex σ env1) H1 d v ∧ trx K T rel ex (k d) env1 W σ H1 Q := by
  refine (trx_bind (relA K T) hm h).mono fun v H1 ⟨a, env1, s, r, q⟩ => ?_
  cases a with
  | s i => obtain ⟨_, _, e, _⟩ := q; cases e
  | v d => exact ⟨d, env1, s, r, q⟩
theorem trx_grd {α γ : Type} {rel : Rl γ α} {x : Nat} {m : M α} {Q : γ → Hp → Prop} (h : trx K T rel ex (grd x m) env W σ H Q) : (∃ a, σ[x]? = some (some (V.ref a))) ∧ trx K T rel ex m env W σ H Q := by
  obtain ⟨g, r, e, o⟩ := h
  unfold grd at e
  by_cases q : isOwn env[x]? = true
  · rw [if_pos q] at e
    cases w : env[x]? with
    | none => rw [w] at q; cases q
    | some sl =>
      rw [w] at q
      cases sl with
      | own c => obtain ⟨a, ea, _⟩ := g.own x c w; exact ⟨⟨a, ea⟩, g, r, e, o⟩
      | _ => cases q
  · rw [if_neg q] at e; cases e
theorem dicPut_put : ∀ {ks : List Key} {vs : List D} {ws : List V} {k : Key} {d : D} {v : V}, RepL K T ex H vs ws → Rep K T ex H d v → ks.length = vs.length → ks.Nodup →
    ∃ ws', putK (ks.zip ws) k v = (dicPut ks vs k d).1.zip ws' ∧ (dicPut ks vs k d).1.length = ws'.length ∧ RepL K T ex H (dicPut ks vs k d).2 ws'
  | [], [], _, k, d, v, r, rd, _, _ => by
    have e : _ = [] := r
    subst e
    exact ⟨[v], by simp [putK, dicPut], rfl, RepL.one rd⟩
  | [], _ :: _, _, _, _, _, _, _, hl, _ => by simp at hl
  | _ :: _, [], _, _, _, _, _, _, hl, _ => by simp at hl
  | a :: ks, x :: vs, _, k, d, v, ⟨u, ur, e, r1, r2⟩, rd, hl, nd => by
    subst e
    have nd' := List.nodup_cons.mp nd
    have hl' : ks.length = vs.length := by simpa using hl
    have hlu := r2.length
    by_cases h : a = k
    · subst h
      refine ⟨v :: ur, ?_, by simp [dicPut]; omega, by simp only [dicPut, if_pos]; exact ⟨v, ur, rfl, rd, r2⟩⟩
      simp only [dicPut, if_pos, List.zip_cons_cons, putK, List.any_cons, decide_true, Bool.true_or, List.map_cons]
      congr 1
      have : ∀ p ∈ ks.zip ur, ¬ p.1 = a := fun p hp z => nd'.1 (by subst z; exact (List.of_mem_zip hp).1)
      have me : (ks.zip ur).map (fun kv => if kv.1 = a then (kv.1, v) else kv) = (ks.zip ur).map id := List.map_congr_left fun p hp => if_neg (this p hp)
      rw [me, List.map_id]
    · obtain ⟨ws', h1, h2, h3⟩ := dicPut_put (k := k) (d := d) (v := v) r2 rd hl' nd'.2
      refine ⟨u :: ws', ?_, by simp only [dicPut, if_neg h, List.length_cons]; omega, by simp only [dicPut, if_neg h]; exact ⟨u, ws', rfl, r1, h3⟩⟩
      simp only [dicPut, if_neg h, List.zip_cons_cons]
      rw [← h1]
      unfold putK
      simp only [List.any_cons, decide_eq_false h, Bool.false_or, List.map_cons, if_neg h]
      split <;> simp
end
section
variable {T : Tab} {X : Cx} {np : Nat → Bool} {o i e : Expr} {x : Str} {p pos pos' : Pos} {fe fi : M AV}
theorem qs_setL (n : Nat) (he : QO T X e fe) (hi : QO T X i fi) (hN : X.N[n]? = some x := by rfl) (hv : Vis X.env.scope x := by first | exact Or.inl rfl | exact Or.inr (Or.inl rfl) | exact Or.inr (Or.inr rfl))
    (ha : ∀ v, assign (.Subscript (.Name x p) i pos') X.env v = (do
      let ov ← holding [v] (eval (.Name x p) X.env)
      let iv ← holding [v, ov] (eval i X.env)
      standAt pos'
      holding [v, ov, iv] (setItem ov iv v)
      release [v, ov, iv] []) := by intro _; rfl) (hs : swapsWithSole [.Subscript (.Name x p) i pos'] e pos.line X.env = pure false := by rfl) (hw : swappedStores [.Subscript (.Name x p) i pos'] e X.env = pure none := by rfl)
    (h1 : (assignEach [.Subscript (.Name x p) i pos'] X.env).map (·.2) = [assign (.Subscript (.Name x p) i pos') X.env] := by rfl)
    (hd : (x == ("__debug__" : Str)) = false := by decide) (hcd : (x == ("__classdict__" : Str)) = false := by decide) : QS T X np (.Assign [.Subscript (.Name x p) i pos'] e pos) (sSetL n fe fi) := fun pn xe W tk hp => by
  refine impS (ps_asg (X := X.tr pn xe) (he pn xe W tk hp) (pg_sub (pe_var hN hv hd hcd) (hi pn xe W tk hp) set_list ha) hs hw h1) fun D σ H q => ?_
  obtain ⟨ex, env, z⟩ := trS_expr q relU
  refine ⟨ex, env, (trx_atV rmU z).mono fun v H1 ⟨d, env1, s1, r1, z⟩ => ?_⟩
  obtain ⟨⟨a0, ea0⟩, z⟩ := trx_grd z
  refine ⟨.ref a0, ea0, ex, env1, (trx_atV rmU z).mono fun iv H2 ⟨kd, env2, s2, r2, z⟩ => ?_⟩
  have rd := Rep.step r1 s2
  obtain ⟨g2, rr, er, oo⟩ := z
  unfold setLM at er
  split at er
  · rename_i k xs w
    obtain ⟨j, ej, er⟩ := opt_bind er
    cases er
    obtain ⟨a, ea, n, ws, ha, rw'⟩ := g2.own _ _ w
    rw [ea0] at ea
    cases ea
    have exa : exO ex σ env2 a0 := .inr ⟨_, _, w, ea0⟩
    have mo : ∀ b u, ¬ exO ex σ env2 b → H2 b = some u → ¬ exO ex σ env2 b ∧ upd H2 a0 (.lst (ws.set j v)) b = some u := fun b u n q => ⟨n, by rw [upd_ne (fun z => n (by rw [z]; exact exa))]; exact q⟩
    obtain ⟨st, _⟩ := g2.mut (o := .lst (ws.set j v)) (c' := .lst (xs.set j d)) w ea0 ⟨_, upd_same, (rw'.set j rd).mono mo⟩
    obtain ⟨ex3, env3, H03, env4, u, g3, s3, _, _, r3, e3, o3⟩ := oo .non _ st trivial
    cases e3
    refine ⟨a0, ws, k, j, rfl, r2, ha, by rw [← rw'.length]; exact ej, o3 σ _ s3.s⟩
  · cases er
/-- {} -/
def eDict0 : M EV := M.ret (.o (.dic [] []))
theorem qe_dict0 {pos : Pos} : QE T X (.Dict [] [] pos) eDict0 := fun pn xe W tk hp => impE pe_dnewK fun σ H Q ⟨ex, env, q⟩ p hp => by
  obtain ⟨g, k⟩ := trx_ret q
  exact k _ _ (Step.ext g (ext_new hp)) ⟨p, rfl, hp, ⟨[], upd_same, rfl, .nil⟩, g.more hp (ext_new hp) (by rw [upd_same]; exact fun z => nomatch z)⟩
end
end Dt
end
section
set_option maxRecDepth 100000
set_option maxHeartbeats 4000000
/-! QK: fields, methods, properties, objects made; raise, try. -/
namespace Dt
variable {NG : Prop}
open PySem PySem.Spec
open L2 hiding passL ps_try_many HdsOk takes0 XE Takes CX takes_of passes_call PMk MkP ps_raise mk_of ps_try_as pmk_own
open L2N hiding St
open PyProof.Rows hiding St

theorem FL_nodup (t : Nat) : (FL t).Nodup := by
  unfold FL
  split <;> decide +kernel
theorem zip_lookup {β : Type} : ∀ {l : List Str} {vs : List β} {j : Nat} {f : Str}, l.Nodup → l[j]? = some f → l.length ≤ vs.length → (l.zip vs).lookup f = vs[j]?
  | [], _, j, f, _, h, _ => by simp at h
  | a :: l, [], j, f, _, _, hl => by simp at hl
  | a :: l, v :: vs, 0, f, _, h, _ => by simp at h; subst h; simp [List.lookup]
  | a :: l, v :: vs, j + 1, f, nd, h, hl => by
    have nd' := List.nodup_cons.mp nd
    simp at h
    have ne : (f == a) = false := beq_eq_false_iff_ne.mpr fun z => nd'.1 (z ▸ List.mem_of_getElem? h)
    simp only [List.zip_cons_cons, List.lookup, ne, List.getElem?_cons_succ]
    exact zip_lookup nd'.2 h (by simpa using hl)
theorem zip_lookup_none {β : Type} : ∀ {l : List Str} {vs : List β} {f : Str}, f ∉ l → (l.zip vs).lookup f = none
  | [], _, f, _ => rfl
  | a :: l, [], f, _ => rfl
  | a :: l, v :: vs, f, h => by
    simp only [List.mem_cons, not_or] at h
    have ne : (f == a) = false := beq_eq_false_iff_ne.mpr h.1
    simp only [List.zip_cons_cons, List.lookup, ne]
    exact zip_lookup_none h.2
theorem putF_new {f : Str} {v : V} : ∀ {l : List Str} {vs : List V}, f ∉ l → putF f v (l.zip vs) = l.zip vs ++ [(f, v)]
  | [], _, _ => rfl
  | a :: l, [], _ => rfl
  | a :: l, u :: vs, h => by
    simp only [List.mem_cons, not_or] at h
    simp only [List.zip_cons_cons, putF, if_neg (Ne.symm h.1), List.cons_append]
    rw [putF_new h.2]
theorem putF_set {f : Str} {v : V} : ∀ {l : List Str} {vs : List V} {j : Nat}, l.Nodup → l[j]? = some f → j < vs.length → putF f v (l.zip vs) = l.zip (vs.set j v)
  | [], _, j, _, h, _ => by simp at h
  | a :: l, [], j, _, _, hl => by simp at hl
  | a :: l, u :: vs, 0, _, h, _ => by simp at h; subst h; simp [putF]
  | a :: l, u :: vs, j + 1, nd, h, hl => by
    have nd' := List.nodup_cons.mp nd
    simp at h
    have ne : a ≠ f := fun z => nd'.1 (z ▸ List.mem_of_getElem? h)
    simp only [List.zip_cons_cons, putF, if_neg ne, List.set_cons_succ]
    rw [putF_set nd'.2 h (by simpa using hl)]

/-! ### fields -/
/-- an object's class and its fields so far -/
def objS : Option Slot → Option (Nat × List D)
  | some (.val (.obj t ds)) => some (t, ds)
  | some (.own (.ins t ds)) => some (t, ds)
  | _ => none
def objOf (env : Sl) : AV → Option (Nat × List D)
  | .v (.obj t ds) => some (t, ds)
  | .v _ => none
  | .s i => objS env[i]?
def eFld (fi : Nat → Option Nat) (fa : M AV) : M EV := M.bind fa fun a => fun env => (objOf env a).bind fun p => (fi p.1).bind fun j => lift ((p.2[j]?).map .v) env
section
variable {K : PySem.W.Frag} {T : Tab} {ex : Addr → Prop} {σ : St} {H H' : Hp} {env : Sl} {W : WX}
theorem objOf_ok {a : AV} {v : V} {t : Nat} {ds : List D} (g : Good K T ex σ H env) (r : RepA K T ex σ env H v a) (e : objOf env a = some (t, ds)) :
    ∃ x dx vs, v = .ref x ∧ H x = some (.ins (T.cls t) dx (((FL t).take ds.length).zip vs)) ∧ ds.length ≤ (FL t).length ∧ RepL K T (exO ex σ env) H ds vs := by
  have ob : ∀ {v : V} {t : Nat} {ds : List D}, Rep K T (exO ex σ env) H (.obj t ds) v → ∃ x dx vs, v = .ref x ∧ H x = some (.ins (T.cls t) dx (((FL t).take ds.length).zip vs)) ∧ ds.length ≤ (FL t).length ∧ RepL K T (exO ex σ env) H ds vs := fun {v t ds} ⟨x, dx, vs, e1, n, h, l, r⟩ => by
    have e2 := r.length
    have l : (FL t).length = vs.length := l
    exact ⟨x, dx, vs, e1, by rw [List.take_of_length_le (by omega)]; exact h, by omega, r⟩
  cases a with
  | v d => cases d <;> first | cases e; exact ob r | cases e
  | s i =>
    have e : objS env[i]? = some (t, ds) := e
    have r : σ[i]? = some (some v) := r
    cases q : env[i]? with
    | none => rw [q] at e; cases e
    | some sl =>
      rw [q] at e
      cases sl with
      | emp => cases e
      | val d =>
        obtain ⟨u, e1, h⟩ := g.val i d q
        rw [r] at e1; cases e1
        cases d <;> first | cases e; exact ob h | cases e
      | own c =>
        obtain ⟨x, e1, n, h⟩ := g.own i c q
        rw [r] at e1; cases e1
        cases c with
        | ins t' ds' => cases e; obtain ⟨dx, vs, h1, h2, h3⟩ := h; exact ⟨x, dx, vs, rfl, h1, h2, h3⟩
        | _ => cases e
theorem take_nodup {t n : Nat} : ((FL t).take n).Nodup := (FL_nodup t).sublist (List.take_sublist _ _)
theorem take_at {t n j : Nat} {f : Str} (h : (FL t)[j]? = some f) (hj : j < n) : ((FL t).take n)[j]? = some f := by rw [List.getElem?_take_of_lt hj]; exact h
end
section
variable {T : Tab} {X : Cx} {e : Expr} {f : Str} {pos : Pos} {fa : M AV} {fi : Nat → Option Nat}
theorem qe_fld (h : QO T X e fa) (hf : ∀ t j, fi t = some j → (FL t)[j]? = some f ∧ Cls X.K (T.cls t) ∧ NoAttr X.K (T.cls t) f) (hb : attributeBase e f X.env (eval e X.env) = eval e X.env := by rfl) : QE T X (.Attribute e f pos) (eFld fi fa) := fun pn xe W tk hp => by
  refine impE (pe_fld (X := X.tr pn xe) (h pn xe W tk hp) hb) fun σ H Q ⟨ex, env, q⟩ => ?_
  refine ⟨ex, env, (trx_bind (relA X.K T) rmE q).mono fun v H1 ⟨a, env1, s, ra, q⟩ => ?_⟩
  obtain ⟨g1, r, er, o⟩ := q
  obtain ⟨⟨t, ds⟩, e1, er⟩ := opt_bind er
  obtain ⟨j, e2, er⟩ := opt_bind er
  dsimp only at er e2
  obtain ⟨h1, h2, h3⟩ := hf t j e2
  obtain ⟨x, dx, vs, ev, hx, hl, rl⟩ := objOf_ok g1 ra e1
  cases w : ds[j]? with
  | none => rw [w] at er; cases er
  | some d =>
    rw [w] at er
    cases er
    obtain ⟨u, e3, rd⟩ := rl.get w
    have hj := (List.getElem?_eq_some_iff.mp w).1
    have hlv := rl.length
    exact ⟨x, _, dx, _, u, ev, hx, h2, h3, by rw [zip_lookup take_nodup (take_at h1 hj) (by rw [List.length_take]; omega)]; exact e3, o u H1 (Step.refl g1) rd⟩
end
/-- self.f = e: the next field, or one that is there -/
def setFM (x : Nat) (fi : Nat → Option Nat) (d : D) : M Unit := fun env => match env[x]? with
  | some (.own (.ins t ds)) => (fi t).bind fun j => if j = ds.length then some (.ok () (env.set x (.own (.ins t (ds ++ [d]))))) else if j < ds.length then some (.ok () (env.set x (.own (.ins t (ds.set j d))))) else none
  | _ => none
def sSetF (x : Nat) (fi : Nat → Option Nat) (fe : M AV) : S := sE (atV fe fun d => setFM x fi d) fun _ env => some (.nx env)
section
variable {T : Tab} {X : Cx} {np : Nat → Bool} {e : Expr} {x f : Str} {p pos pos' : Pos} {fe : M AV} {fi : Nat → Option Nat}
theorem setF_ok {K : PySem.W.Frag} {ex : Addr → Prop} {σ : St} {H : Hp} {env : Sl} {W : WX} {n : Nat} {d : D} {v : V} {Q : V → Hp → Prop} (hf : ∀ t j, fi t = some j → (FL t)[j]? = some f ∧ Cls K (T.cls t) ∧ NoAttr K (T.cls t) f)
    (h : trx K T relU ex (setFM n fi d) env W σ H Q) (rd : Rep K T (exO ex σ env) H d v) : ∃ a C dx fs, σ[n]? = some (some (V.ref a)) ∧ H a = some (.ins C dx fs) ∧ Cls K C ∧ NoAttr K C f ∧ fs.length < 1000 ∧ Q .non (upd H a (.ins C dx (putF f v fs))) := by
  obtain ⟨g, r, er, o⟩ := h
  unfold setFM at er
  split at er
  · rename_i t ds w
    obtain ⟨j, e1, er⟩ := opt_bind er
    obtain ⟨h1, h2, h3⟩ := hf t j e1
    obtain ⟨a, ea, n, dx, vs, ha, hl, rl⟩ := g.own _ _ w
    have exa : exO ex σ env a := .inr ⟨_, _, w, ea⟩
    have hlv := rl.length
    have fsl : (((FL t).take ds.length).zip vs).length < 1000 := by
      rw [List.length_zip, List.length_take]
      have : (FL t).length ≤ 10 := by unfold FL; split <;> decide
      omega
    have mo : ∀ w' b u, ¬ exO ex σ env b → H b = some u → ¬ exO ex σ env b ∧ upd H a w' b = some u := fun w' b u n q => ⟨n, by rw [upd_ne (fun z => n (by rw [z]; exact exa))]; exact q⟩
    split at er
    · rename_i hj
      cases er
      subst hj
      have hlt := (List.getElem?_eq_some_iff.mp h1).1
      have hlt : ds.length < (FL t).length := hlt
      have nin : f ∉ (FL t).take ds.length := fun hm => by
        obtain ⟨k, hk, ek⟩ := List.mem_iff_getElem.mp hm
        rw [List.length_take] at hk
        rw [List.getElem_take] at ek
        have h5 : (FL t)[k]? = some f := by rw [List.getElem?_eq_getElem (by omega), ek]
        have := nodup_ix (FL_nodup t) h5 h1
        omega
      have e4 : putF f v (((FL t).take ds.length).zip vs) = ((FL t).take (ds ++ [d]).length).zip (vs ++ [v]) := by
        rw [putF_new nin, List.length_append, List.length_singleton, List.take_succ_eq_append_getElem hlt]
        rw [List.zip_append (by rw [List.length_take]; omega)]
        congr 1
        have : (FL t)[ds.length] = f := by rw [List.getElem?_eq_getElem hlt] at h1; exact Option.some.inj h1
        rw [this]; rfl
      obtain ⟨st, _⟩ := g.mut (o := .ins (T.cls t) dx (putF f v (((FL t).take ds.length).zip vs))) (c' := .ins t (ds ++ [d])) w ea
        ⟨dx, vs ++ [v], by rw [upd_same, e4], by rw [List.length_append, List.length_singleton]; omega, (rl.append (RepL.one rd)).mono (mo _)⟩
      exact ⟨a, _, dx, _, ea, ha, h2, h3, fsl, o .non _ st trivial⟩
    · split at er
      · rename_i hj
        cases er
        have e4 : putF f v (((FL t).take ds.length).zip vs) = ((FL t).take (ds.set j d).length).zip (vs.set j v) := by
          rw [List.length_set]
          exact putF_set take_nodup (take_at h1 hj) (by omega)
        obtain ⟨st, _⟩ := g.mut (o := .ins (T.cls t) dx (putF f v (((FL t).take ds.length).zip vs))) (c' := .ins t (ds.set j d)) w ea
          ⟨dx, vs.set j v, by rw [upd_same, e4], by rw [List.length_set]; omega, (rl.set j rd).mono (mo _)⟩
        exact ⟨a, _, dx, _, ea, ha, h2, h3, fsl, o .non _ st trivial⟩
      · cases er
  · cases er
theorem qs_setF (n : Nat) (he : QO T X e fe) (hf : ∀ t j, fi t = some j → (FL t)[j]? = some f ∧ Cls X.K (T.cls t) ∧ NoAttr X.K (T.cls t) f) (hN : X.N[n]? = some x := by rfl) (hv : Vis X.env.scope x := by first | exact Or.inl rfl | exact Or.inr (Or.inl rfl) | exact Or.inr (Or.inr rfl))
    (hs : swapsWith e (some (.Attribute (.Name x p) f pos')) pos.line X.env = pure false := by rfl) (hd : (x == ("__debug__" : Str)) = false := by decide) (hcd : (x == ("__classdict__" : Str)) = false := by decide) :
    QS T X np (.Assign [.Attribute (.Name x p) f pos'] e pos) (sSetF n fi fe) := fun pn xe W tk hp => by
  refine impS (ps_fld (X := X.tr pn xe) (pe_var hN hv hd hcd) (he pn xe W tk hp) hs) fun D σ H q => ?_
  obtain ⟨ex, env, z⟩ := trS_expr q relU
  refine ⟨ex, env, (trx_atV rmU z).mono fun v H1 ⟨d, env1, s1, r1, z⟩ => ?_⟩
  obtain ⟨a, C, dx, fs, ea, h1, h2, h3, h4, q⟩ := setF_ok hf z r1
  refine ⟨.ref a, ea, a, C, dx, fs, rfl, h1, h2, h3, h4, ?_⟩
  obtain ⟨ex3, env3, H03, env4, u, g3, s3, _, _, r3, e3, o3⟩ := q
  cases e3
  exact o3 σ _ s3.s
end

/-! ### methods -/
def eMeth (mt : Nat → Option (M EV)) (fa : M AV) (fs : M (List AV)) : M EV := M.bind fa fun a => fun env => (objOf env a).bind fun p => (mt p.1).bind fun g => (M.bind fs fun as => callM g (a :: as)) env
structure MethOK (NG : Prop) (T : Tab) (X : Cx) (m : Str) (mt : Nat → Option (M EV)) : Prop where
  of : ∀ t g, mt t = some g → m ∉ FL t ∧ Cls X.K (T.cls t) ∧ ∃ f k, Meth X.K (T.cls t) m f ∧ RG NG k X.A ∧ FnQ NG T X k f g
section
variable {X : Cx} {W : WX} {m : Str} {o e : Expr} {es : List Expr} {ta : TE} {t : TA} {pos apos : Pos} {pl : Sem Bool}
/-- what a method call asks -/
def AskM (NG : Prop) (X : Cx) (m : Str) (x : V) (H1 : Hp) (R : Sp → Prop) : Prop := ∃ a C dx fs g k sp, x = .ref a ∧ H1 a = some (.ins C dx fs) ∧ fs.lookup m = none ∧ Cls X.K C ∧ Meth X.K C m g ∧ RG NG k X.A ∧ FnG NG X.prog X.w X.K X.mg X.base k g sp ∧ R sp
theorem pe_methQ0 (he : PE X o ta) (tk : Takes X W)
    (ht : eval (.Call (.Attribute o m apos) [] [] pos) X.env = (do
      let ov ← eval o X.env
      standAt apos.atName
      let (f, first) ← holding [ov] (getMethod ov m pl)
      callWith pos f first (backTo pos (starEach [] X.env)) (backToKw pos (keywordEach [] X.env))) := by rfl) :
    PE X (.Call (.Attribute o m apos) [] [] pos) (fun σ H Q => ta σ H fun x H1 => AskM NG X m x H1 fun sp => sp [x] H1 Q fun c d H' => W c d σ H') := by
  refine ⟨fun pins s σ H Q I h => ?_⟩
  refine PySem.W.methodCall_KW (pl := pl) (thn (he.run pins s σ H _ I h) fun u s1 ⟨x, H1, I1, rx, a, C, dx, fs, g, k, sp, ex, ea, l, c, hm, hr, F, q⟩ => ?_) ht
  subst ex
  obtain rfl : u = Value.ref a := rx
  refine getmeth_ok I1 ea c hm l ?_
  exact PySem.W.callWith_K0 (first := [.ref a]) I1.kIn hm.kp (wpAny_call (run_at (us := [.ref a]) (vs := [.ref a]) F hr tk I1 (.cons rfl .nil) q))
end
section
variable {T : Tab} {X : Cx} {o e : Expr} {es : List Expr} {m : Str} {pos apos : Pos} {pl : Sem Bool} {fa : M AV} {fs : M (List AV)} {mt : Nat → Option (M EV)}
theorem trx_meth {ex : Addr → Prop} {σ : St} {H1 : Hp} {env1 : Sl} {W : WX} {Q : VK} {a : AV} {v : V} {k : M EV → M EV} (hm : MethOK NG T X m mt) (ra : RepA X.K T ex σ env1 H1 v a)
    (q : trx X.K T (relE X.K T) ex (fun env => (objOf env a).bind fun p => (mt p.1).bind fun g => k g env) env1 W σ H1 Q) {R : Sp → Prop} (hR : ∀ g, trx X.K T (relE X.K T) ex (k g) env1 W σ H1 Q → R (spD X.K T g)) : AskM NG X m v H1 R := by
  obtain ⟨g1, r, er, oo⟩ := q
  obtain ⟨⟨t, ds⟩, e1, er⟩ := opt_bind er
  obtain ⟨g, e2, er⟩ := opt_bind er
  obtain ⟨x, dx, vs, ev, hx, hl, rl⟩ := objOf_ok g1 ra e1
  obtain ⟨h1, h2, f, k', h3, h4, h5⟩ := hm.of t g e2
  exact ⟨x, _, dx, _, f, k', spD X.K T g, ev, hx, zip_lookup_none fun z => h1 (List.mem_of_mem_take z), h2, h3, h4, h5, hR g ⟨g1, r, er, oo⟩⟩
theorem qe_meth0 (h : QO T X o fa) (hm : MethOK NG T X m mt)
    (ht : eval (.Call (.Attribute o m apos) [] [] pos) X.env = (do
      let ov ← eval o X.env
      standAt apos.atName
      let (f, first) ← holding [ov] (getMethod ov m pl)
      callWith pos f first (backTo pos (starEach [] X.env)) (backToKw pos (keywordEach [] X.env))) := by rfl) : QE T X (.Call (.Attribute o m apos) [] [] pos) (eMeth mt fa asNil) := fun pn xe W tk hp => by
  refine impE (pe_methQ0 (NG := NG) (X := X.tr pn xe) (pl := pl) (h pn xe W tk hp) tk ht) fun σ H Q ⟨ex, env, q⟩ => ?_
  refine ⟨ex, env, (trx_bind (relA X.K T) rmE q).mono fun v H1 ⟨a, env1, s, ra, q⟩ => ?_⟩
  refine trx_meth (X := X) (k := fun g => M.bind asNil fun as => callM g (a :: as)) hm ra q fun g q => ?_
  exact trx_call (as := [a]) q (.cons ra .nil)
end

/-! ### properties -/
def eProp (mt : Nat → Option (M EV)) (fa : M AV) : M EV := M.bind fa fun a => fun env => (objOf env a).bind fun p => (mt p.1).bind fun g => match callM g [a] env with
  | some (.ok v e) => some (.ok v e)
  | _ => none
structure PropsOK (NG : Prop) (T : Tab) (X : Cx) (m : Str) (mt : Nat → Option (M EV)) : Prop where
  of : ∀ t g, mt t = some g → Cls X.K (T.cls t) ∧ ∃ p f k, PropOf X.K (T.cls t) m p f ∧ RG NG (k + 1) X.A ∧ FnQ NG T X k f g
section
variable {T : Tab} {X : Cx} {e : Expr} {m : Str} {pos : Pos} {fa : M AV} {mt : Nat → Option (M EV)}
theorem getprop_Q {pins : List (Addr × Obj)} {σ : St} {H : Hp} {s : Shared} {Q : VK} {b : Bool} {a C dx p g : Addr} {fs : List (Str × V)} {k : Nat} {f : Str} {sp : Sp} {E' : Value → Shared → Prop} (I : Inv X pins σ H s) (ea : H a = some (.ins C dx fs)) (c : Cls X.K C) (hp : PropOf X.K C f p g)
    (F : FnG NG X.prog X.w X.K X.mg X.base k g sp) (hr : RG NG (k + 1) X.A) (h : sp [.ref a] H Q E0) :
    wpAny (model X.prog X.w) X.A (getAttr (.ref a) f b) (EP X pins σ Q) E' s := by
  obtain ⟨mA, O, _, _, _, _⟩ := ins_get I.hok ea
  obtain ⟨od, J, _⟩ := O.look
  obtain ⟨rest, hrec⟩ := hp.rec_
  have I1 := I.tok (s.toks + 1)
  have hc : (PySem.W.clsIn X.K C).isSome = true := by
    obtain ⟨cd, hc, _⟩ := PySem.W.any_some c.hd
    rw [hc]
    rfl
  refine PySem.W.get_bind I.kIn J (PySem.W.plainGet_of (c.get f)).1 (PySem.W.findObj_data hc hp.at_ hp.get hp.tak) (PySem.W.plainGet_of (c.get f)).2 (wpAny_call (PySem.W.prop_get (s := { s with toks := s.toks + 1 }) I.kIn hrec ?_))
  refine codeAny_mono (F X.A.in1 X.stack { s with toks := s.toks + 1 } H [.ref a] [.ref a] Q E0 hr.in1 I1.env0.in1 (.cons rfl .nil) h) fun r s' hq => ?_
  cases r with
  | error er => exact False.elim (passL (X := X.nox) pins σ H { s with toks := s.toks + 1 } er s' (I1.wish _) hq)
  | ok fl =>
    cases fl with
    | ret u =>
      obtain ⟨v, H', I3, rv, q3⟩ := I1.after hq
      show wpAny _ _ (handedOut u) _ _ _
      rw [PySem.W.handedOut_of (handed_of rv)]
      exact wpAny_pure ⟨v, H', I3, rv, q3⟩
    | next => exact False.elim hq
    | brk => exact False.elim hq
    | cont => exact False.elim hq
theorem pe_propQ {ta : TE} (he : PE X e ta) (hab : attributeBase e m X.env (eval e X.env) = eval e X.env) : PE X (.Attribute e m pos) (fun σ H Q => ta σ H fun x H1 => ∃ a C dx fs p f k sp, x = .ref a ∧ H1 a = some (.ins C dx fs) ∧ Cls X.K C ∧ PropOf X.K C m p f ∧ RG NG (k + 1) X.A ∧
    FnG NG X.prog X.w X.K X.mg X.base k f sp ∧ sp [.ref a] H1 Q E0) := by
  refine ⟨fun pins s σ H Q I h => ?_⟩
  refine attr_of hab (thn (he.run pins s σ H _ I h) fun u s1 ⟨x, H1, I1, rx, a, C, dx, fs, p, f, k, sp, ex, ea, c, hp, hr, F, q⟩ => ?_)
  subst ex
  obtain rfl : u = Value.ref a := rx
  exact getprop_Q I1 ea c hp F hr q
theorem qe_prop (h : QO T X e fa) (hm : PropsOK NG T X m mt) (hab : attributeBase e m X.env (eval e X.env) = eval e X.env := by rfl) : QE T X (.Attribute e m pos) (eProp mt fa) := fun pn xe W tk hp => by
  refine impE (pe_propQ (NG := NG) (X := X.tr pn xe) (h pn xe W tk hp) hab) fun σ H Q ⟨ex, env, q⟩ => ?_
  refine ⟨ex, env, (trx_bind (relA X.K T) rmE q).mono fun v H1 ⟨a, env1, s, ra, q⟩ => ?_⟩
  obtain ⟨g1, r, er, oo⟩ := q
  obtain ⟨⟨t, ds⟩, e1, er⟩ := opt_bind er
  obtain ⟨g, e2, er⟩ := opt_bind er
  obtain ⟨x, dx, vs, ev, hx, hl, rl⟩ := objOf_ok g1 ra e1
  obtain ⟨h2, p, f, k, h3, h4, h6⟩ := hm.of t g e2
  subst ev
  refine ⟨x, _, dx, _, p, f, k, spD X.K T g, rfl, hx, h2, h3, h4, h6, ?_⟩
  refine trx_call (W := fun _ _ _ _ => False) (σ := σ) (env := env1) (ex := ex) (as := [a]) (vs := [.ref x]) ⟨g1, r, ?_, ?_⟩ (.cons ra .nil)
  · split at er
    · cases er; assumption
    · cases er
  · split at er
    · cases er; exact oo
    · cases er
end

/-! ### objects made -/
def makeM (t : Nat) (g : M EV) (as : List AV) : M EV := fun env => match callM g (.s env.length :: as) (env ++ [.own (.ins t [])]) with
  | some (.ok (.v .non) e') => match e'[env.length]? with
    | some (.own (.ins t' ds)) => if t' = t ∧ ds.length = (FL t).length then some (.ok (.v (.obj t ds)) (e'.take env.length)) else none
    | _ => none
  | some (.exc x e') => some (.exc x (e'.take env.length))
  | _ => none
section
variable {K : PySem.W.Frag} {T : Tab} {ex : Addr → Prop} {σ : St} {H H' H0 : Hp} {env e' : Sl} {W : WX} {c : OC} {x : Addr}
theorem snoc_get {α : Type} {l : List α} {y z : α} {j : Nat} (h : (l ++ [y])[j]? = some z) : (j < l.length ∧ l[j]? = some z) ∨ (j = l.length ∧ z = y) := by
  by_cases e : j < l.length
  · rw [List.getElem?_append_left e] at h; exact .inl ⟨e, h⟩
  · have : j = l.length := by
      have := (List.getElem?_eq_some_iff.mp h).1
      rw [List.length_append, List.length_singleton] at this
      omega
    subst this
    rw [List.getElem?_append_right (Nat.le_refl _), Nat.sub_self] at h
    exact .inr ⟨rfl, by simpa using h.symm⟩
theorem owns_push (hl : env.length = σ.length) {b : Addr} : Owns (σ ++ [some (V.ref x)]) (env ++ [.own c]) b ↔ Owns σ env b ∨ b = x := by
  constructor
  · rintro ⟨j, d, e1, e2⟩
    rcases snoc_get e1 with ⟨h1, h2⟩ | ⟨h1, h2⟩
    · rcases snoc_get e2 with ⟨_, h3⟩ | ⟨h3, _⟩
      · exact .inl ⟨j, d, h2, h3⟩
      · omega
    · subst h1
      rcases snoc_get e2 with ⟨h3, _⟩ | ⟨_, h3⟩
      · omega
      · cases h3; exact .inr rfl
  · rintro (⟨j, d, e1, e2⟩ | e)
    · have h1 := (List.getElem?_eq_some_iff.mp e1).1
      have h2 := (List.getElem?_eq_some_iff.mp e2).1
      exact ⟨j, d, by rw [List.getElem?_append_left h1]; exact e1, by rw [List.getElem?_append_left h2]; exact e2⟩
    · subst e
      exact ⟨env.length, c, by simp, by rw [hl]; simp⟩
/-- a new thing in a slot more -/
theorem Good.push (g : Good K T ex σ H env) (hx : H x = none) (k : ∀ b o, H b = some o → H' b = some o) (r : RepO K T (fun b => exO ex σ env b ∨ b = x) H' x c) : Good K T ex (σ ++ [some (V.ref x)]) H' (env ++ [.own c]) := by
  have exq : exO ex (σ ++ [some (V.ref x)]) (env ++ [.own c]) = fun b => exO ex σ env b ∨ b = x := funext fun b => propext (by
    unfold exO
    rw [owns_push g.len, or_assoc])
  have mo : ∀ b o, ¬ exO ex σ env b → H b = some o → ¬ (exO ex σ env b ∨ b = x) ∧ H' b = some o := fun b o n q => ⟨fun z => z.elim n fun z => (by rw [z, hx] at q; exact nomatch q), k b o q⟩
  refine ⟨by simp [g.len], fun j d e => ?_, fun j d e => ?_, fun i j a d d' e1 e2 e3 e4 => ?_, fun b h => ?_, g.tb.ext k⟩
  · rw [exq]
    rcases snoc_get e with ⟨h1, h2⟩ | ⟨_, h2⟩
    · obtain ⟨v, e1, rr⟩ := g.val j d h2
      exact ⟨v, by rw [List.getElem?_append_left (by rw [← g.len]; exact h1)]; exact e1, rr.mono mo⟩
    · cases h2
  · rw [exq]
    rcases snoc_get e with ⟨h1, h2⟩ | ⟨h1, h2⟩
    · obtain ⟨a, e1, n, rr⟩ := g.own j d h2
      refine ⟨a, by rw [List.getElem?_append_left (by rw [← g.len]; exact h1)]; exact e1, n, rr.mono ?_ mo⟩
      cases w : H a with
      | none => exact absurd w rr.there
      | some o => exact k a o w
    · cases h2; subst h1
      exact ⟨x, by rw [g.len]; simp, fun z => g.dom x z hx, r⟩
  · have nx : ∀ {j : Nat} {d : OC}, env[j]? = some (.own d) → σ[j]? ≠ some (some (V.ref x)) := fun {j d} h z => (g.owned ⟨j, d, h, z⟩).1 hx
    rcases snoc_get e1 with ⟨h1, h2⟩ | ⟨h1, h2⟩
    · rw [List.getElem?_append_left (by rw [← g.len]; exact h1)] at e3
      rcases snoc_get e2 with ⟨h3, h4⟩ | ⟨h3, h4⟩
      · rw [List.getElem?_append_left (by rw [← g.len]; exact h3)] at e4
        exact g.inj i j a d d' h2 h4 e3 e4
      · subst h3; rw [g.len] at e4; simp at e4; subst e4; exact absurd e3 (nx h2)
    · subst h1
      rw [g.len] at e3; simp at e3; subst e3
      rcases snoc_get e2 with ⟨h3, h4⟩ | ⟨h3, h4⟩
      · rw [List.getElem?_append_left (by rw [← g.len]; exact h3)] at e4
        exact absurd e4 (nx h4)
      · exact h3.symm
  · intro q
    cases w : H b with
    | none => exact g.dom b h w
    | some o => rw [k b o w] at q; cases q
theorem step_popped (g : Good K T ex σ H env) (hx : H x = none) (k : ∀ b o, H b = some o → H0 b = some o) (s : Step K T ex (σ ++ [some (V.ref x)]) H0 (env ++ [.own c]) H' e') :
    Step K T ex σ H env H' (e'.take env.length) ∧ (∀ b, exO ex σ (e'.take env.length) b → exO ex (σ ++ [some (V.ref x)]) e' b) ∧ (∀ c', e'[env.length]? = some (.own c') → RepO K T (exO ex (σ ++ [some (V.ref x)]) e') H' x c' ∧ ¬ exO ex σ (e'.take env.length) x) := by
  have hl := s.gd.len
  rw [List.length_append, List.length_singleton] at hl
  have tk : ∀ {j : Nat} {z : Slot}, (e'.take env.length)[j]? = some z → j < env.length ∧ e'[j]? = some z := fun {j z} h => by
    rw [List.getElem?_take] at h
    split at h
    · exact ⟨by assumption, h⟩
    · cases h
  have σe : ∀ {j : Nat}, j < env.length → (σ ++ [some (V.ref x)])[j]? = σ[j]? := fun {j} h => List.getElem?_append_left (by rw [← g.len]; exact h)
  have ow : ∀ {b}, Owns σ (e'.take env.length) b → Owns (σ ++ [some (V.ref x)]) e' b ∧ b ≠ x := fun {b} ⟨j, d, e1, e2⟩ => by
    obtain ⟨h1, h2⟩ := tk e1
    refine ⟨⟨j, d, h2, by rw [σe h1]; exact e2⟩, fun z => ?_⟩
    subst z
    obtain ⟨d', e3⟩ := s.sb j d h2
    rw [List.getElem?_append_left h1] at e3
    exact (g.owned ⟨j, d', e3, e2⟩).1 hx
  have mo : ∀ b o, ¬ exO ex (σ ++ [some (V.ref x)]) e' b → H' b = some o → ¬ exO ex σ (e'.take env.length) b ∧ H' b = some o := fun b o n q => ⟨fun z => n (z.imp id fun z => (ow z).1), q⟩
  refine ⟨⟨fun b o e n => s.fr b o (k b o e) fun z => ?_, fun b e => s.dm b fun q => ?_, fun j d e => ?_, ⟨by rw [List.length_take, g.len]; omega, fun j d e => ?_, fun j d e => ?_, fun i j a d d' e1 e2 e3 e4 => ?_, s.gd.dom, s.gd.tb⟩⟩, fun b h => h.imp id fun z => (ow z).1, fun c' e => ?_⟩
  · rcases (owns_push g.len).mp z with z | z
    · exact n z
    · subst z; rw [hx] at e; cases e
  · cases w : H b with
    | none => exact e w
    | some o => rw [k b o w] at q; cases q
  · obtain ⟨h1, h2⟩ := tk e
    obtain ⟨d', e3⟩ := s.sb j d h2
    rw [List.getElem?_append_left h1] at e3
    exact ⟨d', e3⟩
  · obtain ⟨h1, h2⟩ := tk e
    obtain ⟨v, e1, r⟩ := s.gd.val j d h2
    exact ⟨v, by rw [← σe h1]; exact e1, r.mono mo⟩
  · obtain ⟨h1, h2⟩ := tk e
    obtain ⟨a, e1, n, r⟩ := s.gd.own j d h2
    exact ⟨a, by rw [← σe h1]; exact e1, n, r.mono rfl mo⟩
  · obtain ⟨h1, h2⟩ := tk e1
    obtain ⟨h3, h4⟩ := tk e2
    exact s.gd.inj i j a d d' h2 h4 (by rw [σe h1]; exact e3) (by rw [σe h3]; exact e4)
  · obtain ⟨a, e1, n, r⟩ := s.gd.own _ c' e
    have e2 : (σ ++ [some (V.ref x)])[env.length]? = some (some (V.ref x)) := by rw [g.len]; simp
    rw [e2] at e1
    cases e1
    exact ⟨r, fun z => z.elim n fun z => (ow z).2 rfl⟩
/-- the promise of __init__ at a new instance -/
theorem trx_make {t : Nat} {gi : M EV} {as : List AV} {vs : List V} {Q : VK} {dx : Addr} (h : trx K T (relE K T) ex (makeM t gi as) env W σ H Q) (hp : Paired (fun a v => RepA K T ex σ env H v a) as vs) (hx : H x = none) (hdx : H dx = none) (hne : dx ≠ x) :
    spD K T gi (.ref x :: vs) (upd (upd H dx (.own x)) x (.ins (T.cls t) dx [])) (fun v H2 => v = .non ∧ Q (.ref x) H2) fun c d H' => W c d σ H' := by
  obtain ⟨g, r, er, o⟩ := h
  have k : ∀ b u, H b = some u → upd (upd H dx (.own x)) x (.ins (T.cls t) dx []) b = some u := fun b u e => by
    rw [upd_ne (ne_of_none e hx), upd_ne (ne_of_none e hdx)]; exact e
  have gp : Good K T ex (σ ++ [some (V.ref x)]) (upd (upd H dx (.own x)) x (.ins (T.cls t) dx [])) (env ++ [.own (.ins t [])]) := g.push hx k ⟨dx, [], by rw [upd_same]; rfl, Nat.zero_le _, .nil⟩
  have exle : ∀ b, exO ex σ env b → exO ex (σ ++ [some (V.ref x)]) (env ++ [.own (.ins t [])]) b := fun b h => h.imp id fun z => (owns_push g.len).mpr (.inl z)
  have exi : ∀ b, exO ex (σ ++ [some (V.ref x)]) (env ++ [.own (.ins t [])]) b → exO ex σ env b ∨ b = x := fun b h => by
    rcases h with h | h
    · exact .inl (.inl h)
    · exact ((owns_push g.len).mp h).imp .inr id
  have rp : ∀ {a : AV} {v : V}, RepA K T ex σ env H v a → RepA K T ex (σ ++ [some (V.ref x)]) (env ++ [.own (.ins t [])]) (upd (upd H dx (.own x)) x (.ins (T.cls t) dx [])) v a := fun {a v} r => by
    cases a with
    | v d => exact Rep.mono (fun b u n e => ⟨fun z => (exi b z).elim n fun z => (by rw [z, hx] at e; exact nomatch e), k b u e⟩) r
    | s i =>
      have r : σ[i]? = some (some v) := r
      show (σ ++ [some (V.ref x)])[i]? = some (some v)
      rw [List.getElem?_append_left (List.getElem?_eq_some_iff.mp r).1]; exact r
  have hp2 : Paired (fun a v => RepA K T ex (σ ++ [some (V.ref x)]) (env ++ [.own (.ins t [])]) (upd (upd H dx (.own x)) x (.ins (T.cls t) dx [])) v a) (.s env.length :: as) (.ref x :: vs) := by
    refine .cons (by show (σ ++ [some (V.ref x)])[env.length]? = _; rw [g.len]; simp) ?_
    clear er o
    induction hp with
    | nil => exact .nil
    | cons h1 h2 ih => exact .cons (rp h1) ih
  have conv : ∀ {rg : Re EV}, callM gi (.s env.length :: as) (env ++ [.own (.ins t [])]) = some rg → Out K T (relE K T) ex (env ++ [.own (.ins t [])]) (fun c d _ H' => W c d σ H') (σ ++ [some (V.ref x)]) (upd (upd H dx (.own x)) x (.ins (T.cls t) dx [])) (fun v H2 => v = .non ∧ Q (.ref x) H2) rg := fun {rg} e => by
    unfold makeM at er
    rw [e] at er
    cases rg with
    | exc z e' =>
      cases er
      intro cls dd H' s rx
      obtain ⟨s', exb, _⟩ := step_popped g hx k s
      refine o cls dd H' s' ⟨rx.1, rx.2.imp id ?_⟩
      rintro ⟨a, ws, e1, e2, l, rr⟩
      exact ⟨a, ws, e1, e2, l, rr.mono fun b u n e => ⟨fun z => n (exb b z), e⟩⟩
    | ok ev e' =>
      intro v H' s rv
      obtain ⟨s', exb, hown⟩ := step_popped g hx k s
      cases ev with
      | o c => cases er
      | v d =>
        cases d with
        | non =>
          dsimp only at er
          split at er
          · rename_i t' ds w
            split at er
            · rename_i ht
              cases er
              obtain ⟨rfl, hl⟩ := ht
              obtain ⟨⟨dx', us, h1, _, h3⟩, nx⟩ := hown _ w
              refine ⟨rv, o (.ref x) H' s' ⟨x, dx', us, rfl, nx, ?_, ?_, ?_⟩⟩
              · rw [hl, List.take_length] at h1; exact h1
              · rw [← h3.length, hl]
              · exact h3.mono fun b u n e => ⟨fun z => n (exb b z), e⟩
            · cases er
          · cases er
        | _ => cases er
  cases e : callM gi (.s env.length :: as) (env ++ [.own (.ins t [])]) with
  | none => unfold makeM at er; rw [e] at er; cases er
  | some rg => exact trx_call (W := fun c d _ H' => W c d σ H') ⟨gp, rg, e, conv e⟩ hp2
end
section
variable {X : Cx} {W : WX} {k : Nat} {f C : Addr} {sp : Sp} {x : Str} {p pos : Pos} {e : Expr} {es : List Expr} {t : TA}
theorem run_makeQ {pins : List (Addr × Obj)} {σ : St} {H : Hp} {s : Shared} {Q : VK} {us : List Value} {vs : List V} (M : Mk X.K C f) (F : FnG NG X.prog X.w X.K X.mg X.base k f sp) (hr : RG NG (k + 1) X.A) (tk : Takes X W) (I : Inv X pins σ H s) (r : Vals vs us)
    (h : ∀ x dx, H x = none → H dx = none → dx ≠ x → sp (V.ref x :: vs) (upd (upd H dx (.own x)) x (.ins C dx [])) (fun v H2 => v = .non ∧ Q (.ref x) H2) fun c d H' => W c d σ H') :
    wpAny (model X.prog X.w) X.A (call (.ref C) us) (EP X pins σ Q) X.xe s := by
  have hq := h (s.heap.objs.size + 1) s.heap.objs.size (I.hok.fresh (Nat.le_succ _)) (I.hok.fresh (Nat.le_refl _)) (Nat.ne_of_lt (Nat.lt_succ_self _))
  have I2 := Inv.made (C := C) I
  have r2 : Vals (V.ref (s.heap.objs.size + 1) :: vs) (Value.ref (s.heap.objs.size + 1) :: us) := .cons rfl r
  refine wpAny_call (make_map (f := f) I.kIn M.makes M.init (beq_iff_eq.mp M.fn) (codeAny_mono (F _ X.stack _ _ (Value.ref (s.heap.objs.size + 1) :: us) _ _ _ (hr.make C us) (I2.env0.make C us []) r2 hq) fun r s' hq' => ?_))
  cases r with
  | error e => exact tk e s' (XE.of_call I2 (fun _ _ _ h => h) hq')
  | ok fl =>
    cases fl with
    | ret u =>
      obtain ⟨v, H', I3, rv, ev, q3⟩ := I2.after hq'
      subst ev
      exact ⟨rv, ⟨V.ref (s.heap.objs.size + 1), H', I3, rfl, q3⟩⟩
    | next => exact False.elim hq'
    | brk => exact False.elim hq'
    | cont => exact False.elim hq'
end
/-- what a star hands on -/
def starD : D → Option (List D)
  | .lst ds => some ds
  | .tup ds => some ds
  | _ => none
def eMakeS (t : Nat) (g : M EV) (fa : M AV) : M EV := M.bind fa fun a => fun env => (deref env a).bind fun d => (starD d).bind fun ds => makeM t g (ds.map AV.v) env
theorem reps_of {K : PySem.W.Frag} {T : Tab} {ex : Addr → Prop} {σ : St} {env : Sl} {H : Hp} : ∀ {ds : List D} {vs : List V}, RepL K T (exO ex σ env) H ds vs → Paired (fun a v => RepA K T ex σ env H v a) (ds.map AV.v) vs
  | [], vs, e => by cases (show vs = [] from e); exact .nil
  | d :: ds, _, ⟨v, r, e, h1, h2⟩ => by subst e; exact .cons h1 (reps_of h2)
section
variable {T : Tab} {X : Cx} {k t : Nat} {f : Addr} {g : M EV} {x : Str} {p pos : Pos} {e : Expr} {es : List Expr} {fs : M (List AV)} {fa : M AV}
end

/-! ### raise, try -/
def sRaise (t : Nat) : S := fun env => some (.exc ⟨t, []⟩ env)
def sTry (body : S) (sb : Nat → Option Bool) (suite : S) : S := fun env => match body env with
  | some (.exc x e) => match sb x.t with
    | some true => match suite e with
      | some (.exc _ _) => none
      | r => r
    | some false => some (.exc x e)
    | none => none
  | r => r
section
variable {T : Tab} {X : Cx} {np : Nat → Bool} {t : Nat} {x m : Str} {j : Nat} {p p2 pos pos' np' : Pos} {bmB : List Value} {B newId initId : String}
theorem qs_raise (hc : X.calm = true) (F : ExcBaseFacts B newId initId bmB) (q : PySem.W.excIn X.K (T.cls t) bmB newId = true) (gC : X.mg x = some (.ref (T.cls t))) (kC : PySem.W.keepIn X.K (.ref (T.cls t)) = true) (r : Raises X (.ref (T.cls t))) (hg : Gl X x)
    (hdb : (x == ("__debug__" : Str)) = false := by decide) : QS T X np (.Raise (some (.Call (.Name x p) [.Constant (.str m) j p2] [] pos')) none pos) (sRaise t) := fun pn xe W tk hp => by
  refine impS (ps_raise (X := X.tr pn xe) hc tk (pmk_own (X := X.tr pn xe) F q gC kC r hg hdb)) fun D σ H ⟨ex, env, g, rr, er, o⟩ => ?_
  cases er
  exact o _ _ σ H (SStep.refl g) ⟨rfl, .inl ⟨rfl, rfl⟩⟩
theorem qs_try {body suite : List Stmt} {b₀ : Stmt} {cn : Str} {c : Value} {fb fs : S} {sb : Nat → Option Bool} (hs : X.stack = X.env :: X.outer) (hf : X.env.frame = some X.env.locals) (hc : Names X cn c)
    (hb : QSs T X np body fb) (hsb : ∀ t b, sb t = some b → PySem.W.exmOne X.K (.ref (T.cls t)) c = some b)
    (hsu : ∀ (a : Addr) (oe : Obj) (pn : List (Addr × Obj)), QSs T (X.suite a ((a, oe) :: pn)) np (b₀ :: suite) fs) :
    QS T X np (.Try body [.ExceptHandler (some (.Name cn np')) none (b₀ :: suite) pos'] [] [] pos) (sTry fb sb fs) := fun pn xe W tk hp => by
  refine impS (ps_try_many (X := X.tr pn xe) (tb := fun W => trS X.K T np fb W) (l := [(c, fun _ _ _ => trS X.K T np fs W0)]) hs hf tk (fun W' pn' xe' tk' hp' => hb pn' xe' W' tk' hp') (.cons hc (fun a oe cls d pn' _ _ => hsu a oe pn' _ _ W0 takes0 .never) .nil)) fun D σ H ⟨ex, env, g, r, er, o⟩ => ?_
  unfold sTry at er
  refine ⟨ex, env, g, ?_⟩
  cases q : fb env with
  | none => rw [q] at er; cases er
  | some rb =>
    rw [q] at er
    refine ⟨rb, rfl, ?_⟩
    cases rb with
    | exc z e =>
      dsimp only at er
      intro cls dd σ' H' s rx
      cases w : sb z.t with
      | none => rw [w] at er; cases er
      | some b =>
        rw [w] at er
        refine ⟨b, by rw [rx.1]; exact hsb _ _ w, fun hb a ha => ?_, fun hb => ?_⟩
        · subst hb
          dsimp only at er
          split at er
          · cases er
          · rename_i hne
            refine ⟨ex, e, s.gd, r, er, ?_⟩
            have o' := o.back s
            cases r with
            | exc z2 e2 => exact absurd er (hne z2 e2)
            | _ => exact o'
        · subst hb
          cases er
          exact o cls dd σ' H' s rx
    | _ => cases er; exact o
end
end Dt
end
section
set_option maxRecDepth 100000
set_option maxHeartbeats 4000000
/-! QJ: operators and built-in functions on data. -/
namespace Dt
open PySem PySem.Spec
open L2 hiding passL ps_try_many HdsOk takes0 XE Takes CX takes_of passes_call PMk MkP ps_raise mk_of ps_try_as pmk_own
open L2N hiding St
open PyProof.Rows hiding St

/-! ### data as plain data -/
mutual
def toP : D → Option PyData
  | .non => some .none
  | .bl b => some (.bool b)
  | .int i => some (.int i)
  | .str s => some (.str (mkS s))
  | .tup xs => (toPL xs).map .tuple
  | .lst xs => (toPL xs).map .list
  | _ => none
def toPL : List D → Option (List PyData)
  | [] => some []
  | d :: ds => (toP d).bind fun p => (toPL ds).map (p :: ·)
end
def strsOf : List D → Option (List (List Nat))
  | [] => some []
  | .str s :: r => (strsOf r).map (s :: ·)
  | _ :: _ => none
def vB (b : Bool) : EV := .v (.bl b)
def vI (i : Int) : EV := .v (.int i)
def big : Nat := 1000000

section
variable {K : PySem.W.Frag} {T : Tab} {ex : Addr → Prop} {H H' : Hp}
theorem dp_both : (∀ d : D, ∀ v p, toP d = some p → Rep K T ex H d v → Dp K H v p) ∧ ∀ ds : List D, ∀ vs ps, toPL ds = some ps → RepL K T ex H ds vs → DpAll K H vs ps := by
  refine D.ind ?_ ?_ ?_ ?_ ?_ ?_ ?_ ?_ ?_ ?_ ?_ ?_ ?_
  · intro v p e r; unfold toP at e; cases e; cases (show v = V.non from r); exact .non
  · intro b v p e r; unfold toP at e; cases e; cases (show v = V.bl b from r); exact .bl b
  · intro i v p e r; unfold toP at e; cases e; cases (show v = V.int i from r); exact .int i
  · intro s v p e r; unfold toP at e; cases e; cases (show v = V.str (mkS s) from r); exact .str _
  · intro xs ih v p e r
    unfold toP at e
    obtain ⟨ps, e1, rfl⟩ := Option.map_eq_some_iff.mp e
    obtain ⟨a, vs, rfl, _, h1, h2⟩ := r
    exact .tup (.of h1) (ih _ _ e1 h2)
  · intro xs ih v p e r
    unfold toP at e
    obtain ⟨ps, e1, rfl⟩ := Option.map_eq_some_iff.mp e
    obtain ⟨a, vs, rfl, _, h1, h2⟩ := r
    exact .lst (.of h1) (ih _ _ e1 h2)
  · intro ks xs ih v p e r; unfold toP at e; cases e
  · intro t xs ih v p e r; unfold toP at e; cases e
  · intro u v p e r; unfold toP at e; cases e
  · intro ns v p e r; unfold toP at e; cases e
  · intro f us ds ih v p e r; unfold toP at e; cases e
  · intro vs ps e r; unfold toPL at e; cases e; cases (show vs = [] from r); exact .nil
  · intro d ds i1 i2 vs ps e r
    unfold toPL at e
    obtain ⟨p, e1, e⟩ := opt_bind e
    obtain ⟨qs, e2, rfl⟩ := Option.map_eq_some_iff.mp e
    obtain ⟨v, r', rfl, h1, h2⟩ := r
    exact .cons (i1 _ _ e1 h1) (i2 _ _ e2 h2)
theorem Rd1.dp {d : D} {v : V} {p : PyData} (r : Rd1 K T ex H d v) (e : toP d = some p) : Dp K H v p := by
  cases d with
  | lst xs =>
    unfold toP at e
    obtain ⟨ps, e1, rfl⟩ := Option.map_eq_some_iff.mp e
    obtain ⟨a, vs, rfl, h1, h2⟩ := r
    exact .lst (.of h1) (dp_both.2 _ _ _ e1 h2)
  | dic ks ds => unfold toP at e; cases e
  | _ => exact (dp_both (T := T) (ex := ex)).1 _ _ _ e r
theorem strs_rep : ∀ {ds : List D} {ss : List (List Nat)} {vs : List V}, strsOf ds = some ss → RepL K T ex H ds vs → vs = (ss.map mkS).map V.str
  | [], ss, vs, e, r => by cases e; cases (show vs = [] from r); rfl
  | .str s :: ds, ss, _, e, ⟨v, w, e1, h1, h2⟩ => by
    unfold strsOf at e
    obtain ⟨ts, e2, rfl⟩ := Option.map_eq_some_iff.mp e
    subst e1
    cases (show v = V.str (mkS s) from h1)
    rw [strs_rep e2 h2]; rfl
  | .non :: _, _, _, e, _ => by cases e
  | .bl _ :: _, _, _, e, _ => by cases e
  | .int _ :: _, _, _, e, _ => by cases e
  | .tup _ :: _, _, _, e, _ => by cases e
  | .lst _ :: _, _, _, e, _ => by cases e
  | .dic _ _ :: _, _, _, e, _ => by cases e
  | .obj _ _ :: _, _, _, e, _ => by cases e
  | .raw _ :: _, _, _, e, _ => by cases e
  | .scr _ :: _, _, _, e, _ => by cases e
  | .clo _ _ _ :: _, _, _, e, _ => by cases e
theorem strs_repL : ∀ (ss : List (List Nat)), RepL K T ex H (ss.map D.str) ((ss.map mkS).map V.str)
  | [] => rfl
  | s :: ss => ⟨_, _, rfl, rfl, strs_repL ss⟩
end

/-! ### two-place operators -/
def orD (f g : D → D → Option EV) : D → D → Option EV := fun x y => match f x y with
  | some r => some r
  | none => g x y
section
variable {X : Cx} {T : Tab} {f : Value → Value → Sem Value}
theorem op_or {g g' : D → D → Option EV} (h : OpR X f (rQ X.K T g)) (h' : OpR X f (rQ X.K T g')) : OpR X f (rQ X.K T (orD g g')) := by
  intro pins s σ H x y v u Q I rx ry ⟨ex, d1, d2, ev, dm, r1, r2, e, k⟩
  unfold orD at e
  cases q : g d1 d2 with
  | some r => rw [q] at e; cases e; exact h pins s σ H x y v u Q I rx ry ⟨ex, d1, d2, ev, dm, r1, r2, q, k⟩
  | none => rw [q] at e; exact h' pins s σ H x y v u Q I rx ry ⟨ex, d1, d2, ev, dm, r1, r2, e, k⟩
theorem op_of {g : D → D → Option EV} {r : R2} (h : OpR X f r) (k : ∀ x y H Q, rQ X.K T g x y H Q → r x y H Q) : OpR X f (rQ X.K T g) := fun pins s σ H x y v u Q I rx ry q => h pins s σ H x y v u Q I rx ry (k _ _ _ _ q)
end
/-- on ints -/
def opI2 (c : Int → Int → Bool) (g : Int → Int → D) : D → D → Option EV := fun x y => match x, y with
  | .int i, .int j => if c i j = true then some (.v (g i j)) else none
  | _, _ => none
section
variable {K : PySem.W.Frag} {T : Tab}
theorem rQ_int {c : Int → Int → Bool} {g : Int → Int → D} {gv : Int → Int → V} (hg : ∀ ex H i j, Rep K T ex H (g i j) (gv i j)) {x y : V} {H : Hp} {Q : VK} (h : rQ K T (opI2 c g) x y H Q) : ∃ i j, x = .int i ∧ y = .int j ∧ c i j = true ∧ Q (gv i j) H := by
  obtain ⟨ex, d1, d2, ev, dm, r1, r2, e, k⟩ := h
  unfold opI2 at e
  split at e
  · split at e
    · rename_i i j hc
      cases e
      exact ⟨i, j, r1, r2, hc, k _ H (fun _ _ z => z) (hg _ _ _ _)⟩
    · cases e
  · cases e
end
def yes2 : Int → Int → Bool := fun _ _ => true
def okMul : Int → Int → Bool := fun i j => decide ((-(2 ^ 64) < i ∧ i < 2 ^ 64) ∨ (-(2 ^ 64) < j ∧ j < 2 ^ 64))
def okDiv : Int → Int → Bool := fun _ j => decide (0 < j ∧ j < 1073741824)
def okMod : Int → Int → Bool := fun _ j => decide (0 < j)
def okPow : Int → Int → Bool := fun i j => decide (0 ≤ j ∧ j ≤ 1000000 ∧ i.natAbs < 2 ^ 64)
def addI := opI2 yes2 fun i j => .int (i + j)
def subD := opI2 yes2 fun i j => .int (i - j)
def mulI := opI2 okMul fun i j => .int (i * j)
def divD := opI2 okDiv fun i j => .int (i / j)
def modD := opI2 okMod fun i j => .int (i % j)
def powD := opI2 okPow fun i j => .int (i ^ j.toNat)
def ltI := opI2 yes2 fun i j => .bl (decide (i < j))
def leI := opI2 yes2 fun i j => .bl (decide (i ≤ j))
def gtI := opI2 yes2 fun i j => .bl (decide (j < i))
def geI := opI2 yes2 fun i j => .bl (decide (j ≤ i))
def addS : D → D → Option EV := fun x y => match x, y with
  | .str a, .str b => if a.length + b.length ≤ big then some (.v (.str (a ++ b))) else none
  | _, _ => none
def addL : D → D → Option EV := fun x y => match x, y with
  | .lst a, .lst b => if a.length + b.length ≤ big then some (.o (.lst (a ++ b))) else none
  | _, _ => none
def addT : D → D → Option EV := fun x y => match x, y with
  | .tup a, .tup b => if a.length + b.length ≤ big then some (.v (.tup (a ++ b))) else none
  | _, _ => none
def addD : D → D → Option EV := orD addI (orD addS (orD addL addT))
theorem big_line : big ≤ sizeLine := by rw [sizeLine_eq]; unfold big; omega
theorem mkS_app (a b : List Nat) : mkS a ++ mkS b = mkS (a ++ b) := by
  show Str.append (mkS a) (mkS b) = _
  simp [Str.append, mkS]
section
variable {X : Cx} {T : Tab}
theorem op_int0 {f : Value → Value → Sem Value} {gv : Int → Int → V} {g : Int → Int → D} (ho : OpR X f (rI0 gv)) (hg : ∀ ex H i j, Rep X.K T ex H (g i j) (gv i j)) : OpR X f (rQ X.K T (opI2 yes2 g)) :=
  op_of ho fun x y H Q h => let ⟨i, j, a, b, _, q⟩ := rQ_int (gv := gv) hg h; ⟨i, j, a, b, q⟩
theorem op_intC {f : Value → Value → Sem Value} {C : Int → Int → Prop} {c : Int → Int → Bool} {gv : Int → Int → V} {g : Int → Int → D} (ho : OpR X f (rI C gv)) (hc : ∀ i j, c i j = true → C i j) (hg : ∀ ex H i j, Rep X.K T ex H (g i j) (gv i j)) : OpR X f (rQ X.K T (opI2 c g)) :=
  op_of ho fun x y H Q h => let ⟨i, j, a, b, c, q⟩ := rQ_int (gv := gv) hg h; ⟨i, j, a, b, hc _ _ c, q⟩
theorem op_addI : OpR X (binaryOp .Add) (rQ X.K T addI) := op_int0 op_add fun _ _ _ _ => rfl
theorem op_subD : OpR X (binaryOp .Sub) (rQ X.K T subD) := op_int0 op_sub fun _ _ _ _ => rfl
theorem op_mulI : OpR X (binaryOp .Mult) (rQ X.K T mulI) := op_intC op_mul (fun _ _ h => of_decide_eq_true (p := (-(2 ^ 64) < _ ∧ _ < 2 ^ 64) ∨ (-(2 ^ 64) < _ ∧ _ < 2 ^ 64)) h) fun _ _ _ _ => rfl
theorem op_divD : OpR X (binaryOp .FloorDiv) (rQ X.K T divD) := op_intC op_fdiv (fun _ _ h => of_decide_eq_true (p := 0 < _ ∧ _ < 1073741824) h) fun _ _ _ _ => rfl
theorem op_modD : OpR X (binaryOp .Mod) (rQ X.K T modD) := op_intC op_mod (fun _ _ h => of_decide_eq_true (p := 0 < _) h) fun _ _ _ _ => rfl
theorem op_powD : OpR X (binaryOp .Pow) (rQ X.K T powD) := op_intC op_pow (fun _ _ h => of_decide_eq_true (p := 0 ≤ _ ∧ _ ≤ 1000000 ∧ _ < 2 ^ 64) h) fun _ _ _ _ => rfl
theorem op_ltI : OpR X (compareOp .Lt) (rQ X.K T ltI) := op_int0 op_lt fun _ _ _ _ => rfl
theorem op_leI : OpR X (compareOp .LtE) (rQ X.K T leI) := op_int0 op_le fun _ _ _ _ => rfl
theorem op_gtI : OpR X (compareOp .Gt) (rQ X.K T gtI) := op_int0 op_gt fun _ _ _ _ => rfl
theorem op_addS : OpR X (binaryOp .Add) (rQ X.K T addS) := op_of op_add_str fun x y H Q ⟨ex, d1, d2, ev, dm, r1, r2, e, k⟩ => by
  unfold addS at e
  split at e
  · split at e
    · rename_i a b hc
      cases e
      refine ⟨mkS a, mkS b, r1, r2, by rw [mkS_len, mkS_len]; exact Nat.le_trans hc big_line, k _ H (fun _ _ z => z) ?_⟩
      show V.str (mkS a ++ mkS b) = V.str (mkS (a ++ b))
      rw [mkS_app]
    · cases e
  · cases e
theorem op_addL : OpR X (binaryOp .Add) (rQ X.K T addL) := op_of op_cat fun x y H Q ⟨ex, d1, d2, ev, dm, r1, r2, e, k⟩ => by
  unfold addL at e
  split at e
  · split at e
    · rename_i a b hc
      cases e
      obtain ⟨p, vs, rfl, h1, h2⟩ := r1
      obtain ⟨q, ws, rfl, h3, h4⟩ := r2
      refine ⟨p, q, vs, ws, rfl, rfl, h1, h3, by rw [← h2.length, ← h4.length]; exact Nat.le_trans hc big_line, fun n hn => ?_⟩
      exact k _ _ (ext_new hn) ⟨n, rfl, hn, rep_newL hn (h2.append h4)⟩
    · cases e
  · cases e
theorem op_addT : OpR X (binaryOp .Add) (rQ X.K T addT) := op_of op_catA fun x y H Q ⟨ex, d1, d2, ev, dm, r1, r2, e, k⟩ => by
  unfold addT at e
  split at e
  · split at e
    · rename_i a b hc
      cases e
      obtain ⟨p, vs, rfl, n1, h1, h2⟩ := r1
      obtain ⟨q, ws, rfl, n2, h3, h4⟩ := r2
      refine ⟨p, q, vs, ws, rfl, rfl, .of h1, .of h3, by rw [← h2.length, ← h4.length]; exact Nat.le_trans hc big_line, fun z => ?_, fun _ z => ?_, fun _ _ n hn => ?_⟩
      · subst z
        cases a with
        | nil => exact k _ H (fun _ _ z => z) ⟨q, ws, rfl, n2, h3, h4⟩
        | cons _ _ => have := h2.length; simp at this
      · subst z
        cases b with
        | nil => rw [List.append_nil] at k; exact k _ H (fun _ _ z => z) ⟨p, vs, rfl, n1, h1, h2⟩
        | cons _ _ => have := h4.length; simp at this
      · exact k _ _ (ext_new hn) ⟨n, _, rfl, fun z => dm n z hn, upd_same, (h2.append h4).mono fun b o nb e => ⟨nb, ext_new hn b o e⟩⟩
    · cases e
  · cases e
theorem op_addD : OpR X (binaryOp .Add) (rQ X.K T addD) := op_or op_addI (op_or op_addS (op_or op_addL op_addT))
end

/-! ### comparisons -/
def scalD : D → D → Bool
  | .non, .non => true | .non, .int _ => true | .int _, .non => true | .non, .bl _ => true | .bl _, .non => true | .non, .str _ => true | .str _, .non => true
  | .int _, .int _ => true | .bl _, .bl _ => true | .str _, .str _ => true
  | .int _, .str _ => true | .str _, .int _ => true | .bl _, .str _ => true | .str _, .bl _ => true
  | _, _ => false
def scEq : D → D → Bool
  | .non, .non => true
  | .int i, .int j => i == j
  | .bl a, .bl b => a == b
  | .str a, .str b => a == b
  | _, _ => false
def eqS : D → D → Option EV := fun x y => if scalD x y = true then some (vB (scEq x y)) else none
def neS : D → D → Option EV := fun x y => if scalD x y = true then some (vB (!scEq x y)) else none
def eqP (n : Bool) : D → D → Option EV := fun x y => match toP x, toP y with
  | some p, some q => if SeqAt.shaped p = true ∧ SeqAt.shaped q = true then some (vB (n ^^ PyData.eqv p q)) else none
  | _, _ => none
def eqD : D → D → Option EV := orD eqS (eqP false)
def neD : D → D → Option EV := orD neS (eqP true)
def ltS : D → D → Option EV := fun x y => match x, y with
  | .str a, .str b => some (vB (decide (a < b)))
  | _, _ => none
def ltD := orD ltI ltS
def isNon : D → Option Bool
  | .non => some true
  | .raw _ => none
  | .clo _ _ _ => none
  | _ => some false
def isD (n : Bool) : D → D → Option EV := fun x y => match y with
  | .non => (isNon x).map fun b => vB (n ^^ b)
  | _ => none
def isB (n : Bool) : D → D → Option EV := fun x y => match x, y with
  | .bl a, .bl b => some (vB (n ^^ (a == b)))
  | _, _ => none
section
variable {X : Cx} {T : Tab}
theorem sc_eq {K : PySem.W.Frag} {ex : Addr → Prop} {H : Hp} {d e : D} {x y : V} (h : scalD d e = true) (r1 : Rd1 K T ex H d x) (r2 : Rd1 K T ex H e y) : scal x y = true ∧ decide (x = y) = scEq d e := by
  unfold scalD at h
  split at h <;> first
  | (cases h; done)
  | (cases (show x = _ from r1); cases (show y = _ from r2); refine ⟨rfl, ?_⟩; unfold scEq; first | rfl | (rw [Bool.eq_iff_iff]; simp [mkS_inj]) | simp)
theorem op_eqS : OpR X (compareOp .Eq) (rQ X.K T eqS) := op_of op_eq fun x y H Q ⟨ex, d1, d2, ev, dm, r1, r2, e, k⟩ => by
  unfold eqS at e
  split at e
  · rename_i h
    cases e
    obtain ⟨a, b⟩ := sc_eq h r1 r2
    refine ⟨a, k _ H (fun _ _ z => z) ?_⟩
    show V.bl _ = V.bl _
    rw [b]
  · cases e
theorem op_eqP (hu : X.A.units + 64 < cLine) : OpR X (compareOp .Eq) (rQ X.K T (eqP false)) := op_of (op_eqD hu) fun x y H Q ⟨ex, d1, d2, ev, dm, r1, r2, e, k⟩ => by
  unfold eqP at e
  split at e
  · rename_i p q hp hq
    split at e
    · rename_i h
      cases e
      exact ⟨p, q, r1.dp hp, r2.dp hq, h.1, h.2, k _ H (fun _ _ z => z) (by show V.bl _ = V.bl _; rw [Bool.false_xor])⟩
    · cases e
  · cases e
theorem op_eqQ (hu : X.A.units + 64 < cLine) : OpR X (compareOp .Eq) (rQ X.K T eqD) := op_or op_eqS (op_eqP hu)
theorem op_ltS : OpR X (compareOp .Lt) (rQ X.K T ltS) := op_of op_lt_str fun x y H Q ⟨ex, d1, d2, ev, dm, r1, r2, e, k⟩ => by
  unfold ltS at e
  split at e
  · rename_i a b
    cases e
    exact ⟨mkS a, mkS b, r1, r2, k _ H (fun _ _ z => z) (by show V.bl _ = V.bl _; rw [mkS_cps, mkS_cps])⟩
  · cases e
theorem op_ltQ : OpR X (compareOp .Lt) (rQ X.K T ltD) := op_or op_ltI op_ltS
theorem is_non {K : PySem.W.Frag} {ex : Addr → Prop} {H : Hp} {d : D} {x : V} {b : Bool} (h : isNon d = some b) (r : Rd1 K T ex H d x) : decide (x = .non) = b := by
  cases d with
  | non => cases h; cases (show x = _ from r); rfl
  | bl c => cases h; cases (show x = _ from r); rfl
  | int c => cases h; cases (show x = _ from r); rfl
  | str c => cases h; cases (show x = _ from r); rfl
  | tup c => cases h; obtain ⟨a, vs, rfl, _⟩ := r; rfl
  | lst c => cases h; obtain ⟨a, vs, rfl, _⟩ := r; rfl
  | dic c e => cases h; obtain ⟨a, vs, rfl, _⟩ := r; rfl
  | obj c e => cases h; obtain ⟨a, dx, vs, rfl, _⟩ := r; rfl
  | raw v => cases h
  | scr c => cases h; obtain ⟨a, rfl, _⟩ := r; rfl
  | clo f us ds => cases h
theorem op_isNon : OpR X (compareOp .Is) (rQ X.K T (isD false)) := op_of op_isN fun x y H Q ⟨ex, d1, d2, ev, dm, r1, r2, e, k⟩ => by
  unfold isD at e
  split at e
  · obtain ⟨b, h, rfl⟩ := Option.map_eq_some_iff.mp e
    exact ⟨r2, k _ H (fun _ _ z => z) (by show V.bl _ = V.bl _; rw [is_non h r1, Bool.false_xor])⟩
  · cases e
end
end Dt
end
section
set_option maxRecDepth 100000
set_option maxHeartbeats 4000000
/-! QL: calls of built-in functions and methods, subscripts, slices, membership. -/
namespace Dt
open PySem PySem.Spec
open L2 hiding passL ps_try_many HdsOk takes0 XE Takes CX takes_of passes_call PMk MkP ps_raise mk_of ps_try_as pmk_own
open L2N hiding St
open PyProof.Rows hiding St

def Rd1s (K : PySem.W.Frag) (T : Tab) (ex : Addr → Prop) (H : Hp) (ds : List D) (vs : List V) : Prop := Paired (fun d v => Rd1 K T ex H d v) ds vs
def rB (K : PySem.W.Frag) (T : Tab) (op : List D → Option EV) : List V → Hp → VK → Prop := fun vs H Q => ∃ ex ds ev, (∀ a, ex a → H a ≠ none) ∧ Rd1s K T ex H ds vs ∧ op ds = some ev ∧ ∀ v H', Ext H H' → RepV K T ex H H' v ev → Q v H'
def derefs (env : Sl) : List AV → Option (List D)
  | [] => some []
  | a :: as => (deref env a).bind fun d => (derefs env as).map (d :: ·)
def bM (op : List D → Option EV) (as : List AV) : M EV := fun env => (derefs env as).bind fun ds => lift (op ds) env
def eB (op : List D → Option EV) (fs : M (List AV)) : M EV := M.bind fs fun as => bM op as
section
variable {K : PySem.W.Frag} {T : Tab} {ex : Addr → Prop} {σ : St} {H : Hp} {env : Sl} {W : WX} {Q : VK}
theorem derefs_ok (g : Good K T ex σ H env) : ∀ {as : List AV} {vs : List V} {ds : List D}, Paired (fun a v => RepA K T ex σ env H v a) as vs → derefs env as = some ds → Rd1s K T (exO ex σ env) H ds vs
  | [], _, _, .nil, e => by cases e; exact .nil
  | a :: as, _, _, .cons h t, e => by
    unfold derefs at e
    obtain ⟨d, e1, e⟩ := opt_bind e
    obtain ⟨ds, e2, rfl⟩ := Option.map_eq_some_iff.mp e
    exact .cons (deref_ok g h e1) (derefs_ok g t e2)
theorem trx_b {op : List D → Option EV} {as : List AV} {vs : List V} (h : trx K T (relE K T) ex (bM op as) env W σ H Q) (rs : Paired (fun a v => RepA K T ex σ env H v a) as vs) : rB K T op vs H Q := by
  obtain ⟨g, r, e, o⟩ := h
  obtain ⟨ds, e1, e⟩ := opt_bind e
  cases q : op ds with
  | none => rw [q] at e; cases e
  | some ev =>
    rw [q] at e
    cases e
    exact ⟨_, ds, ev, g.dm, derefs_ok g rs e1, q, fun v H' k r => o v H' (Step.ext g k) (r.e g k)⟩
end
section
variable {T : Tab} {X : Cx} {id Ty : String} {op : List D → Option EV} {x name : Str} {p pos apos : Pos} {e o : Expr} {es : List Expr} {fs : M (List AV)} {fo : M AV}
theorem qe_callB (hc : ∀ pn xe, CallR (X.tr pn xe) (.builtin id) (rB X.K T op)) (hg : Gl X x) (hm : X.mg x = none) (hv : bootBuiltins x = some (.builtin id)) (ha : QAs T X (e :: es) fs) (hn : x ≠ "__name__" := by decide) (hdb : (x == ("__debug__" : Str)) = false := by decide)
    (he : starEach (e :: es) X.env = (false, eval e X.env) :: starEach es X.env := by rfl) (hpl : (backTo pos (starEach es X.env)).any (·.1) = false := by rfl) : QE T X (.Call (.Name x p) (e :: es) [] pos) (eB op fs) := fun pn xe W tk hp =>
  impE (pe_callB (X := X.tr pn xe) (hc pn xe) hg hm hv (ha pn xe W tk hp) hn hdb he hpl) fun σ H Q ⟨ex, env, q⟩ => ⟨ex, env, (trx_bind (relAs X.K T) rmE q).mono fun vs H1 ⟨as, env1, s, ra, q⟩ => trx_b q ra⟩
theorem qe_callTy (hc : ∀ pn xe, CallR (X.tr pn xe) (.type Ty) (rB X.K T op)) (hg : Gl X x) (hm : X.mg x = none) (hv : bootBuiltins x = some (.type Ty)) (ha : QAs T X (e :: es) fs) (hn : x ≠ "__name__" := by decide) (hdb : (x == ("__debug__" : Str)) = false := by decide)
    (he : starEach (e :: es) X.env = (false, eval e X.env) :: starEach es X.env := by rfl) (hpl : (backTo pos (starEach es X.env)).any (·.1) = false := by rfl) : QE T X (.Call (.Name x p) (e :: es) [] pos) (eB op fs) := fun pn xe W tk hp =>
  impE (pe_callTy (X := X.tr pn xe) (hc pn xe) hg hm hv (ha pn xe W tk hp) hn hdb he hpl) fun σ H Q ⟨ex, env, q⟩ => ⟨ex, env, (trx_bind (relAs X.K T) rmE q).mono fun vs H1 ⟨as, env1, s, ra, q⟩ => trx_b q ra⟩
/-- o.m(..), m of a built-in type -/
def tyM (ty : D → Bool) (a : AV) (m : M EV) : M EV := fun env => match deref env a with
  | some d => if ty d = true then m env else none
  | none => none
def eBM (ty : D → Bool) (op : List D → Option EV) (fo : M AV) (fs : M (List AV)) : M EV := M.bind fo fun a => tyM ty a (M.bind fs fun as => bM op (a :: as))
theorem qe_meB {ty : D → Bool} (hT : ∀ d ex H v, ty d = true → Rd1 X.K T ex H d v → tyV X.K Ty v H) {r : V → List V → Hp → VK → Prop} (pa : PlainAttrs Ty) (slot : PySem.Slot Ty name id) (hty : typeOf (.builtin id) = pure (.type "method_descriptor"))
    (hm : ∀ pn xe, MtR (X.tr pn xe) id r) (hr : ∀ x vs H Q, rB X.K T op (x :: vs) H Q → r x vs H Q) (ho : QO T X o fo) (ha : QAs T X (e :: es) fs)
    (hbase : attributeBase o name X.env (eval o X.env) = eval o X.env := by rfl)
    (hfew : ((backTo pos (starEach (e :: es) X.env)).all (fun x => !x.1) && (backToKw pos (keywordEach [] X.env)).all (fun x => x.1.isSome)
      && decide ((e :: es).length + ([] : List Keyword).length + (if ([] : List Keyword).isEmpty then 0 else 1) < 30)) = true := by rfl)
    (hline : (apos.endLine == pos.line) = true := by rfl) (hs : starEach (e :: es) X.env = (false, eval e X.env) :: starEach es X.env := by rfl) (hplain : (backTo pos (starEach es X.env)).any (·.1) = false := by rfl) :
    QE T X (.Call (.Attribute o name apos) (e :: es) [] pos) (eBM ty op fo fs) := fun pn xe W tk hp => by
  refine impE (pe_bm (X := X.tr pn xe) pa slot hty (hm pn xe) (ho pn xe W tk hp) (ha pn xe W tk hp) hbase hfew hline hs hplain) fun σ H Q ⟨ex, env, q⟩ => ?_
  refine ⟨ex, env, (trx_bind (relA X.K T) rmE q).mono fun v H1 ⟨a, env1, s, ra, g, rr, er, oo⟩ => ?_⟩
  unfold tyM at er
  split at er
  · split at er
    · rename_i d hd hty'
      refine ⟨hT d _ H1 v hty' (deref_ok g ra hd), ex, env1, (trx_bind (relAs X.K T) rmE ⟨g, rr, er, oo⟩).mono fun vs H2 ⟨as, env2, s2, rs, q2⟩ => hr _ _ _ _ (trx_b q2 (.cons (RepA.step ra s2) rs))⟩
    · cases er
  · cases er
end

section
variable {X : Cx} {T : Tab} {f : Value}
theorem cr_of {g : List D → Option EV} {r : List V → Hp → VK → Prop} (h : CallR X f r) (k : ∀ xs H Q, rB X.K T g xs H Q → r xs H Q) : CallR X f (rB X.K T g) := fun pins s σ H xs us Q I rs q => h pins s σ H xs us Q I rs (k _ _ _ q)
end
/-- the items of a list or tuple (the script, too) -/
def seqD : D → Option (List D)
  | .lst xs => some xs
  | .tup xs => some xs
  | .scr ns => some (ns.map D.int)
  | _ => none
section
variable {K : PySem.W.Frag} {T : Tab} {ex : Addr → Prop} {H : Hp}
theorem ints_repL : ∀ (ns : List Int), RepL K T ex H (ns.map D.int) (ns.map V.int)
  | [] => rfl
  | s :: ss => ⟨_, _, rfl, rfl, ints_repL ss⟩
theorem seq_of {d : D} {xs : List D} {v : V} (e : seqD d = some xs) (r : Rd1 K T ex H d v) : ∃ a vs, v = .ref a ∧ (SqL K H a vs ∨ SqT K H a vs) ∧ RepL K T ex H xs vs := by
  cases d with
  | lst ds => cases e; obtain ⟨a, vs, rfl, h1, h2⟩ := r; exact ⟨a, vs, rfl, .inl (.of h1), h2⟩
  | tup ds => cases e; obtain ⟨a, vs, rfl, _, h1, h2⟩ := r; exact ⟨a, vs, rfl, .inr (.of h1), h2⟩
  | scr ns =>
    cases e
    obtain ⟨a, rfl, h⟩ := r
    refine ⟨a, _, rfl, .inl ?_, ints_repL ns⟩
    rcases h with ⟨_, o, h⟩ | h
    · exact .inl (.inr ⟨o, h⟩)
    · exact .inr h
  | _ => cases e
end
def lenD : List D → Option EV
  | [.str s] => if s.length ≤ big then some (vI s.length) else none
  | [d] => (seqD d).map fun xs => vI xs.length
  | _ => none
def listD : List D → Option EV
  | [d] => match d with
    | .lst xs => some (.o (.lst xs))
    | .tup xs => some (.o (.lst xs))
    | _ => none
  | _ => none
def tupD : List D → Option EV
  | [d] => match d with
    | .lst xs => some (.v (.tup xs))
    | .tup xs => some (.v (.tup xs))
    | _ => none
  | _ => none
def maxI : List D → Option EV
  | [.int i, .int j] => some (vI (if j > i then j else i))
  | _ => none
def minI : List D → Option EV
  | [.int i, .int j] => some (vI (if j < i then j else i))
  | _ => none
def absD : List D → Option EV
  | [.int i] => some (vI (if i < 0 then -i else i))
  | _ => none
def intD : List D → Option EV
  | [.int i] => some (vI i)
  | [.bl b] => some (vI (if b then 1 else 0))
  | _ => none
def blsOf : List D → Option (List Bool)
  | [] => some []
  | .bl b :: r => (blsOf r).map (b :: ·)
  | _ :: _ => none
def intsOf : List D → Option (List Int)
  | [] => some []
  | .int b :: r => (intsOf r).map (b :: ·)
  | _ :: _ => none
def allD : List D → Option EV
  | [.lst xs] => (blsOf xs).map fun bs => vB (bs.all id)
  | _ => none
def anyD : List D → Option EV
  | [.lst xs] => (blsOf xs).map fun bs => vB (bs.any id)
  | _ => none
def sumD : List D → Option EV
  | [.lst xs] => (intsOf xs).map fun ns => vI ns.sum
  | _ => none
section
variable {K : PySem.W.Frag} {T : Tab} {ex : Addr → Prop} {H : Hp}
theorem bls_rep : ∀ {ds : List D} {ss : List Bool} {vs : List V}, blsOf ds = some ss → RepL K T ex H ds vs → vs = ss.map V.bl
  | [], ss, vs, e, r => by cases e; cases (show vs = [] from r); rfl
  | d :: ds, ss, _, e, ⟨v, w, e1, h1, h2⟩ => by
    cases d with
    | bl b =>
      unfold blsOf at e
      obtain ⟨ts, e2, rfl⟩ := Option.map_eq_some_iff.mp e
      subst e1
      cases (show v = V.bl b from h1)
      rw [bls_rep e2 h2]; rfl
    | _ => cases e
theorem one_of {d : D} {vs : List V} (r : Rd1s K T ex H [d] vs) : ∃ v, vs = [v] ∧ Rd1 K T ex H d v := by
  cases r with
  | cons h t => cases t; exact ⟨_, rfl, h⟩
theorem two_of {d e : D} {vs : List V} (r : Rd1s K T ex H [d, e] vs) : ∃ v w, vs = [v, w] ∧ Rd1 K T ex H d v ∧ Rd1 K T ex H e w := by
  cases r with
  | cons h t =>
    obtain ⟨w, rfl, h2⟩ := one_of t
    exact ⟨_, w, rfl, h, h2⟩
theorem ext_refl : Ext H H := fun _ _ z => z
end
theorem len_inv {ds : List D} {ev : EV} (e : lenD ds = some ev) : (∃ s, ds = [.str s] ∧ s.length ≤ big ∧ ev = vI s.length) ∨ ∃ d xs, ds = [d] ∧ seqD d = some xs ∧ ev = vI xs.length := by
  unfold lenD at e
  split at e
  · split at e
    · cases e; exact .inl ⟨_, rfl, by assumption, rfl⟩
    · cases e
  · obtain ⟨xs, e1, rfl⟩ := Option.map_eq_some_iff.mp e
    exact .inr ⟨_, xs, rfl, e1, rfl⟩
  · cases e
section
variable {X : Cx} {T : Tab}
theorem cr_len : CallR X (.builtin "len") (rB X.K T lenD) := cr_of call_len fun xs H Q ⟨ex, ds, ev, dm, r, e, k⟩ => by
  rcases len_inv e with ⟨s, rfl, hs, rfl⟩ | ⟨d, ys, rfl, hd, rfl⟩
  · obtain ⟨v, rfl, h⟩ := one_of r
    cases (show v = V.str (mkS s) from h)
    exact ⟨_, s.length, rfl, ⟨by rw [mkS_len]; exact Nat.le_trans hs big_line, by rw [mkS_len]⟩, k _ _ ext_refl rfl⟩
  · obtain ⟨v, rfl, h⟩ := one_of r
    obtain ⟨a, vs, rfl, h1, h2⟩ := seq_of hd h
    refine ⟨_, ys.length, rfl, ?_, k _ _ ext_refl rfl⟩
    rcases h1 with h1 | h1
    · exact .inl ⟨vs, h1, h2.length⟩
    · exact .inr ⟨vs, h1, h2.length⟩
theorem cr_list : CallR X (.type "list") (rB X.K T listD) := cr_of call_list_of fun xs H Q ⟨ex, ds, ev, dm, r, e, k⟩ => by
  unfold listD at e
  split at e
  · obtain ⟨v, rfl, h⟩ := one_of r
    split at e
    · cases e
      obtain ⟨a, vs, rfl, h1, h2⟩ := h
      exact ⟨a, vs, rfl, .inl (.of h1), fun l hl => k _ _ (ext_new hl) ⟨l, rfl, hl, rep_newL hl h2⟩⟩
    · cases e
      obtain ⟨a, vs, rfl, _, h1, h2⟩ := h
      exact ⟨a, vs, rfl, .inr (.of h1), fun l hl => k _ _ (ext_new hl) ⟨l, rfl, hl, rep_newL hl h2⟩⟩
    · cases e
  · cases e
theorem cr_tup : CallR X (.type "tuple") (rB X.K T tupD) := cr_of call_tuple_of fun xs H Q ⟨ex, ds, ev, dm, r, e, k⟩ => by
  unfold tupD at e
  split at e
  · obtain ⟨v, rfl, h⟩ := one_of r
    split at e
    · cases e
      obtain ⟨a, vs, rfl, h1, h2⟩ := h
      exact ⟨a, vs, rfl, .inl ⟨.of h1, fun l hl => k _ _ (ext_new hl) ⟨l, vs, rfl, fun z => dm l z hl, upd_same, h2.mono fun b o nb e => ⟨nb, ext_new hl b o e⟩⟩⟩⟩
    · cases e
      obtain ⟨a, vs, rfl, n, h1, h2⟩ := h
      exact ⟨a, vs, rfl, .inr ⟨.of h1, k _ _ ext_refl ⟨a, vs, rfl, n, h1, h2⟩⟩⟩
    · cases e
  · cases e
theorem cr_max2 (hc : X.calm = true) : CallR X (.builtin "max") (rB X.K T maxI) := cr_of (call_max2 hc) fun xs H Q ⟨ex, ds, ev, dm, r, e, k⟩ => by
  unfold maxI at e
  split at e
  · cases e
    obtain ⟨v, w, rfl, h1, h2⟩ := two_of r
    cases (show v = _ from h1); cases (show w = _ from h2)
    exact ⟨_, _, rfl, k _ _ ext_refl rfl⟩
  · cases e
theorem cr_min2 (hc : X.calm = true) : CallR X (.builtin "min") (rB X.K T minI) := cr_of (call_min2 hc) fun xs H Q ⟨ex, ds, ev, dm, r, e, k⟩ => by
  unfold minI at e
  split at e
  · cases e
    obtain ⟨v, w, rfl, h1, h2⟩ := two_of r
    cases (show v = _ from h1); cases (show w = _ from h2)
    exact ⟨_, _, rfl, k _ _ ext_refl rfl⟩
  · cases e
theorem cr_allQ (hc : X.calm = true) : CallR X (.builtin "all") (rB X.K T allD) := cr_of (cr_all hc) fun xs H Q ⟨ex, ds, ev, dm, r, e, k⟩ => by
  unfold allD at e
  split at e
  · obtain ⟨bs, e1, rfl⟩ := Option.map_eq_some_iff.mp e
    obtain ⟨v, rfl, a, vs, rfl, h1, h2⟩ := one_of r
    cases bls_rep e1 h2
    exact ⟨a, bs, rfl, .of h1, k _ _ ext_refl rfl⟩
  · cases e
end

/-! ### methods of texts -/
def isStrD : D → Bool
  | .str _ => true
  | _ => false
def splitS (a b : List Nat) : List (List Nat) := (Txt.split (mkS a) (mkS b)).map fun s => s.cps.toList
def joinS (a : List Nat) (ys : List (List Nat)) : List Nat := (Txt.join (mkS a) (ys.map mkS)).cps.toList
def splitD : List D → Option EV
  | [.str a, .str b] => if b ≠ [] ∧ a.length ≤ big then some (.o (.lst ((splitS a b).map D.str))) else none
  | _ => none
def joinD : List D → Option EV
  | [.str a, .lst xs] => (strsOf xs).bind fun ys => if (ys.map (·.length)).sum + ys.length * a.length ≤ big then some (.v (.str (joinS a ys))) else none
  | [.str a, .tup xs] => (strsOf xs).bind fun ys => if (ys.map (·.length)).sum + ys.length * a.length ≤ big then some (.v (.str (joinS a ys))) else none
  | _ => none
def countD : List D → Option EV
  | [.str a, .str b] => some (vI (Txt.count (mkS a) (mkS b)))
  | _ => none
theorem joinD_inv {ds : List D} {ev : EV} (e : joinD ds = some ev) : ∃ a d xs ys, ds = [.str a, d] ∧ seqD d = some xs ∧ strsOf xs = some ys ∧ (ys.map (·.length)).sum + ys.length * a.length ≤ big ∧ ev = .v (.str (joinS a ys)) := by
  unfold joinD at e
  split at e
  · obtain ⟨ys, e1, e⟩ := opt_bind e
    split at e
    · cases e; exact ⟨_, _, _, ys, rfl, rfl, e1, by assumption, rfl⟩
    · cases e
  · obtain ⟨ys, e1, e⟩ := opt_bind e
    split at e
    · cases e; exact ⟨_, _, _, ys, rfl, rfl, e1, by assumption, rfl⟩
    · cases e
  · cases e
section
variable {T : Tab} {X : Cx} {o e : Expr} {es : List Expr} {pos apos : Pos} {fs : M (List AV)} {fo : M AV}
theorem str_tyV {K : PySem.W.Frag} (d : D) (ex : Addr → Prop) (H : Hp) (v : V) (h : isStrD d = true) (r : Rd1 K T ex H d v) : tyV K "str" v H := by
  cases d <;> first | (cases h; done) | (cases (show v = _ from r); rfl)
theorem qe_split (ho : QO T X o fo) (ha : QAs T X [e] fs) (hbase : attributeBase o "split" X.env (eval o X.env) = eval o X.env := by rfl)
    (hfew : ((backTo pos (starEach [e] X.env)).all (fun x => !x.1) && (backToKw pos (keywordEach [] X.env)).all (fun x => x.1.isSome) && decide ([e].length + ([] : List Keyword).length + (if ([] : List Keyword).isEmpty then 0 else 1) < 30)) = true := by rfl)
    (hline : (apos.endLine == pos.line) = true := by rfl) (hs : starEach [e] X.env = (false, eval e X.env) :: starEach [] X.env := by rfl) :
    QE T X (.Call (.Attribute o "split" apos) [e] [] pos) (eBM isStrD splitD fo fs) :=
  qe_meB (Ty := "str") str_tyV PySem.F.plainAttrs_str PySem.F.slot_str_split PySem.F.type_str_split (fun pn xe => mt_split) (fun x vs H Q ⟨ex, ds, ev, dm, r, e, k⟩ => by
    unfold splitD at e
    split at e
    · split at e
      · rename_i a b hc
        cases e
        cases r with
        | cons h1 t =>
          obtain ⟨w, rfl, h2⟩ := one_of t
          refine ⟨mkS a, mkS b, h1, by rw [show w = V.str (mkS b) from h2], ?_, by rw [mkS_len, sizeLine_eq]; have := hc.2; unfold big at this; omega, fun p hp => ?_⟩
          · rw [mkS_len]
            exact beq_eq_false_iff_ne.mpr fun z => hc.1 (List.length_eq_zero_iff.mp z)
          · refine k _ _ (ext_new hp) ⟨p, rfl, hp, rep_newL hp ?_⟩
            have e : (Txt.split (mkS a) (mkS b)).map V.str = ((splitS a b).map mkS).map V.str := by
              unfold splitS
              rw [List.map_map, List.map_map]
              exact List.map_congr_left fun s _ => by show V.str s = V.str (mkS s.cps.toList); rw [mkS_tl]
            rw [e]
            exact strs_repL _
      · cases e
    · cases e) ho ha hbase hfew hline hs rfl
def rJoinV (K : PySem.W.Frag) : V → List V → Hp → VK → Prop := fun x xs H Q => ∃ a p, ∃ ys : List Str, x = .str a ∧ xs = [.ref p] ∧ (SqL K H p (ys.map V.str) ∨ SqT K H p (ys.map V.str)) ∧
    (ys.map (·.length)).sum + ys.length * a.length ≤ 16777216 ∧ Q (.str (Txt.join a ys)) H
theorem qe_join (ho : QO T X o fo) (ha : QAs T X [e] fs) (hbase : attributeBase o "join" X.env (eval o X.env) = eval o X.env := by rfl)
    (hfew : ((backTo pos (starEach [e] X.env)).all (fun x => !x.1) && (backToKw pos (keywordEach [] X.env)).all (fun x => x.1.isSome) && decide ([e].length + ([] : List Keyword).length + (if ([] : List Keyword).isEmpty then 0 else 1) < 30)) = true := by rfl)
    (hline : (apos.endLine == pos.line) = true := by rfl) (hs : starEach [e] X.env = (false, eval e X.env) :: starEach [] X.env := by rfl) :
    QE T X (.Call (.Attribute o "join" apos) [e] [] pos) (eBM isStrD joinD fo fs) :=
  qe_meB (Ty := "str") (r := rJoinV X.K) str_tyV PySem.F.plainAttrs_str PySem.F.slot_str_join PySem.F.type_str_join (fun pn xe => mt_join (X := X.tr pn xe)) (fun x vs H Q ⟨ex, ds, ev, dm, r, e, k⟩ => by
    obtain ⟨a, d, xs, ys, rfl, h1, h2, h3, rfl⟩ := joinD_inv e
    cases r with
    | cons r1 t =>
      obtain ⟨w, rfl, r2⟩ := one_of t
      obtain ⟨p, vs, rfl, h4, h5⟩ := seq_of h1 r2
      cases strs_rep h2 h5
      refine ⟨mkS a, p, ys.map mkS, r1, rfl, h4, ?_, k _ _ ext_refl ?_⟩
      · rw [List.map_map, List.length_map, mkS_len]
        have e : (ys.map (Str.length ∘ mkS)) = ys.map (·.length) := List.map_congr_left fun s _ => mkS_len s
        rw [e]
        unfold big at h3
        omega
      · show V.str _ = V.str (mkS (joinS a ys))
        unfold joinS
        rw [mkS_tl]) ho ha hbase hfew hline hs rfl
theorem qe_count (ho : QO T X o fo) (ha : QAs T X [e] fs) (hbase : attributeBase o "count" X.env (eval o X.env) = eval o X.env := by rfl)
    (hfew : ((backTo pos (starEach [e] X.env)).all (fun x => !x.1) && (backToKw pos (keywordEach [] X.env)).all (fun x => x.1.isSome) && decide ([e].length + ([] : List Keyword).length + (if ([] : List Keyword).isEmpty then 0 else 1) < 30)) = true := by rfl)
    (hline : (apos.endLine == pos.line) = true := by rfl) (hs : starEach [e] X.env = (false, eval e X.env) :: starEach [] X.env := by rfl) :
    QE T X (.Call (.Attribute o "count" apos) [e] [] pos) (eBM isStrD countD fo fs) :=
  qe_meB (Ty := "str") str_tyV PySem.F.plainAttrs_str PySem.F.slot_str_count PySem.F.type_str_count (fun pn xe => mt_count) (fun x vs H Q ⟨ex, ds, ev, dm, r, e, k⟩ => by
    unfold countD at e
    split at e
    · cases e
      cases r with
      | cons h1 t =>
        obtain ⟨w, rfl, h2⟩ := one_of t
        exact ⟨_, _, h1, by rw [show w = _ from h2], k _ _ ext_refl rfl⟩
    · cases e) ho ha hbase hfew hline hs rfl
end

/-! ### subscripts, slices -/
def ixD : D → D → Option EV := fun x y => match y with
  | .int i => match x with
    | .str s => if s.length ≤ big then (atI s i).map fun c => .v (.str [c]) else none
    | d => (seqD d).bind fun xs => (atI xs i).map .v
  | _ => none
theorem atI_rep {K : PySem.W.Frag} {T : Tab} {ex : Addr → Prop} {H : Hp} {xs : List D} {vs : List V} {i : Int} {d : D} (h : RepL K T ex H xs vs) (e : atI xs i = some d) : ∃ v, atI vs i = some v ∧ Rep K T ex H d v := by
  unfold atI at e ⊢
  obtain ⟨j, e1, e⟩ := opt_bind e
  obtain ⟨v, e2, r⟩ := h.get e
  refine ⟨v, ?_, r⟩
  rw [← h.length, e1]
  exact e2
theorem ix_inv {x y : D} {ev : EV} (e : ixD x y = some ev) : ∃ i, y = .int i ∧ ((∃ s c, x = .str s ∧ s.length ≤ big ∧ atI s i = some c ∧ ev = .v (.str [c])) ∨ ∃ xs d, seqD x = some xs ∧ atI xs i = some d ∧ ev = .v d) := by
  unfold ixD at e
  split at e
  · rename_i i
    refine ⟨i, rfl, ?_⟩
    split at e
    · split at e
      · obtain ⟨c, e1, rfl⟩ := Option.map_eq_some_iff.mp e
        exact .inl ⟨_, c, rfl, by assumption, e1, rfl⟩
      · cases e
    · obtain ⟨xs, e1, e⟩ := opt_bind e
      obtain ⟨d, e2, rfl⟩ := Option.map_eq_some_iff.mp e
      exact .inr ⟨xs, d, e1, e2, rfl⟩
  · cases e
section
variable {T : Tab} {X : Cx} {a b : Expr} {pos : Pos} {fa fb : M AV}
theorem qe_ix (ha : QO T X a fa) (hb : QO T X b fb) (hs : PlainIx b := by intro _ _; rfl) : QE T X (.Subscript a b pos) (eOp ixD fa fb) := fun pn xe W tk hp =>
  impE (pe_ix (X := X.tr pn xe) ix_seq (ha pn xe W tk hp) (hb pn xe W tk hp) hs) fun σ H Q q => by
    obtain ⟨ex, env, q⟩ := tr_op q
    refine ⟨ex, env, q.mono fun x H1 ⟨ex2, env2, q2⟩ => ⟨ex2, env2, q2.mono fun y H2 ⟨exs, d1, d2, ev, dm, r1, r2, e, k⟩ => ?_⟩⟩
    obtain ⟨i, rfl, h⟩ := ix_inv e
    rcases h with ⟨s, c, rfl, hs, hc, rfl⟩ | ⟨xs, d, hx, hd, rfl⟩
    · exact .inr (.inr ⟨mkS s, i, c, r1, r2, by rw [mkS_len]; exact Nat.le_trans hs big_line, by rw [mkS_cps]; exact hc, k _ _ ext_refl rfl⟩)
    · obtain ⟨p, vs, rfl, h1, h2⟩ := seq_of hx r1
      obtain ⟨v, hv, rv⟩ := atI_rep h2 hd
      rcases h1 with h1 | h1
      · exact .inl ⟨p, vs, i, v, rfl, r2, h1, hv, k _ _ ext_refl rv⟩
      · exact .inr (.inl ⟨p, vs, i, v, rfl, r2, h1, hv, k _ _ ext_refl rv⟩)
end
end Dt
end
section
set_option maxRecDepth 100000
set_option maxHeartbeats 4000000
/-! QM: slices, membership, isinstance, repr, sorted, dict of pairs. -/
namespace Dt
open PySem PySem.Spec
open L2 hiding passL ps_try_many HdsOk takes0 XE Takes CX takes_of passes_call PMk MkP ps_raise mk_of ps_try_as pmk_own
open L2N hiding St
open PyProof.Rows hiding St

/-! ### slices -/
def relP : Rl (Option Int) (Option Int) := fun _ _ _ _ _ b c => b = c
theorem rmP : RM relP := fun _ _ _ _ _ _ _ _ _ r => r
def QPO (T : Tab) (X : Cx) (e : Option Expr) (f : M (Option Int)) : Prop := ∀ pn xe W, Takes (X.tr pn xe) W → PassesOwn (model X.prog X.w) X.A X.env xe → PO (X.tr pn xe) e (tr X.K T relP f W)
def pNo : M (Option Int) := M.ret none
def pYes (f : M AV) : M (Option Int) := M.bind f fun a => match a with
  | .v (.int i) => M.ret (some i)
  | _ => M.stuck
def cutD {α : Type} (xs : List α) (lo hi : Option Int) : List α := (xs.drop (HT.sIx xs.length 0 lo)).take (HT.sIx xs.length xs.length hi - HT.sIx xs.length 0 lo)
def sliceD (d : D) (lo hi : Option Int) : Option EV := match d with
  | .str s => if s.length ≤ big then some (.v (.str (cutD s lo hi))) else none
  | .lst xs => some (.o (.lst (cutD xs lo hi)))
  | .tup xs => some (.v (.tup (cutD xs lo hi)))
  | _ => none
def eSlice (fa : M AV) (fl fh : M (Option Int)) : M EV := M.bind fa fun a => M.bind fl fun lo => M.bind fh fun hi => fun env => (deref env a).bind fun d => lift (sliceD d lo hi) env
def rSlQ (K : PySem.W.Frag) : V → Option Int → Option Int → Hp → VK → Prop := fun x lo hi H Q => rSlL K x lo hi H Q ∨ rSlA K x lo hi H Q ∨ rSlS x lo hi H Q
theorem sl_all {X : Cx} : SlR X (rSlQ X.K) := SlR.or sl_list (SlR.or sl_tupA sl_str)
section
variable {T : Tab} {X : Cx} {e : Expr} {lo hi : Option Expr} {p2 pos : Pos} {fa : M AV} {f : M AV} {fl fh : M (Option Int)}
theorem qpo_no : QPO T X none pNo := fun pn xe W tk hp => ⟨fun pins s σ H Q I q => po_none.run pins s σ H Q I (tr_ret q fun _ _ => rfl)⟩
theorem qpo_yes (h : QO T X e f) : QPO T X (some e) (pYes f) := fun pn xe W tk hp => ⟨fun pins s σ H Q I q => (po_some (h pn xe W tk hp)).run pins s σ H Q I (by
  obtain ⟨ex, env, q⟩ := q
  refine ⟨ex, env, (trx_bind (relA X.K T) rmP q).mono fun v H1 ⟨a, env1, s, ra, q⟩ => ?_⟩
  have stuck : ∀ {f : M (Option Int)}, f = M.stuck → trx X.K T relP ex f env1 W σ H1 Q → False := fun e ⟨_, _, q, _⟩ => by rw [e] at q; cases q
  cases a with
  | s i => exact (stuck rfl q).elim
  | v d =>
    cases d with
    | int i =>
      obtain ⟨g, k⟩ := trx_ret q
      exact ⟨i, ra, k _ H1 (Step.refl g) rfl⟩
    | _ => exact (stuck rfl q).elim)⟩
theorem cut_map {K : PySem.W.Frag} {ex : Addr → Prop} {H : Hp} {ds : List D} {vs : List V} (r : RepL K T ex H ds vs) : RepL K T ex H (cutD ds lo' hi') (cutV vs lo' hi') := by
  unfold cutD cutV
  rw [← r.length]
  exact (r.drop _).take _
theorem qe_slice (ha : QO T X e fa) (hl : QPO T X lo fl) (hh : QPO T X hi fh) : QE T X (.Subscript e (.Slice lo hi none p2) pos) (eSlice fa fl fh) := fun pn xe W tk hp =>
  impE (pe_slice (X := X.tr pn xe) (sl_all (X := X.tr pn xe)) (ha pn xe W tk hp) (hl pn xe W tk hp) (hh pn xe W tk hp)) fun σ H Q ⟨ex, env, q⟩ => by
    refine ⟨ex, env, (trx_bind (relA X.K T) rmE q).mono fun v H1 ⟨a, env1, s, ra, q⟩ => ⟨ex, env1, (trx_bind relP rmE q).mono fun l H2 ⟨lo', env2, s2, e2, q⟩ => ⟨ex, env2, (trx_bind relP rmE q).mono fun h H3 ⟨hi', env3, s3, e3, q⟩ => ?_⟩⟩⟩
    have e2 : l = lo' := e2
    have e3 : h = hi' := e3
    subst e2; subst e3
    obtain ⟨g, r, er, o⟩ := q
    obtain ⟨d, e4, er⟩ := opt_bind er
    cases w : sliceD d l h with
    | none => rw [w] at er; cases er
    | some ev =>
      rw [w] at er
      cases er
      have rd := deref_ok g (RepA.step (RepA.step ra s2) s3) e4
      have fin : ∀ v H', Ext H3 H' → RepV X.K T (exO ex σ env3) H3 H' v ev → Q v H' := fun v H' k r => o v H' (Step.ext g k) (r.e g k)
      cases d with
      | str x =>
        unfold sliceD at w
        dsimp only at w
        split at w
        · rename_i hx
          cases w
          refine .inr (.inr ⟨mkS x, rd, by rw [mkS_len]; exact Nat.le_trans hx big_line, fin _ _ ext_refl ?_⟩)
          show V.str _ = V.str _
          unfold cutS cutD
          rw [mkS_cps, mkS_len]
          rfl
        · cases w
      | lst xs =>
        cases w
        obtain ⟨p, vs, rfl, h1, h2⟩ := rd
        exact .inl ⟨p, vs, rfl, .of h1, fun n hn => fin _ _ (ext_new hn) ⟨n, rfl, hn, rep_newL hn (cut_map h2)⟩⟩
      | tup xs =>
        cases w
        obtain ⟨p, vs, rfl, n1, h1, h2⟩ := rd
        refine .inr (.inl ⟨p, vs, rfl, .of h1, fun z => fin _ _ ext_refl ⟨p, vs, rfl, n1, h1, ?_⟩, fun _ n hn => fin _ _ (ext_new hn) ⟨n, _, rfl, fun z => g.dm n z hn, upd_same, (cut_map h2).mono fun b o nb e => ⟨nb, ext_new hn b o e⟩⟩⟩)
        unfold cutD
        rw [← h2.length] at z
        rw [z.1, z.2]
        simpa using h2
      | _ => cases w
end

/-! ### membership -/
def inC (n : Bool) : D → D → Option EV := fun x y => match x, y with
  | .str [c], .str z => some (vB (n ^^ decide (c ∈ z)))
  | _, _ => none
def flatD : D → Bool
  | .non => true
  | .bl _ => true
  | .int _ => true
  | .str _ => true
  | _ => false
def flEq : D → D → Bool
  | .non, .non => true
  | .bl a, .bl b => a == b
  | .bl a, .int b => (if a then 1 else 0) == b
  | .int a, .bl b => a == (if b then 1 else 0)
  | .int a, .int b => a == b
  | .str a, .str b => a == b
  | _, _ => false
def inL (n : Bool) : D → D → Option EV := fun x y => (seqD y).bind fun xs => if flatD x = true ∧ xs.all flatD = true then some (vB (n ^^ xs.any fun y => flEq y x)) else none
def inP (n : Bool) : D → D → Option EV := fun x y => match y with
  | .lst ys => match toP x, toPL ys with
    | some p, some qs => if SeqAt.shaped p = true ∧ SeqAt.shaped (.list qs) = true then some (vB (n ^^ qs.any fun z => PyData.eqv z p)) else none
    | _, _ => none
  | _ => none
section
variable {K : PySem.W.Frag} {T : Tab} {ex : Addr → Prop} {H : Hp}
theorem flat_rep {d : D} {v : V} (h : flatD d = true) (r : Rep K T ex H d v) : flatV v = true := by
  cases d <;> first | (cases h; done) | (cases (show v = _ from r); rfl)
theorem flat_eq {d e : D} {v w : V} (h : flatD d = true) (h' : flatD e = true) (r : Rep K T ex H d v) (r' : Rep K T ex H e w) : eqV v w = flEq d e := by
  cases d <;> first | (cases h; done) | (cases (show v = _ from r); cases e <;> first | (cases h'; done) | (cases (show w = _ from r'); first | rfl | (show (mkS _ == mkS _) = (_ == _); rw [Bool.eq_iff_iff]; simp [mkS_inj])))
theorem flat_all : ∀ {ds : List D} {vs : List V}, ds.all flatD = true → RepL K T ex H ds vs → vs.all flatV = true
  | [], _, _, r => by cases (show _ = [] from r); rfl
  | d :: ds, _, h, ⟨v, w, e, h1, h2⟩ => by
    subst e
    rw [List.all_cons, Bool.and_eq_true] at h ⊢
    exact ⟨flat_rep h.1 h1, flat_all h.2 h2⟩
theorem flat_any {x : D} {v : V} (hx : flatD x = true) (rx : Rep K T ex H x v) : ∀ {ds : List D} {vs : List V}, ds.all flatD = true → RepL K T ex H ds vs → inV v vs = ds.any fun y => flEq y x
  | [], _, _, r => by cases (show _ = [] from r); rfl
  | d :: ds, _, h, ⟨w, ws, e, h1, h2⟩ => by
    subst e
    rw [List.all_cons, Bool.and_eq_true] at h
    have ih := flat_any hx rx h.2 h2
    unfold inV at ih ⊢
    rw [List.any_cons, List.any_cons, flat_eq h.1 hx h1 rx, ih]
end
section
variable {X : Cx} {T : Tab}
theorem flat_rd {K : PySem.W.Frag} {ex : Addr → Prop} {H : Hp} {d : D} {v : V} (h : flatD d = true) (r : Rd1 K T ex H d v) : Rep K T ex H d v := by
  cases d <;> first | (cases h; done) | exact r
theorem op_inC : OpR X (compareOp .In) (rQ X.K T (inC false)) := op_of op_in_sign fun x y H Q ⟨ex, d1, d2, ev, dm, r1, r2, e, k⟩ => by
  unfold inC at e
  split at e
  · cases e
    refine ⟨_, _, r1, r2, k _ H ext_refl ?_⟩
    show V.bl _ = V.bl _
    rw [mkS_cps, Bool.false_xor]
  · cases e
theorem op_notInC : OpR X (compareOp .NotIn) (rQ X.K T (inC true)) := op_of op_notIn_sign fun x y H Q ⟨ex, d1, d2, ev, dm, r1, r2, e, k⟩ => by
  unfold inC at e
  split at e
  · cases e
    refine ⟨_, _, r1, r2, k _ H ext_refl ?_⟩
    show V.bl _ = V.bl _
    rw [mkS_cps, Bool.true_xor]
  · cases e
theorem inL_ok {K : PySem.W.Frag} {n : Bool} {x y : V} {H : Hp} {Q : VK} (h : rQ K T (inL n) x y H Q) : rIn K n x y H Q := by
  obtain ⟨ex, d1, d2, ev, dm, r1, r2, e, k⟩ := h
  unfold inL at e
  obtain ⟨xs, e1, e⟩ := opt_bind e
  split at e
  · rename_i h
    cases e
    obtain ⟨a, vs, rfl, h1, h2⟩ := seq_of e1 r2
    have rx := flat_rd h.1 r1
    refine ⟨a, vs, rfl, h1, flat_rep h.1 rx, flat_all h.2 h2, k _ H ext_refl ?_⟩
    show V.bl _ = V.bl _
    rw [flat_any h.1 rx h.2 h2]
    cases n <;> simp
  · cases e
theorem op_inL : OpR X (compareOp .In) (rQ X.K T (inL false)) := op_of op_in_seq fun x y H Q h => inL_ok h
theorem op_notInL : OpR X (compareOp .NotIn) (rQ X.K T (inL true)) := op_of op_notIn_seq fun x y H Q h => inL_ok h
theorem op_inQ : OpR X (compareOp .In) (rQ X.K T (orD (inC false) (inL false))) := op_or op_inC op_inL
theorem op_notInQ : OpR X (compareOp .NotIn) (rQ X.K T (orD (inC true) (inL true))) := op_or op_notInC op_notInL
end
def inD := orD (inC false) (inL false)
def ninD := orD (inC true) (inL true)

/-! ### isinstance -/
/-- the kinds of built-in values, by a number -/
def kindN : D → Option Nat
  | .non => some 0
  | .bl _ => some 1
  | .int _ => some 2
  | .str _ => some 3
  | .tup _ => some 4
  | .lst _ => some 5
  | .dic _ _ => some 6
  | _ => none
def kindT : Nat → String
  | 0 => "NoneType"
  | 1 => "bool"
  | 2 => "int"
  | 3 => "str"
  | 4 => "tuple"
  | 5 => "list"
  | _ => "dict"
/-- the answers of one class: of the built-in kinds, of own classes -/
structure IsT where
  k : Nat → Bool
  o : Nat → Option Bool
def isiB (I : IsT) (d : D) : Option Bool := match d with
  | .obj t _ => I.o t
  | d => (kindN d).map I.k
/-- the class c is the value u -/
structure IsOK (K : PySem.W.Frag) (T : Tab) (I : IsT) (u : Value) : Prop where
  k : ∀ n, n < 7 → PySem.W.kitOne K (.type (kindT n)) u = some (I.k n)
  o : ∀ t b, I.o t = some b → PySem.W.kitOne K (.ref (T.cls t)) u = some b ∧ Cls K (T.cls t) ∧ PySem.W.findIn K (.ref (T.cls t)) "__class__" = some (some (.builtin "object.__class__")) ∧
    PySem.W.specialIn K (.builtin "object.__class__") "__get__" = some (some (.builtin "getset_descriptor.__get__")) ∧ PySem.W.takesIn K (.builtin "object.__class__") = some true ∧ PySem.W.mroIn K (T.cls t) (.type "object") = some true
/-- isinstance(e, C), C a global name -/
def eIsi (I : IsT) (fa : M AV) : M EV := M.bind fa fun a => fun env => (objIs env a).bind fun d => lift ((isiB I d).map vB) env
where objIs (env : Sl) (a : AV) : Option D := match objOf env a with
  | some (t, ds) => some (.obj t ds)
  | none => deref env a
section
variable {K : PySem.W.Frag} {T : Tab} {ex : Addr → Prop} {H : Hp}
theorem tyx_of {I : IsT} {u : Value} (hI : IsOK K T I u) {d : D} {v : V} {b : Bool} (h : isiB I d = some b) (hk : kindN d ≠ none) (r : Rd1 K T ex H d v) : ∃ t, TyX K H v t ∧ PySem.W.kitOne K t u = some b := by
  have key : ∀ n, kindN d = some n → n < 7 → TyX K H v (.type (kindT n)) → ∃ t, TyX K H v t ∧ PySem.W.kitOne K t u = some b := fun n e l ty => by
    refine ⟨_, ty, ?_⟩
    have : isiB I d = some (I.k n) := by
      unfold isiB
      split
      · cases e
      · rw [e]; rfl
    rw [this] at h
    cases h
    exact hI.k n l
  cases d with
  | non => cases (show v = _ from r); exact key 0 rfl (by decide) (.base .non)
  | bl x => cases (show v = _ from r); exact key 1 rfl (by decide) (.base (.bl _))
  | int x => cases (show v = _ from r); exact key 2 rfl (by decide) (.base (.int _))
  | str x => cases (show v = _ from r); exact key 3 rfl (by decide) (.base (.str _))
  | tup x => obtain ⟨a, vs, rfl, _, h1, _⟩ := r; exact key 4 rfl (by decide) (.base (.tup h1))
  | lst x => obtain ⟨a, vs, rfl, h1, _⟩ := r; exact key 5 rfl (by decide) (.base (.lst h1))
  | dic x y => obtain ⟨a, vs, rfl, h1, _⟩ := r; exact key 6 rfl (by decide) (.base (.dK h1))
  | _ => exact absurd rfl hk
end
section
variable {T : Tab} {X : Cx} {a : Expr} {c : Str} {p p2 pos : Pos} {fa : M AV} {I : IsT} {u : Value} {cv : V}
theorem trx_isi {ex : Addr → Prop} {σ : St} {H : Hp} {env : Sl} {W : WX} {Q : VK} {av : AV} {v : V} (hI : IsOK X.K T I u) (h : trx X.K T (relE X.K T) ex (fun env => (eIsi.objIs env av).bind fun d => lift ((isiB I d).map vB) env) env W σ H Q) (ra : RepA X.K T ex σ env H v av) :
    ∃ t b, TyX X.K H v t ∧ PySem.W.kitOne X.K t u = some b ∧ Q (.bl b) H := by
  obtain ⟨g, r, er, o⟩ := h
  obtain ⟨d, e1, er⟩ := opt_bind er
  cases w : isiB I d with
  | none => rw [w] at er; cases er
  | some b =>
    rw [w] at er
    cases er
    have fin : Q (.bl b) H := o _ H (Step.refl g) rfl
    unfold eIsi.objIs at e1
    split at e1
    · rename_i t ds hob
      cases e1
      obtain ⟨x, dx, vs, rfl, hx, _, _⟩ := objOf_ok g ra hob
      obtain ⟨h1, h2, h3, h4, h5, h6⟩ := hI.o t b w
      exact ⟨_, b, .base (.ins hx h2 h3 h4 h5 h6), h1, fin⟩
    · rename_i hob
      have rd := deref_ok g ra e1
      have hk : kindN d ≠ none := fun z => by
        cases d with
        | obj t ds =>
          cases av with
          | v d' => cases e1; cases hob
          | s i =>
            have e1 : rdS env[i]? = some (.obj t ds) := e1
            have hob : objS env[i]? = none := hob
            cases q : env[i]? with
            | none => rw [q] at e1; cases e1
            | some sl =>
              rw [q] at e1 hob
              cases sl with
              | emp => cases e1
              | val d => cases e1; cases hob
              | own c => cases c <;> cases e1
        | raw v => cases w
        | scr v => cases w
        | clo f us ds => cases w
        | _ => cases z
      obtain ⟨t, h1, h2⟩ := tyx_of hI w hk rd
      exact ⟨t, b, h1, h2, fin⟩
theorem pe_isi {a b : Expr} {ta tb : TE} (hg : Gl X "isinstance") (hm : X.mg "isinstance" = none) (ha : PE X a ta) (hb : PE X b tb) (hs : starEach [a, b] X.env = [(false, eval a X.env), (false, eval b X.env)] := by rfl) (hs2 : starEach [b] X.env = [(false, eval b X.env)] := by rfl) :
    PE X (.Call (.Name "isinstance" p) [a, b] [] pos) (tCB (rIsi X.K) (tCons ta (tCons tb tNil))) :=
  pe_callB call_isi hg hm boot_isinstance (pa_cons ha (pa_cons hb pa_nil hs2) (by rw [hs, hs2])) (he := by rw [hs, hs2]) (hpl := by rw [hs2]; rfl)
theorem qe_isi (hg : Gl X "isinstance") (hm : X.mg "isinstance" = none) (hI : IsOK X.K T I u) (hc : ClsV cv u) (he : ∀ pn xe, PE (X.tr pn xe) (.Name c p2) (tC cv)) (ha : QO T X a fa)
    (hs : starEach [a, .Name c p2] X.env = [(false, eval a X.env), (false, eval (.Name c p2) X.env)] := by rfl) (hs2 : starEach [.Name c p2] X.env = [(false, eval (.Name c p2) X.env)] := by rfl) : QE T X (.Call (.Name "isinstance" p) [a, .Name c p2] [] pos) (eIsi I fa) := fun pn xe W tk hp =>
  impE (pe_isi (X := X.tr pn xe) hg hm (ha pn xe W tk hp) (he pn xe) hs hs2) fun σ H Q ⟨ex, env, q⟩ => ⟨ex, env, (trx_bind (relA X.K T) rmE q).mono fun v H1 ⟨av, env1, s, ra, q⟩ => by
    obtain ⟨t, b, h1, h2, h3⟩ := trx_isi hI q ra
    exact ⟨v, cv, t, u, b, rfl, hc, h1, h2, h3⟩⟩
/-- a built-in class's name -/
theorem isi_bi {Ty : String} (hg : Gl X c) (hm : X.mg c = none) (hv : bootBuiltins c = some (.type Ty)) (hn : c ≠ "__name__" := by decide) (hdb : (c == ("__debug__" : Str)) = false := by decide) : ∀ pn xe, PE (X.tr pn xe) (.Name c p2) (tC (.ty Ty)) := fun pn xe => pe_bltn (X := X.tr pn xe) hg hm hv rfl hn hdb
theorem isi_own {C : Addr} (hg : Gl X c) (hm : X.mg c = some (.ref C)) (hdb : (c == ("__debug__" : Str)) = false := by decide) : ∀ pn xe, PE (X.tr pn xe) (.Name c p2) (tC (.ref C)) := fun pn xe => pe_glob (X := X.tr pn xe) hg hm rfl hdb
end

/-! ### repr -/
def shownS (p : PyData) : List Nat := p.shown.cps.toList
end Dt
end
section
set_option maxRecDepth 100000
set_option maxHeartbeats 4000000
/-! QN: sorted, dicts, sets, list(range), texts and lists repeated. -/
namespace Dt
open PySem PySem.Spec
open L2 hiding passL ps_try_many HdsOk takes0 XE Takes CX takes_of passes_call PMk MkP ps_raise mk_of ps_try_as pmk_own
open L2N hiding St
open PyProof.Rows hiding St
open PySem.W (EachIs AllAlike Sortable dataLe SortsAt dataKind sortVals alike sortingHeap_old sortVals_data sortVals_length each_map list_sort_vals)

/-! ### sorted -/
def isTup1 : PyData → Bool
  | .tuple (_ :: _) => true
  | _ => false
def noTupN : PyData → Bool
  | .tuple _ => false
  | .none => false
  | _ => true
def okSort (ps : List PyData) : Bool := (ps.all fun p => ps.all fun q => alike p q) && (ps.all isTup1 || ps.all noTupN) && ps.all fun p => decide (p.depth ≤ 60)
def sortL (xs : List D) (ps : List PyData) : List D := ((xs.zip ps).mergeSort (dataLe false fun b => b.2)).map (·.1)
def keyOf : Key → D
  | .inl i => .int i
  | .inr s => .str s.cps.toList
def sortItems : D → Option (List D)
  | .lst xs => some xs
  | .tup xs => some xs
  | .dic ks _ => some (ks.map keyOf)
  | _ => none
def sortD : List D → Option EV
  | [d] => (sortItems d).bind fun xs => (toPL xs).bind fun ps => if okSort ps = true ∧ xs.length ≤ big then some (.o (.lst (sortL xs ps))) else none
  | _ => none
section
variable {K : PySem.W.Frag} {T : Tab} {ex : Addr → Prop} {H : Hp}
theorem okSort_all {ps : List PyData} (h : okSort ps = true) : AllAlike ps ∧ Sortable ps ∧ ∀ p ∈ ps, p.depth ≤ 60 := by
  unfold okSort at h
  rw [Bool.and_eq_true, Bool.and_eq_true, Bool.or_eq_true] at h
  obtain ⟨⟨h1, h2⟩, h3⟩ := h
  refine ⟨fun d hd e he => List.all_eq_true.mp (List.all_eq_true.mp h1 d hd) e he, ?_, fun p hp => of_decide_eq_true (List.all_eq_true.mp h3 p hp)⟩
  rcases h2 with h2 | h2
  · refine .inl fun d hd => ?_
    have := List.all_eq_true.mp h2 d hd
    unfold isTup1 at this
    split at this
    · exact ⟨_, _, rfl⟩
    · cases this
  · refine .inr fun d hd => ?_
    have := List.all_eq_true.mp h2 d hd
    refine ⟨fun z => ?_, fun xs z => ?_⟩ <;> (rw [z] at this; cases this)
theorem toPL_len : ∀ {ds : List D} {ps : List PyData}, toPL ds = some ps → ds.length = ps.length
  | [], _, e => by unfold toPL at e; cases e; rfl
  | d :: ds, _, e => by
    unfold toPL at e
    obtain ⟨p, _, e⟩ := opt_bind e
    obtain ⟨qs, e2, rfl⟩ := Option.map_eq_some_iff.mp e
    simp [toPL_len e2]
/-- the triples of a value, its data, its plain data -/
abbrev Tri := V × D × PyData
def tri : List V → List D → List PyData → List Tri
  | v :: vs, d :: ds, p :: ps => (v, d, p) :: tri vs ds ps
  | _, _, _ => []
theorem tri_ok : ∀ {vs : List V} {ds : List D} {ps : List PyData}, RepL K T ex H ds vs → toPL ds = some ps → (tri vs ds ps).map (·.1) = vs ∧ (tri vs ds ps).map (·.2) = ds.zip ps ∧ (tri vs ds ps).map (·.2.2) = ps ∧ ∀ b ∈ tri vs ds ps, Rep K T ex H b.2.1 b.1 ∧ toP b.2.1 = some b.2.2
  | _, [], ps, r, e => by
    cases (show _ = [] from r)
    unfold toPL at e; cases e
    exact ⟨rfl, rfl, rfl, fun _ h => by cases h⟩
  | _, d :: ds, ps, ⟨v, w, e1, h1, h2⟩, e => by
    subst e1
    unfold toPL at e
    obtain ⟨p, e3, e⟩ := opt_bind e
    obtain ⟨qs, e2, rfl⟩ := Option.map_eq_some_iff.mp e
    obtain ⟨a, b, c, d⟩ := tri_ok h2 e2
    refine ⟨by simp [tri, a], by simp [tri, b], by simp [tri, c], fun x hx => ?_⟩
    rcases List.mem_cons.mp hx with rfl | hx
    · exact ⟨h1, e3⟩
    · exact d x hx
theorem repL_map : ∀ (bs : List Tri), (∀ b ∈ bs, Rep K T ex H b.2.1 b.1) → RepL K T ex H (bs.map (·.2.1)) (bs.map (·.1))
  | [], _ => rfl
  | b :: bs, h => ⟨_, _, rfl, h b (List.mem_cons_self ..), repL_map bs fun c hc => h c (List.mem_cons_of_mem _ hc)⟩
theorem each_vals : ∀ {bs : List Tri} {us : List Value}, Vals (bs.map (·.1)) us → EachIs (fun (u : Value) (b : Tri) => RelV b.1 u) us bs
  | [], _, r => by cases r; exact .nil
  | b :: bs, _, r => by
    cases r with
    | cons h t => exact .cons h (each_vals t)
theorem vals_each : ∀ {bs : List Tri} {us : List Value}, EachIs (fun (u : Value) (b : Tri) => RelV b.1 u) us bs → Vals (bs.map (·.1)) us
  | [], _, r => by cases r; exact .nil
  | b :: bs, _, r => by
    cases r with
    | cons h t => exact .cons h (vals_each t)
end
section
variable {X : Cx} {T : Tab} {pins : List (Addr × Obj)} {σ : St} {H : Hp} {s : Shared} {Q : VK} {ex : Addr → Prop}
theorem each_reads (I : Inv X pins σ H s) : ∀ {bs : List Tri} {us : List Value}, (∀ b ∈ bs, Rep X.K T ex H b.2.1 b.1 ∧ toP b.2.1 = some b.2.2) → EachIs (fun (u : Value) (b : Tri) => RelV b.1 u) us bs → EachIs (fun u b => ∃ as, Reads s.heap u b.2.2 as) us bs
  | [], _, _, r => by cases r; exact .nil
  | b :: bs, _, h, r => by
    cases r with
    | cons h1 t =>
      obtain ⟨h2, h3⟩ := h b (List.mem_cons_self ..)
      exact .cons (Dp.reads I _ _ _ (dp_both.1 _ _ _ h3 h2) h1) (each_reads I (fun c hc => h c (List.mem_cons_of_mem _ hc)) t)
/-- sorted(x), however x is collected -/
theorem sorted_run {u : Value} {ds : List D} {ps : List PyData} {vs : List V} (hu : X.A.units + 64 < cLine) (I : Inv X pins σ H s) (dm : ∀ a, ex a → H a ≠ none) (rl : RepL X.K T ex H ds vs) (hp : toPL ds = some ps) (hok : okSort ps = true) (hz : ds.length ≤ big)
    (hcol : ∀ (R : List Value → Shared → Prop), (∀ h' tk acc, (∀ b o, s.heap.get? b = some o → h'.get? b = some o) → Vals vs acc → R acc { s with heap := h', toks := tk }) → wpAny (model X.prog X.w) X.A.in1 (collect u) R X.xe s)
    (hQ : ∀ v H', Ext H H' → RepV X.K T ex H H' v (.o (.lst (sortL ds ps))) → Q v H') : wpAny (model X.prog X.w) X.A (call (.builtin "sorted") [u]) (EP X pins σ Q) X.xe s := by
  obtain ⟨hal, hsb, hdp⟩ := okSort_all hok
  refine Calls.call_function_entry PyProof.Rows.kind_sorted PyProof.Rows.plain_sorted PyProof.Rows.entry_sorted (PyProof.Rows.args_sorted1 _) ?_
  unfold Builtin.«sorted»
  refine wpAny_bind (m := checkCount "sorted" 1 1 _) (wpAny_pure ?_)
  refine wpAny_bind (hcol _ fun h' tk acc hk hacc => ?_)
  have I1 : Inv X pins σ H { s with heap := h', toks := tk } := I.kept hk
  obtain ⟨t1, t2, t3, t4⟩ := tri_ok rl hp
  have hlen : acc.length = ds.length := by rw [← hacc.length, rl.length]
  have ev : EachIs (fun (u : Value) (b : Tri) => RelV b.1 u) acc (tri vs ds ps) := each_vals (by rw [t1]; exact hacc)
  have er : EachIs (fun u b => ∃ as, Reads h' u b.2.2 as) acc (tri vs ds ps) := each_reads (s := { s with heap := h', toks := tk }) I1 t4 ev
  refine wpAny_bind (wpAny_newList ?_ (by rw [hlen]; exact Nat.le_trans hz big_line))
  have hoL : (h'.push (seqObj "list" acc.toArray 0)).get? h'.objs.size = some (seqObj "list" acc.toArray 0) := Heap.get?_push_size _ rfl
  show wpAny _ _ _ _ _ { s with heap := h'.push (seqObj "list" acc.toArray 0), toks := tk }
  have er' : EachIs (fun u b => ∃ as, Reads (PySem.W.sortingHeap (h'.push (seqObj "list" acc.toArray 0)) h'.objs.size acc) u b.2.2 as) acc (tri vs ds ps) := er.mono fun _ _ ⟨as, r⟩ => ⟨as, PyProof.Rows.Reads.keeps (fun b o e => sortingHeap_old (Nat.ne_of_lt (Heap.lt_size e)) (Heap.get?_push_of_some _ e)) r⟩
  have hmp : (tri vs ds ps).map (fun b => b.2.2) = ps := t3
  have hlt : (tri vs ds ps).length = ds.length := by rw [← List.length_map (f := fun b : Tri => b.2.2), hmp, toPL_len hp]
  refine wpAny_bind (wpAny_holding (wpAny_call_entry PyProof.Rows.slot_list_sort ⟨_, hoL, rfl⟩ PyProof.Rows.entry_list_sort
    (list_sort_vals (κ := dataKind (PySem.W.sortingHeap (h'.push (seqObj "list" acc.toArray 0)) h'.objs.size acc) ((tri vs ds ps).map fun b => b.2.2)) (s := { s with heap := h'.push (seqObj "list" acc.toArray 0), toks := tk }) hoL
      (SortsAt.data (s := { s with heap := PySem.W.sortingHeap (h'.push (seqObj "list" acc.toArray 0)) h'.objs.size acc, toks := tk }) (each_map (R := fun v d => ∃ as, Reads (PySem.W.sortingHeap (h'.push (seqObj "list" acc.toArray 0)) h'.objs.size acc) v d as) (fun b : Tri => b.2.2) er') (by rw [hmp]; exact hal) (by rw [hmp]; exact hsb)
        (fun d hd => by rw [hmp] at hd; have := hdp d hd; show X.A.units + 1 + 1 + d.depth < cLine; omega)) (by rw [hlen]; exact Nat.le_trans hz big_line) ⟨.none, rfl, ?_⟩)
    (PyProof.Rows.args_list_sort _)))
  have hsd := sortVals_data (R := fun (u : Value) (b : Tri) => RelV b.1 u) (enc := fun b : Tri => b.2.2) false ev er' (by rw [hmp]; exact hal)
  have vo := vals_each hsd
  obtain ⟨e', he'⟩ := PyProof.Rows.sortedHeap_at (vs := acc) (out := (sortVals (dataKind (PySem.W.sortingHeap (h'.push (seqObj "list" acc.toArray 0)) h'.objs.size acc) ((tri vs ds ps).map fun b => b.2.2)) false acc acc).toArray) hoL
  have hsl : sortL ds ps = ((tri vs ds ps).mergeSort (dataLe false fun b => b.2.2)).map (·.2.1) := by
    unfold sortL
    rw [← t2, ← List.map_mergeSort (r := dataLe false fun b : Tri => b.2.2) (s := dataLe false fun b : D × PyData => b.2) (fun a _ b _ => rfl), List.map_map]
    rfl
  have hn : H h'.objs.size = none := I1.hok.fresh (Nat.le_refl _)
  have hpm := List.mergeSort_perm (tri vs ds ps) (dataLe false fun b : Tri => b.2.2)
  refine wpAny_pure ⟨_, rfl, .ref h'.objs.size, upd H h'.objs.size (.lst (((tri vs ds ps).mergeSort (dataLe false fun b => b.2.2)).map (·.1))), I1.laid (t' := tk) (fun b u e => ?_) (Nat.le_refl _)
    (show ObjOk X.prog X.w _ _ _ (.lst _) from ⟨?_, _, e', vo, he'⟩), rfl, hQ _ _ (ext_new hn) ⟨_, rfl, hn, rep_newL hn ?_⟩⟩
  · have hb : b < h'.objs.size := Heap.lt_size e
    rw [PyProof.Rows.sortedHeap_old (Nat.ne_of_lt hb) (by rw [size_push']; exact Nat.lt_succ_of_lt hb)]
    exact Heap.get?_push_of_some _ e
  · rw [List.length_map, hpm.length_eq, hlt]
    exact Nat.le_trans hz big_line
  · rw [hsl]
    exact repL_map _ fun b hb => (t4 b (hpm.mem_iff.mp hb)).1
theorem cr_sorted (hc : X.calm = true) (hu : X.A.units + 64 < cLine) : CallR X (.builtin "sorted") (rB X.K T sortD) := by
  intro pins s σ H xs us Q I rvs ⟨ex, ds, ev, dm, r1, e, k⟩
  unfold sortD at e
  split at e
  · rename_i d
    obtain ⟨v, rfl, rd⟩ := one_of r1
    obtain ⟨u, rfl, rv⟩ := vals1 rvs
    obtain ⟨ys, e1, e⟩ := opt_bind e
    obtain ⟨ps, e2, e⟩ := opt_bind e
    split at e
    · rename_i h
      cases e
      unfold sortItems at e1
      split at e1
      · cases e1
        obtain ⟨a, vs, rfl, h1, h2⟩ := rd
        cases rv
        obtain ⟨its, r', pl, hz⟩ := I.list (SqL.of h1)
        obtain ⟨o, ho, hcl, n, hd⟩ := pl.isList
        have hlen := r'.length
        exact sorted_run hu I dm h2 e2 h.1 h.2 (fun R hR => wpAny_collect_seq a (.inl rfl) ho hcl hd (fun h' hk => hR h' s.toks its hk r') (by simp only [List.size_toArray]; omega)) k
      · cases e1
        obtain ⟨a, vs, rfl, _, h1, h2⟩ := rd
        cases rv
        obtain ⟨its, r', pl, hz⟩ := I.tuple (SqT.of h1)
        obtain ⟨o, ho, hcl, n, hd⟩ := pl
        have hlen := r'.length
        exact sorted_run hu I dm h2 e2 h.1 h.2 (fun R hR => wpAny_collect_seq a (.inr rfl) ho hcl hd (fun h' hk => hR h' s.toks its hk r') (by simp only [List.size_toArray]; omega)) k
      · cases e1
        rename_i ks es _
        obtain ⟨a, vs, rfl, h1, hl, h2⟩ := rd
        cases rv
        obtain ⟨z, lo, ws, rel, dd⟩ := dk_rd I.hok (Rd.of h1)
        obtain ⟨ep, hat⟩ := dd.dictAt
        have hkeys : ws.map (·.1) = ks := by
          rw [← rel.keys]
          exact List.map_fst_zip (Nat.le_of_eq hl)
        have rk : ∀ (ks : List Key), RepL X.K T ex H (ks.map keyOf) (ks.map kV) := fun ks => by
          induction ks with
          | nil => exact rfl
          | cons k ks ih =>
            refine ⟨_, _, rfl, ?_, ih⟩
            cases k with
            | inl i => exact rfl
            | inr s => show V.str s = V.str (mkS s.cps.toList); rw [mkS_tl]
        have hwl : ws.length ≤ sizeLine := by
          rw [← List.length_map (f := (·.1)), hkeys]
          have := h.2
          rw [List.length_map] at this
          exact Nat.le_trans this big_line
        refine sorted_run (vs := ks.map kV) hu I dm (rk ks) e2 h.1 h.2 (fun R hR => PySem.W.kdu_collect (A := X.A.in1) (PySem.W.kdl_dict (knd := mixKind X.prog X.w) (kvs := ws) (ep := ep) lo) (I.ok.hd hc) hat hwl fun h' tk acc hk hacc => ?_) k
        have hv := keys_at (us := acc.toList) (vs := ws) (by rw [Array.length_toList, hacc.1]) fun j v e => by
          obtain ⟨k, x, e1, e2⟩ := hacc.2 j v (by rw [← Array.getElem?_toList]; exact e)
          exact ⟨k, x, e1, e2⟩
        have ek : ws.map (fun p => kV p.1) = ks.map kV := by rw [← hkeys, List.map_map]; rfl
        rw [ek] at hv
        exact hR h' tk acc.toList hk hv
      · cases e1
    · cases e
  · cases e
end
end Dt
end
section
set_option maxRecDepth 100000
set_option maxHeartbeats 4000000
/-! QP: len(set(xs)) of texts, any number below 4000 (our own turn of the library's proof for sets of ints). -/
namespace DtS
open PySem PySem.Spec PyProof.Rows
variable {α : Type} [BEq α] [LawfulBEq α]
def stepM (σ : List α) (v : α) : List α := if σ.any (· == v) = true then σ else σ ++ [v]
def met (xs : List α) : List α := xs.foldl stepM []
theorem met_snoc (xs : List α) (x : α) : met (xs ++ [x]) = stepM (met xs) x := by unfold met; rw [List.foldl_append]; rfl
theorem stepM_len_le (σ : List α) (v : α) : (stepM σ v).length ≤ σ.length + 1 := by unfold stepM; split <;> simp
theorem fold_len : ∀ (xs σ : List α), (xs.foldl stepM σ).length ≤ σ.length + xs.length
  | [], σ => by simp
  | x :: xs, σ => by
    have h1 := fold_len xs (stepM σ x)
    have h2 := stepM_len_le σ x
    simp only [List.foldl_cons, List.length_cons]
    omega
theorem met_len (xs : List α) : (met xs).length ≤ xs.length := by have := fold_len xs []; rw [List.length_nil, Nat.zero_add] at this; exact this
theorem stepM_any [DecidableEq α] (σ : List α) (v k : α) : (stepM σ v).any (· == k) = (σ.any (· == k) || decide (k = v)) := by
  unfold stepM
  by_cases h : σ.any (· == v) = true
  · rw [if_pos h]
    by_cases e : k = v
    · subst e; rw [h]; simp
    · simp [e]
  · rw [if_neg h, List.any_append]
    by_cases e : k = v
    · subst e; simp
    · have hb : (v == k) = false := beq_eq_false_iff_ne.mpr fun h' => e h'.symm
      simp [hb, e]
theorem stepM_len (σ : List α) (v : α) : (stepM σ v).length = if σ.any (· == v) then σ.length else σ.length + 1 := by
  unfold stepM; split <;> simp
section
variable {prog : Program} {w : World} {A : Around} {R : Result → Shared → Prop} {I : Addr} {fp wr : List Addr} {G : Array GenState → Array GenState → Prop} {n : Nat} {P : Nat → Value → Prop} {St : Nat → Shared → Prop}
theorem loopAll (W : WalksS prog w A.in1 I fp wr G n P St) (S : Addr) (hSf : S ∉ fp) (xs : List Str) (hsz : xs.length = n) (hb : n + 1 < scanBound)
    (hval : ∀ i v, P i v → ∃ t, v = .str (xs.getD i Str.empty) t) :
    ∀ (k i : Nat) (s : Shared), n - i = k → i ≤ n → St i s →
      s.heap.SetOf (PySem.strKind prog w) S (fun k' => (met (xs.take i)).any (· == k')) (met (xs.take i)).length →
      (∀ s', Moved (S :: wr) G s s' → s'.heap.SetOf (PySem.strKind prog w) S (fun k' => (met (xs.take n)).any (· == k')) (met (xs.take n)).length → R (.ok (.ret .none)) s') →
      codeAny (model prog w) A (.builtin "set.update.loop" ⟨[.ref S, .ref I], []⟩) R s := by
  have hSw : S ∉ wr := fun h => hSf (W.sub _ h)
  have hsub : ∀ b ∈ wr, b ∈ S :: wr := fun b hb => List.mem_cons_of_mem _ hb
  intro k
  induction k with
  | zero =>
    intro i s hk hi hst hS hR
    have hin : i = n := by omega
    subst hin
    refine codeAny_builtin PyProof.Rows.F.entry_set_update_loop ?_
    rw [Around.under_plainId PyProof.Rows.F.plain_set_update_loop _]
    show wpAny _ A.in1 (pyNext (.ref I) >>= _) _ _ s
    refine wpAny_bind (W.done s _ _ hst fun s' hm => ?_)
    show wpAny _ A.in1 (ret Value.none) _ _ s'
    exact wpAny_pure (hR s' (hm.mono hsub) (by
      obtain ⟨o, es, ep, t, ho, rest⟩ := hS
      exact ⟨o, es, ep, t, hm.heap S _ hSw ho, rest⟩))
  | succ k ih =>
    intro i s hk hi hst hS hR
    have hlt : i < n := by omega
    refine codeAny_builtin PyProof.Rows.F.entry_set_update_loop ?_
    rw [Around.under_plainId PyProof.Rows.F.plain_set_update_loop _]
    show wpAny _ A.in1 (pyNext (.ref I) >>= _) _ _ s
    refine wpAny_bind (W.item i s _ _ hlt hst fun v s' hP hst' hm => ?_)
    obtain ⟨t, rfl⟩ := hval i v hP
    have hS' : s'.heap.SetOf (PySem.strKind prog w) S (fun k' => (met (xs.take i)).any (· == k')) (met (xs.take i)).length := by
      obtain ⟨o, es, ep, tb, ho, rest⟩ := hS
      exact ⟨o, es, ep, tb, hm.heap S _ hSw ho, rest⟩
    show wpAny _ A.in1 (holding [Value.str (xs.getD i Str.empty) t] (setAdd S (.str (xs.getD i Str.empty) t)) >>= _) _ _ s'
    refine wpAny_bind (wpAny_holding ?_)
    unfold setAdd
    refine wpAny_holding ?_
    refine wpAny_bind ((PySem.strKind prog w).pyHash (k := xs.getD i Str.empty) (strKind_is _ _ _ _) ?_)
    have hroom : (met (xs.take i)).length + 1 < scanBound := by
      have := met_len (xs.take i)
      rw [List.length_take] at this
      omega
    refine wpAny_setAddHashed_of (knd := PySem.strKind prog w) (s := { s' with toks := s'.toks + 1 }) (strKind_is _ _ _ _) rfl hS' hroom fun h' hsb hS2 => ?_
    have htk : xs.take (i + 1) = xs.take i ++ [xs.getD i Str.empty] := by
      rw [List.take_succ_eq_append_getElem (by omega)]
      congr 2
      rw [List.getD_eq_getElem?_getD, List.getElem?_eq_getElem (by omega)]; rfl
    have hSi : h'.SetOf (PySem.strKind prog w) S (fun k' => (met (xs.take (i + 1))).any (· == k')) (met (xs.take (i + 1))).length :=
      PyProof.Rows.SetOf_congr hS2 (fun k' => by rw [htk, met_snoc, stepM_any]) (by rw [htk, met_snoc, stepM_len])
    refine wpAny_pure ⟨plainId_quiet PyProof.Rows.F.plain_set_update_loop _, ih (i + 1) _ (by omega) hlt (W.frame _ s' _ _ hst' (Nat.le_succ _) fun b hb o e => ?_) hSi fun s'' hm'' hS'' => ?_⟩
    · rw [hsb.2 b (fun h : b = S => hSf (by rw [← h]; exact hb))]; exact e
    · refine hR s'' (Moved.trans W.gtrans ((hm.mono hsub).then_heap (Nat.le_succ _) fun b o hb e => ?_) hm'') hS''
      rw [hsb.2 b (fun h : b = S => hb (by rw [h]; exact List.mem_cons_self))]; exact e
end
section
variable {prog : Program} {w : World} {A : Around} {E : Value → Shared → Prop} {s : Shared}
set_option maxHeartbeats 3200000 in
theorem set_listA {l : Addr} {items : Array Value} {xs : List Str} {Q : Value → Shared → Prop}
    (hh : A.handled = none) (hl : s.heap.IsList l items) (hi : PyProof.Rows.StrsAre items.toList xs) (hn1 : xs.length + 1 < scanBound)
    (h : ∀ (h' : Heap) (tk : Nat), h'.SetOf (PySem.strKind prog w) s.heap.objs.size (fun k' => (met (xs.take items.size)).any (· == k')) (met (xs.take items.size)).length →
      (∀ b o, b < s.heap.objs.size → s.heap.get? b = some o → h'.get? b = some o) → Q (.ref s.heap.objs.size) { s with heap := h', toks := tk }) :
    wpAny (model prog w) A (call (.type "set") [.ref l]) Q E s := by
  obtain ⟨c, tl, hmro⟩ := PySem.F.called_set.mro
  have hmade := PySem.F.called_set.made
  have hsub := PySem.F.called_set.sub
  refine wpAny_call (codeAny_of_tree ?_)
  show wpAny _ _ (callAny (.type "set") _) _ _ _
  refine wpAny_pure ⟨Code.quiet_builtin _ (by decide +kernel), codeAny_builtin PySem.F.entry_type_call ?_⟩
  rw [Around.under_plain (weight_type_call_type "set" [.ref l] []) rfl]
  have h1 := PySem.F.called_set.notType
  have h2 := PySem.F.called_set.canCreate
  have hct := PySem.F.typeCall_set_1 (.ref l)
  repeat (any_goals (first | assumption | wp_step))

  refine codeAny_mono (code_set_new_1 (.ref l) (E := E) (Q₁ := fun obj s₁ => ∃ led : Bool, obj = .ref s.heap.objs.size ∧ s₁ = { s with heap := s.heap.push { cls := .type "set", dict := none, data := .set #[] 0 (.fresh 0 0 led) } }) fun led => ⟨led, rfl, rfl⟩) fun r s₁ hr => ?_
  cases r with
  | error e => exact hr
  | ok fl =>
    cases fl with
    | ret obj =>
      obtain ⟨led, rfl, rfl⟩ := hr
      have hS : (s.heap.push { cls := .type "set", dict := none, data := .set #[] 0 (.fresh 0 0 led) }).get? s.heap.objs.size = some { cls := .type "set", dict := none, data := .set #[] 0 (.fresh 0 0 led) } := Heap.get?_push_size _ rfl
      have hT : Shared.TypeIs { s with heap := s.heap.push { cls := .type "set", dict := none, data := .set #[] 0 (.fresh 0 0 led) } } (.ref s.heap.objs.size) "set" := ⟨_, hS, rfl⟩
      have hli := PySem.F.called_set.init.lookup
      have hbi := PySem.F.called_set.init.bind (.ref s.heap.objs.size)
      repeat (any_goals (first | assumption | wp_step))

      refine codeAny_mono (codeAny_call_builtin (R := wants (fun r s₂ => r = .none ∧ ∃ h' tk, s₂ = { s with heap := h', toks := tk } ∧
          h'.SetOf (PySem.strKind prog w) s.heap.objs.size (fun k' => (met (xs.take items.size)).any (· == k')) (met (xs.take items.size)).length ∧
          (∀ b o, b < s.heap.objs.size → s.heap.get? b = some o → h'.get? b = some o)) E) PySem.F.called_set.init.plain PySem.F.entry_set_init (check_set_init_1 hT ?_)) fun r₂ s₂ hr₂ => ?_
      · obtain ⟨ol, hol, hcl, nl, hdl⟩ := hl
        obtain ⟨ocls, odict, odata, oslots⟩ := ol
        simp only at hcl hdl
        subst hcl; subst hdl
        have hol' : (s.heap.push { cls := .type "set", dict := none, data := .set #[] 0 (.fresh 0 0 led) }).get? l = some { cls := .type "list", dict := odict, data := .seq items nl, slots := oslots } := Heap.get?_push_of_some _ hol
        have hsls := PySem.F.sub_list_set
        have hslf := PySem.F.sub_list_frozenset
        have hne : (Value.type "list" == Value.type "dict") = false := by decide
        have hl1 : (s.heap.push { cls := .type "set", dict := none, data := .set #[] 0 (.fresh 0 0 led) }).IsList l items := ⟨_, hol', rfl, nl, rfl⟩
        unfold Builtin.«set.__init__» noKeywords Builtin.Frozenset.updateFrom
        generalize hPI : pyIter = PI
        wp_walk
        subst hPI

        refine wpAny_pyIter_list hl1 ?_
        refine wpAny_bind (wpAny_runValue ?_)
        have hlS : l < s.heap.objs.size := Heap.lt_size hol
        have hh3 : A.in1.in1.in1.handled = none := by simp [hh]
        have hneI : l ≠ (s.heap.push { cls := .type "set", dict := none, data := .set #[] 0 (.fresh 0 0 led) }).objs.size := by
          rw [Heap.size_push]; exact Nat.ne_of_lt (Nat.lt_succ_of_lt hlS)
        have hSf : s.heap.objs.size ∉ [(s.heap.push { cls := .type "set", dict := none, data := .set #[] 0 (.fresh 0 0 led) }).objs.size, l] := by
          rw [Heap.size_push]; simp only [List.mem_cons, List.mem_singleton, List.not_mem_nil, or_false, not_or]
          exact ⟨Nat.ne_of_lt (Nat.lt_succ_self _), Nat.ne_of_gt hlS⟩
        have hsz : xs.length = items.size := by rw [← StrsAre.len_eq hi, Array.length_toList]
        have hval : ∀ (i : Nat) (v : Value), items[i]? = some v → ∃ t, v = .str (xs.getD i Str.empty) t := fun i v hv => SS.strs_at hi i v (by rw [Array.getElem?_toList]; exact hv)
        refine loopAll ((Walks.list hh3 _ l hneI items).toS) s.heap.objs.size
          hSf xs hsz (by rw [← hsz]; exact hn1) hval (items.size - 0) 0 _ (by omega) (Nat.zero_le _)
          ⟨⟨_, Heap.get?_push_size _ rfl, rfl, rfl⟩, (hl1.push _)⟩ ?hS0 ?hR
        case hS0 =>
          have hget : ((s.heap.push { cls := .type "set", dict := none, data := .set #[] 0 (.fresh 0 0 led) }).push { cls := .type "list_iterator", data := .fields #[.ref l, .int 0 0] }).get? s.heap.objs.size
              = some { cls := .type "set", dict := none, data := .set #[] 0 (.fresh 0 0 led) } := Heap.get?_push_of_some _ hS
          exact PyProof.Rows.SetOf_congr ((PyProof.Rows.setObjOf_fresh (knd := PySem.strKind prog w) led).setOf hget (by unfold scanBound; omega)) (fun _ => rfl) rfl
        case hR =>
          intro s' hm hS'
          obtain ⟨h', g', d', tk', os'⟩ := s'
          have eg : g' = s.gens := hm.gens
          have ed : d' = s.drawn := hm.drawn
          have eo : os' = s.os := hm.os
          subst eg; subst ed; subst eo
          show wpAny _ _ _ _ _ _
          refine wpAny_pure ?_
          show wpAny _ _ (ret Value.none) _ _ _
          refine wpAny_pure ⟨rfl, h', tk', rfl, hS', fun b o hb e => ?_⟩
          have hb1 : b ≠ s.heap.objs.size := Nat.ne_of_lt hb
          have hb2 : b ≠ (s.heap.push { cls := .type "set", dict := none, data := .set #[] 0 (.fresh 0 0 led) }).objs.size := by
            rw [Heap.size_push]; exact Nat.ne_of_lt (Nat.lt_succ_of_lt hb)
          exact hm.heap b o (by simp only [List.mem_cons, List.mem_singleton, List.not_mem_nil, or_false, not_or]; exact ⟨hb1, hb2⟩) (Heap.get?_push_of_some _ (Heap.get?_push_of_some _ e))

      · cases r₂ with
        | error e => exact hr₂
        | ok fl₂ =>
          cases fl₂ with
          | ret r =>
            obtain ⟨rfl, h', tk, rfl, hS', hk'⟩ := hr₂
            repeat (any_goals (first | assumption | wp_step))
            exact h _ _ hS' hk'
          | _ => exact hr₂.elim
    | _ => exact hr.elim

set_option maxHeartbeats 3200000 in
theorem set_tupleA {l : Addr} {items : Array Value} {xs : List Str} {Q : Value → Shared → Prop}
    (hh : A.handled = none) (hl : s.heap.IsTuple l items) (hi : PyProof.Rows.StrsAre items.toList xs) (hn1 : xs.length + 1 < scanBound)
    (h : ∀ (h' : Heap) (tk : Nat), h'.SetOf (PySem.strKind prog w) s.heap.objs.size (fun k' => (met (xs.take items.size)).any (· == k')) (met (xs.take items.size)).length →
      (∀ b o, b < s.heap.objs.size → s.heap.get? b = some o → h'.get? b = some o) → Q (.ref s.heap.objs.size) { s with heap := h', toks := tk }) :
    wpAny (model prog w) A (call (.type "set") [.ref l]) Q E s := by
  obtain ⟨c, tl, hmro⟩ := PySem.F.called_set.mro
  have hmade := PySem.F.called_set.made
  have hsub := PySem.F.called_set.sub
  refine wpAny_call (codeAny_of_tree ?_)
  show wpAny _ _ (callAny (.type "set") _) _ _ _
  refine wpAny_pure ⟨Code.quiet_builtin _ (by decide +kernel), codeAny_builtin PySem.F.entry_type_call ?_⟩
  rw [Around.under_plain (weight_type_call_type "set" [.ref l] []) rfl]
  have h1 := PySem.F.called_set.notType
  have h2 := PySem.F.called_set.canCreate
  have hct := PySem.F.typeCall_set_1 (.ref l)
  repeat (any_goals (first | assumption | wp_step))

  refine codeAny_mono (code_set_new_1 (.ref l) (E := E) (Q₁ := fun obj s₁ => ∃ led : Bool, obj = .ref s.heap.objs.size ∧ s₁ = { s with heap := s.heap.push { cls := .type "set", dict := none, data := .set #[] 0 (.fresh 0 0 led) } }) fun led => ⟨led, rfl, rfl⟩) fun r s₁ hr => ?_
  cases r with
  | error e => exact hr
  | ok fl =>
    cases fl with
    | ret obj =>
      obtain ⟨led, rfl, rfl⟩ := hr
      have hS : (s.heap.push { cls := .type "set", dict := none, data := .set #[] 0 (.fresh 0 0 led) }).get? s.heap.objs.size = some { cls := .type "set", dict := none, data := .set #[] 0 (.fresh 0 0 led) } := Heap.get?_push_size _ rfl
      have hT : Shared.TypeIs { s with heap := s.heap.push { cls := .type "set", dict := none, data := .set #[] 0 (.fresh 0 0 led) } } (.ref s.heap.objs.size) "set" := ⟨_, hS, rfl⟩
      have hli := PySem.F.called_set.init.lookup
      have hbi := PySem.F.called_set.init.bind (.ref s.heap.objs.size)
      repeat (any_goals (first | assumption | wp_step))

      refine codeAny_mono (codeAny_call_builtin (R := wants (fun r s₂ => r = .none ∧ ∃ h' tk, s₂ = { s with heap := h', toks := tk } ∧
          h'.SetOf (PySem.strKind prog w) s.heap.objs.size (fun k' => (met (xs.take items.size)).any (· == k')) (met (xs.take items.size)).length ∧
          (∀ b o, b < s.heap.objs.size → s.heap.get? b = some o → h'.get? b = some o)) E) PySem.F.called_set.init.plain PySem.F.entry_set_init (check_set_init_1 hT ?_)) fun r₂ s₂ hr₂ => ?_
      · obtain ⟨ol, hol, hcl, nl, hdl⟩ := hl
        obtain ⟨ocls, odict, odata, oslots⟩ := ol
        simp only at hcl hdl
        subst hcl; subst hdl
        have hol' : (s.heap.push { cls := .type "set", dict := none, data := .set #[] 0 (.fresh 0 0 led) }).get? l = some { cls := .type "tuple", dict := odict, data := .seq items nl, slots := oslots } := Heap.get?_push_of_some _ hol
        have hsls := PySem.F.sub_tuple_set
        have hslf := PySem.F.sub_tuple_frozenset
        have hne : (Value.type "tuple" == Value.type "dict") = false := by decide
        have hl1 : (s.heap.push { cls := .type "set", dict := none, data := .set #[] 0 (.fresh 0 0 led) }).IsTuple l items := ⟨_, hol', rfl, nl, rfl⟩
        unfold Builtin.«set.__init__» noKeywords Builtin.Frozenset.updateFrom
        generalize hPI : pyIter = PI
        wp_walk
        subst hPI

        refine wpAny_pyIter_tuple hl1 ?_
        refine wpAny_bind (wpAny_runValue ?_)
        have hlS : l < s.heap.objs.size := Heap.lt_size hol
        have hh3 : A.in1.in1.in1.handled = none := by simp [hh]
        have hneI : l ≠ (s.heap.push { cls := .type "set", dict := none, data := .set #[] 0 (.fresh 0 0 led) }).objs.size := by
          rw [Heap.size_push]; exact Nat.ne_of_lt (Nat.lt_succ_of_lt hlS)
        have hSf : s.heap.objs.size ∉ [(s.heap.push { cls := .type "set", dict := none, data := .set #[] 0 (.fresh 0 0 led) }).objs.size, l] := by
          rw [Heap.size_push]; simp only [List.mem_cons, List.mem_singleton, List.not_mem_nil, or_false, not_or]
          exact ⟨Nat.ne_of_lt (Nat.lt_succ_self _), Nat.ne_of_gt hlS⟩
        have hsz : xs.length = items.size := by rw [← StrsAre.len_eq hi, Array.length_toList]
        have hval : ∀ (i : Nat) (v : Value), items[i]? = some v → ∃ t, v = .str (xs.getD i Str.empty) t := fun i v hv => SS.strs_at hi i v (by rw [Array.getElem?_toList]; exact hv)
        refine loopAll ((Walks.tuple hh3 _ l hneI items).toS) s.heap.objs.size
          hSf xs hsz (by rw [← hsz]; exact hn1) hval (items.size - 0) 0 _ (by omega) (Nat.zero_le _)
          ⟨⟨_, Heap.get?_push_size _ rfl, rfl, rfl⟩, (hl1.push _)⟩ ?hS0 ?hR
        case hS0 =>
          have hget : ((s.heap.push { cls := .type "set", dict := none, data := .set #[] 0 (.fresh 0 0 led) }).push { cls := .type "tuple_iterator", data := .fields #[.ref l, .int 0 0] }).get? s.heap.objs.size
              = some { cls := .type "set", dict := none, data := .set #[] 0 (.fresh 0 0 led) } := Heap.get?_push_of_some _ hS
          exact PyProof.Rows.SetOf_congr ((PyProof.Rows.setObjOf_fresh (knd := PySem.strKind prog w) led).setOf hget (by unfold scanBound; omega)) (fun _ => rfl) rfl
        case hR =>
          intro s' hm hS'
          obtain ⟨h', g', d', tk', os'⟩ := s'
          have eg : g' = s.gens := hm.gens
          have ed : d' = s.drawn := hm.drawn
          have eo : os' = s.os := hm.os
          subst eg; subst ed; subst eo
          show wpAny _ _ _ _ _ _
          refine wpAny_pure ?_
          show wpAny _ _ (ret Value.none) _ _ _
          refine wpAny_pure ⟨rfl, h', tk', rfl, hS', fun b o hb e => ?_⟩
          have hb1 : b ≠ s.heap.objs.size := Nat.ne_of_lt hb
          have hb2 : b ≠ (s.heap.push { cls := .type "set", dict := none, data := .set #[] 0 (.fresh 0 0 led) }).objs.size := by
            rw [Heap.size_push]; exact Nat.ne_of_lt (Nat.lt_succ_of_lt hb)
          exact hm.heap b o (by simp only [List.mem_cons, List.mem_singleton, List.not_mem_nil, or_false, not_or]; exact ⟨hb1, hb2⟩) (Heap.get?_push_of_some _ (Heap.get?_push_of_some _ e))

      · cases r₂ with
        | error e => exact hr₂
        | ok fl₂ =>
          cases fl₂ with
          | ret r =>
            obtain ⟨rfl, h', tk, rfl, hS', hk'⟩ := hr₂
            repeat (any_goals (first | assumption | wp_step))
            exact h _ _ hS' hk'
          | _ => exact hr₂.elim
    | _ => exact hr.elim

end
end DtS
end
section
set_option maxRecDepth 100000
set_option maxHeartbeats 4000000
/-! QP: len(set(xs)) of texts as a rule of the layer. -/
namespace Dt
open PySem PySem.Spec
open L2 hiding passL ps_try_many HdsOk takes0 XE Takes CX takes_of passes_call PMk MkP ps_raise mk_of ps_try_as pmk_own
open L2N hiding St
open PyProof.Rows hiding St
def lenSetD : List D → Option EV
  | [d] => (seqD d).bind fun xs => (strsOf xs).bind fun ys => if ys.length ≤ 4000 then some (vI (DtS.met ys).length) else none
  | _ => none
theorem met_map {ys : List (List Nat)} : (DtS.met (ys.map mkS)).length = (DtS.met ys).length := by
  have key : ∀ (ys σ : List (List Nat)), (ys.map mkS).foldl DtS.stepM (σ.map mkS) = (ys.foldl DtS.stepM σ).map mkS := fun ys => by
    induction ys with
    | nil => intro σ; rfl
    | cons y ys ih =>
      intro σ
      simp only [List.map_cons, List.foldl_cons]
      have e : DtS.stepM (σ.map mkS) (mkS y) = (DtS.stepM σ y).map mkS := by
        unfold DtS.stepM
        have e1 : (σ.map mkS).any (· == mkS y) = σ.any (· == y) := by
          rw [List.any_map]
          congr 1
          funext z
          show (mkS z == mkS y) = (z == y)
          rw [Bool.eq_iff_iff]
          simp [mkS_inj]
        rw [e1]
        split <;> simp
      rw [e, ih]
  have := key ys []
  unfold DtS.met
  rw [List.map_nil] at this
  rw [this, List.length_map]
section
variable {X : Cx}
def tLenSetA (K : PySem.W.Frag) (ta : TE) : TE := fun σ H Q => ta σ H fun x H1 => ∃ l, ∃ xs : List Str, x = .ref l ∧ (SqL K H1 l (xs.map V.str) ∨ SqT K H1 l (xs.map V.str)) ∧ xs.length ≤ 4000 ∧ Q (.int ((DtS.met xs).length : Nat)) H1
theorem pe_lenSetA {a : Expr} {ta : TE} {p p2 q pos : Pos} (hc : X.calm = true) (hg : Gl X "len") (hm : X.mg "len" = none) (hg2 : Gl X "set") (hm2 : X.mg "set" = none) (ha : PE X a ta)
    (na : starEach [a] X.env = (false, eval a X.env) :: starEach [] X.env := by rfl) : PE X (.Call (.Name "len" p) [.Call (.Name "set" p2) [a] [] q] [] pos) (tLenSetA X.K ta) := by
  refine ⟨fun pins s σ H Q I h => ?_⟩
  refine Call_ (ld_blt I hg hm PySem.boot_len ?_)
  refine PyProof.Rows.callWith_builtin1 (PyProof.Rows.args_cons ?_ rfl) rfl rfl
  refine Call_ (ld_blt I hg2 hm2 PyProof.Rows.boot_set ?_)
  refine PyProof.Rows.callWith_type1 (PyProof.Rows.args_cons (thn (ha.run pins s σ H _ I h) fun v s1 ⟨x, H1, I1, r1, q1⟩ => PyProof.Rows.args_nil ?_) na) na rfl
  obtain ⟨l, xs, rfl, hq, h1, q1⟩ := q1
  cases r1
  have fin : ∀ (its : List Value), Vals (xs.map V.str) its → ∀ (h' : Heap) (tk : Nat), h'.SetOf (PySem.strKind X.prog X.w) s1.heap.objs.size (fun k' => (DtS.met (xs.take its.toArray.size)).any (· == k')) (DtS.met (xs.take its.toArray.size)).length →
      (∀ b o, b < s1.heap.objs.size → s1.heap.get? b = some o → h'.get? b = some o) →
      wpAny (model X.prog X.w) X.A (spliced (backTo pos (starEach [] X.env))) (fun vs s₂ => wpAny (model X.prog X.w) X.A (call (.builtin "len") (Value.ref s1.heap.objs.size :: vs)) (EP X pins σ Q) X.xe s₂) X.xe { s1 with heap := h', toks := tk } := fun its r h' tk hS hk => by
    refine PyProof.Rows.args_nil ?_
    have hl : its.toArray.size = xs.length := by rw [List.size_toArray, ← r.length, List.length_map]
    rw [hl, List.take_length] at hS
    obtain ⟨o, es, ep, t, ho, hex, hd, _, _, _, hf, hn⟩ := hS
    have I2 : Inv X pins σ H1 { s1 with heap := h', toks := tk } := I1.kept fun b o e => hk b o (Heap.lt_size e) e
    have hml := DtS.met_len xs
    refine call_len_set ho hex hd hf (by rw [hn] <;> omega) ⟨.int ((DtS.met xs).length : Nat), H1, I2.tok _, ⟨_, by rw [hn]⟩, q1⟩
  rcases hq with hq | hq
  · obtain ⟨its, r, pl, hz⟩ := I1.list hq
    exact DtS.set_listA (I1.ok.hd hc) pl.isList (by simpa using strsAre_of r) (by unfold scanBound; omega) fun h' tk hS hk => fin its r h' tk hS hk
  · obtain ⟨its, r, pl, hz⟩ := I1.tuple hq
    exact DtS.set_tupleA (I1.ok.hd hc) pl (by simpa using strsAre_of r) (by unfold scanBound; omega) fun h' tk hS hk => fin its r h' tk hS hk
end
section
variable {T : Tab} {X : Cx} {a : Expr} {fa : M AV} {p p2 q pos : Pos}
theorem qe_lenSet (hc : X.calm = true) (hg : Gl X "len") (hm : X.mg "len" = none) (hg2 : Gl X "set") (hm2 : X.mg "set" = none) (ha : QO T X a fa) (na : starEach [a] X.env = (false, eval a X.env) :: starEach [] X.env := by rfl) :
    QE T X (.Call (.Name "len" p) [.Call (.Name "set" p2) [a] [] q] [] pos) (eB lenSetD (asCons fa asNil)) := fun pn xe W tk hp => by
  refine impE (pe_lenSetA (X := X.tr pn xe) hc hg hm hg2 hm2 (ha pn xe W tk hp) na) fun σ H Q ⟨ex, env, z⟩ => ⟨ex, env, ?_⟩
  have z2 := trx_bind (relAs X.K T) rmE z
  refine (trx_bind (relA X.K T) rmAs z2).mono fun v H1 ⟨av, env1, s, ra, g, rr, er, oo⟩ => ?_
  have oo2 : Out X.K T (relAs X.K T) ex env1 W σ H1 (fun vs H2 => ∃ as env2, Step X.K T ex σ H env H2 env2 ∧ relAs X.K T ex σ env2 H H2 vs as ∧ trx X.K T (relE X.K T) ex (bM lenSetD as) env2 W σ H2 Q) rr := oo
  cases er
  obtain ⟨as, env2, s2, rs, q⟩ := oo2 [v] H1 (Step.refl g) (.cons ra .nil)
  obtain ⟨exs, ds, ev, dm, r1, e, k⟩ := trx_b q rs
  unfold lenSetD at e
  split at e
  · rename_i d
    obtain ⟨w, hw, rd⟩ := one_of r1
    cases hw
    obtain ⟨xs, e1, e⟩ := opt_bind e
    obtain ⟨ys, e2, e⟩ := opt_bind e
    split at e
    · rename_i hl
      cases e
      obtain ⟨l, vs, rfl, h1, h2⟩ := seq_of e1 rd
      cases strs_rep e2 h2
      refine ⟨l, ys.map mkS, rfl, h1, by rw [List.length_map]; exact hl, k _ _ ext_refl ?_⟩
      show V.int _ = V.int _
      rw [met_map]
    · cases e
  · cases e
end
end Dt
end
section
set_option maxRecDepth 100000
set_option maxHeartbeats 4000000
/-! QR: defs with *args, own special methods, class attributes, classmethods, pairs of names, list(range). -/
namespace Dt
variable {NG : Prop}
open PySem PySem.Spec
open L2 hiding passL ps_try_many HdsOk takes0 XE Takes CX takes_of passes_call PMk MkP ps_raise mk_of ps_try_as pmk_own
open L2N hiding St
open PyProof.Rows hiding St

/-! ### a def (self, *rest) -/
def valsOf : Sl → Option (List D)
  | [] => some []
  | .val d :: r => (valsOf r).map (d :: ·)
  | _ :: _ => none
def funV (n : Nat) (body : S) : M EV := fun args => match args with
  | a :: rest => (valsOf rest).bind fun ds => if ds.length ≤ 5000 then match funD n 2 body [a, .val (.tup ds)] with
    | some (.ok v (a' :: _)) => some (.ok v (a' :: rest))
    | some (.exc x (a' :: _)) => some (.exc x (a' :: rest))
    | _ => none else none
  | [] => none
section
variable {K : PySem.W.Frag} {T : Tab} {ex : Addr → Prop} {H H' H1 : Hp} {a a' r1 : Slot} {v : V} {p : Addr} {rest : List V} {rs : Sl} {ds : List D}
theorem valsOf_get : ∀ {rs : Sl} {ds : List D}, valsOf rs = some ds → rs = ds.map Slot.val
  | [], _, e => by cases e; rfl
  | .val d :: r, _, e => by
    unfold valsOf at e
    obtain ⟨es, e1, rfl⟩ := Option.map_eq_some_iff.mp e
    rw [valsOf_get e1]; rfl
  | .emp :: _, _, e => by cases e
  | .own _ :: _, _, e => by cases e
theorem repL_slots {σ : St} {env : Sl} (g : Good K T ex σ H env) : ∀ {ds : List D} {rest : List V} (k : Nat), (∀ j d, ds[j]? = some d → env[k + j]? = some (.val d)) → (∀ j u, rest[j]? = some u → σ[k + j]? = some (some u)) → ds.length = rest.length → RepL K T (exO ex σ env) H ds rest
  | [], [], _, _, _, _ => rfl
  | d :: ds, u :: us, k, h1, h2, hl => by
    obtain ⟨w, e1, r⟩ := g.val k d (h1 0 d rfl)
    have e2 := h2 0 u rfl
    rw [show k + 0 = k from rfl] at e2
    rw [e2] at e1
    cases e1
    exact ⟨u, us, rfl, r, repL_slots g (k + 1) (fun j d' e => by have := h1 (j + 1) d' e; rwa [show k + (j + 1) = k + 1 + j by omega] at this) (fun j w e => by have := h2 (j + 1) w e; rwa [show k + (j + 1) = k + 1 + j by omega] at this) (by simpa using hl)⟩
  | [], _ :: _, _, _, _, hl => by simp at hl
  | _ :: _, [], _, _, _, hl => by simp at hl
theorem owns_V (b : Addr) : Owns (some v :: rest.map some) (a' :: ds.map Slot.val) b ↔ ∃ c, a' = .own c ∧ v = .ref b := by
  constructor
  · rintro ⟨i, c, e1, e2⟩
    cases i with
    | zero => simp at e1 e2; exact ⟨c, e1, e2⟩
    | succ i =>
      simp at e1
  · rintro ⟨c, rfl, rfl⟩
    exact ⟨0, c, rfl, rfl⟩
theorem owns_P (hr : ∀ c, r1 ≠ .own c) (b : Addr) : Owns [some v, some (V.ref p)] [a', r1] b ↔ ∃ c, a' = .own c ∧ v = .ref b := by
  constructor
  · rintro ⟨i, c, e1, e2⟩
    match i, e1, e2 with
    | 0, e1, e2 => simp at e1 e2; exact ⟨c, e1, e2⟩
    | 1, e1, _ => simp at e1; exact absurd e1 (hr c)
    | i + 2, e1, _ => simp at e1
  · rintro ⟨c, rfl, rfl⟩
    exact ⟨0, c, rfl, rfl⟩
theorem exO_VP (hr : ∀ c, r1 ≠ .own c) : exO ex (some v :: rest.map some) (a' :: ds.map Slot.val) = exO ex [some v, some (V.ref p)] [a', r1] := funext fun b => propext (or_congr Iff.rfl ((owns_V b).trans (owns_P hr b).symm))
/-- the start -/
theorem good_P (g : Good K T ex (some v :: rest.map some) H (a :: ds.map Slot.val)) (hl : ds.length = rest.length) (hp : H p = none) : Good K T ex [some v, some (V.ref p)] (upd H p (.tup rest)) [a, .val (.tup ds)] := by
  have hr : ∀ c, Slot.val (.tup ds) ≠ .own c := fun c z => by cases z
  have eo := exO_VP (ex := ex) (v := v) (rest := rest) (ds := ds) (a' := a) (p := p) hr
  have mo : ∀ b o, ¬ exO ex (some v :: rest.map some) (a :: ds.map Slot.val) b → H b = some o → ¬ exO ex [some v, some (V.ref p)] [a, .val (.tup ds)] b ∧ upd H p (.tup rest) b = some o := fun b o n e => ⟨by rw [← eo]; exact n, ext_new hp b o e⟩
  refine ⟨rfl, fun i d e => ?_, fun i c e => ?_, fun i j x c c' e1 e2 e3 e4 => ?_, fun b h => ?_, g.tb.ext (ext_new hp)⟩
  · match i, e with
    | 0, e =>
      simp at e
      obtain ⟨w, e1, r⟩ := g.val 0 d (by simp [e])
      exact ⟨w, by simpa using e1, r.mono mo⟩
    | 1, e =>
      simp at e
      subst e
      refine ⟨.ref p, rfl, p, rest, rfl, ?_, upd_same, ?_⟩
      · rw [← eo]; exact g.fresh hp
      · have rl := repL_slots (ds := ds) (rest := rest) g 1 (fun j d e => by rw [Nat.add_comm, List.getElem?_cons_succ, List.getElem?_map, e]; rfl) (fun j u e => by rw [Nat.add_comm, List.getElem?_cons_succ, List.getElem?_map, e]; rfl) hl
        exact rl.mono mo
    | i + 2, e => simp at e
  · match i, e with
    | 0, e =>
      simp at e
      obtain ⟨x, e1, n, r⟩ := g.own 0 c (by simp [e])
      refine ⟨x, by simpa using e1, n, r.mono ?_ mo⟩
      exact upd_ne fun z => by subst z; exact r.there hp
    | 1, e => simp at e
    | i + 2, e => simp at e
  · match i, j, e1, e2 with
    | 0, 0, _, _ => rfl
    | 1, _, e1, _ => simp at e1
    | 0, 1, _, e2 => simp at e2
    | i + 2, _, e1, _ => simp at e1
    | 0, j + 2, _, e2 => simp at e2
  · intro z
    by_cases q : b = p
    · subst q; rw [upd_same] at z; cases z
    · rw [upd_ne q] at z; exact g.dom b h z
/-- the end -/
theorem good_V {ex2 : Addr → Prop} (gd : Good K T ex2 [some v, some (V.ref p)] H' [a', r1]) (hr : ∀ c, r1 ≠ .own c) (rl : RepL K T (exO ex2 [some v, some (V.ref p)] [a', r1]) H' ds rest) : Good K T ex2 (some v :: rest.map some) H' (a' :: ds.map Slot.val) := by
  have eo := exO_VP (ex := ex2) (v := v) (rest := rest) (ds := ds) (a' := a') (p := p) hr
  refine ⟨by simp [rl.length], fun i d e => ?_, fun i c e => ?_, fun i j x c c' e1 e2 e3 e4 => ?_, gd.dom, gd.tb⟩
  · rw [eo]
    cases i with
    | zero =>
      simp at e
      obtain ⟨w, e1, r⟩ := gd.val 0 d (by simp [e])
      exact ⟨w, by simpa using e1, r⟩
    | succ i =>
      rw [List.getElem?_cons_succ, List.getElem?_map] at e
      cases q : ds[i]? with
      | none => rw [q] at e; cases e
      | some d' =>
        rw [q] at e
        cases e
        obtain ⟨w, e1, r⟩ := rl.get q
        exact ⟨w, by rw [List.getElem?_cons_succ, List.getElem?_map, e1]; rfl, r⟩
  · rw [eo]
    cases i with
    | zero =>
      simp at e
      obtain ⟨x, e1, n, r⟩ := gd.own 0 c (by simp [e])
      exact ⟨x, by simpa using e1, n, r⟩
    | succ i => simp at e
  · cases i with
    | succ i => simp at e1
    | zero =>
      cases j with
      | zero => rfl
      | succ j => simp at e2
theorem spV {n : Nat} {body : S} {vs : List V} {Q : VK} {E : XK} (h : spD K T (funV n body) vs H Q E) : ∃ v rest, vs = v :: rest ∧ rest.length ≤ 5000 ∧ ∀ p, H p = none → spD K T (funD n 2 body) [v, .ref p] (upd H p (.tup rest)) Q E := by
  obtain ⟨ex, args, g, r, e, o⟩ := h
  have hlen := g.len
  rw [List.length_map] at hlen
  cases args with
  | nil => cases e
  | cons a rs =>
    cases vs with
    | nil => simp at hlen
    | cons v rest =>
      unfold funV at e
      obtain ⟨ds, e1, e⟩ := opt_bind e
      have ers := valsOf_get e1
      subst ers
      have hl : ds.length = rest.length := by simpa using hlen
      by_cases hz : ds.length ≤ 5000
      · rw [if_pos hz] at e
        refine ⟨v, rest, rfl, by omega, fun p hp => ⟨ex, [a, .val (.tup ds)], good_P g hl hp, ?_⟩⟩
        have rl := repL_slots (ds := ds) (rest := rest) g 1 (fun j d e => by rw [Nat.add_comm, List.getElem?_cons_succ, List.getElem?_map, e]; rfl) (fun j u e => by rw [Nat.add_comm, List.map_cons, List.getElem?_cons_succ, List.getElem?_map, e]; rfl) hl
        have step : ∀ {H' : Hp} {a' : Slot} {t : Sl}, Step K T ex [some v, some (V.ref p)] (upd H p (.tup rest)) [a, .val (.tup ds)] H' (a' :: t) → ∃ r1, t = [r1] ∧ (∀ c, r1 ≠ .own c) ∧ Step K T ex ((v :: rest).map some) H (a :: ds.map Slot.val) H' (a' :: ds.map Slot.val) ∧ (∀ b o, ¬ exO ex ((v :: rest).map some) (a :: ds.map Slot.val) b → H b = some o → ¬ exO ex [some v, some (V.ref p)] [a', r1] b ∧ (NT o → H' b = some o)) := fun {H' a' t} s => by
          have hl2 := s.gd.len
          obtain ⟨r1, rfl⟩ : ∃ r1, t = [r1] := by
            match t, hl2 with
            | [r1], _ => exact ⟨r1, rfl⟩
          have hr : ∀ c, r1 ≠ .own c := fun c z => by
            obtain ⟨c', e⟩ := s.sb 1 c (by simp [z])
            simp at e
          have fr : ∀ b o, ¬ exO ex ((v :: rest).map some) (a :: ds.map Slot.val) b → H b = some o → ¬ exO ex [some v, some (V.ref p)] [a', r1] b ∧ (NT o → H' b = some o) := fun b o nb e => by
            have eo := exO_VP (ex := ex) (v := v) (rest := rest) (ds := ds) (a' := a) (p := p) (r1 := .val (.tup ds)) (fun c z => by cases z)
            rw [List.map_cons, eo] at nb
            exact ⟨fun z => nb (s.exO z), s.fr b o (ext_new hp b o e) fun z => nb (.inr z)⟩
          refine ⟨r1, rfl, hr, ⟨fun b o e nb => s.fr b o (ext_new hp b o e) fun z => nb ((owns_V b).mpr ((owns_P (fun c z => by cases z) b).mp z)), fun b e => s.dm b fun z => ?_, fun i c e => ?_, ?_⟩, fr⟩
          · by_cases q : b = p
            · subst q; rw [upd_same] at z; cases z
            · rw [upd_ne q] at z; exact e z
          · cases i with
            | zero => simp at e; obtain ⟨c', e'⟩ := s.sb 0 c (by simp [e]); exact ⟨c', by simpa using e'⟩
            | succ i => simp at e
          · exact good_V s.gd hr (rl.monoT fr)
        cases q : funD n 2 body [a, .val (.tup ds)] with
        | none => rw [q] at e; cases e
        | some rr =>
          rw [q] at e
          refine ⟨rr, rfl, ?_⟩
          have eo2 : ∀ {ex2 : Addr → Prop} {a' r1 : Slot}, (∀ c, r1 ≠ .own c) → exO ex2 ((v :: rest).map some) (a' :: ds.map Slot.val) = exO ex2 [some v, some (V.ref p)] [a', r1] := fun hr => exO_VP hr
          cases rr with
          | exc x env2 =>
            cases env2 with
            | nil => cases e
            | cons a' t =>
              cases e
              intro cls dd H' s rx
              obtain ⟨r1, rfl, hr, s', fr⟩ := step s
              refine o cls dd H' s' ⟨rx.1, rx.2.imp id ?_⟩
              rintro ⟨b, ws, h1, h2, h3, h4⟩
              exact ⟨b, ws, h1, h2, h3, by rw [eo2 hr]; exact h4⟩
          | ok w env2 =>
            cases env2 with
            | nil => cases e
            | cons a' t =>
              cases e
              intro u H' s ru
              obtain ⟨r1, rfl, hr, s', fr⟩ := step s
              refine o u H' s' ?_
              cases w with
              | v d => show Rep K T _ H' d u; rw [eo2 hr]; exact ru
              | o c =>
                obtain ⟨b, h1, h2, h3, h4⟩ := ru
                have hb : H b = none := by
                  by_cases q : b = p
                  · subst q; exact hp
                  · rw [upd_ne q] at h2; exact h2
                refine ⟨b, h1, hb, by rw [eo2 hr]; exact h3, good_V h4 hr (rl.monoT fun x o n e => ?_)⟩
                obtain ⟨f1, f2⟩ := fr x o n e
                refine ⟨fun z => ?_, f2⟩
                rcases z with (z | z) | z
                · exact f1 (.inl z)
                · subst z; rw [hb] at e; cases e
                · exact f1 (.inr z)
      · rw [if_neg hz] at e; cases e
end
section
variable {P : Program} {w : World} {K : PySem.W.Frag} {mg : Str → Option Value} {base : Heap} {T : Tab}
theorem Fun.qV {x qual : Str} {st : Stmt} {f : Addr} {fd : FuncData} {N : List Str} {pa pv : Str} {k : Nat} {body : S} (F : Fun K x qual st f fd) (Sc : FnScope N [pa, pv] (defScope st))
    (bd : ∀ (kV doc pm : Value) (an : Option Addr) (cdv ct : Value) (u : Value) (rest : List Value), rest.length ≤ 5000 → bindArgs (PySem.W.fnOf x qual (defArgs st) (defBody st) (defScope st) .none kV doc pm an cdv ct) ⟨u :: rest, []⟩ = (newTuple rest >>= fun t => pure [(pa, u), (pv, t)]))
    (hb : ∀ (cdv : Value) (A : Around) (outer : List Env) (s : Shared) (H : Hp) (E : XK), RG NG k (A.deeper (envOfC qual (defScope st) s.heap.objs.size f cdv)) →
      QSs T (cxOf (L2N.CX P w) P w K mg base N qual (defScope st) f cdv A outer s H E) (lt 2) (defBody st) body) :
    FnG NG P w K mg base (k + 1) f (spD K T (funV N.length body)) := by
  have hpl : 2 ≤ N.length := by have := congrArg List.length Sc.pre; rw [List.length_take] at this; simp at this; omega
  obtain ⟨oc, od, kV, doc, pm, an, cdv, ct, osl, rfl, lk, hcd⟩ := F.ex
  intro A outer s H us vs Q E hr e0 r hsp
  obtain ⟨v, rest, rfl, hl, hq⟩ := spV hsp
  obtain ⟨u, ur, rfl, rv, rr⟩ : ∃ u ur, us = u :: ur ∧ RelV v u ∧ Vals rest ur := by
    cases r with
    | cons x y => exact ⟨_, _, rfl, x, y⟩
  have hl' : ur.length ≤ 5000 := by rw [← rr.length]; exact hl
  have hz : (5000 : Nat) ≤ sizeLine := by rw [sizeLine_eq]; omega
  have KX : K.In s.heap := e0.mod.kin.keeps fun b o e => (e0.bs b o e).1
  have hn : H s.heap.objs.size = none := e0.hok.fresh (Nat.le_refl _)
  have hp := hq s.heap.objs.size hn
  have kp : ∀ b o, s.heap.get? b = some o → (s.heap.push ({ cls := .type "tuple", data := .seq ur.toArray } : Obj)).get? b = some o := fun b o e => Heap.get?_push_of_some _ e
  have new : ObjOk P w (upd H s.heap.objs.size (.tup rest)) (s.heap.push ({ cls := .type "tuple", data := .seq ur.toArray } : Obj)) s.heap.objs.size (.tup rest) :=
    ⟨Nat.le_trans hl hz, ur, rr, ⟨_, Heap.get?_push_size _ rfl, rfl, _, rfl⟩⟩
  have e2 : Env0 P w K mg base A outer { s with heap := s.heap.push ({ cls := .type "tuple", data := .seq ur.toArray } : Obj) } (upd H s.heap.objs.size (.tup rest)) := StX.env0_laid e0 new
  have un : Un (frs outer) [] H (upd H s.heap.objs.size (.tup rest)) s.heap (s.heap.push ({ cls := .type "tuple", data := .seq ur.toArray } : Obj)) := Un.laid kp (Nat.le_refl _) hn
  have lim : (s.heap.push ({ cls := .type "tuple", data := .seq ur.toArray } : Obj)).NoLimit := e0.mod.nolimit.keeps fun b o e => (e2.bs b o e).1
  have hkind : ∀ y ∈ [pa, pv].zip [u, Value.ref s.heap.objs.size], (defScope st).names.lookup y.1 = some .local ∨
      ((defScope st).names.lookup y.1 = some .cell ∧ ((cellsFrom ((s.heap.push ({ cls := .type "tuple", data := .seq ur.toArray } : Obj)).objs.size + 1) (defScope st).names []).lookup y.1).isSome = true) := fun y hy => by
    rcases Sc.par y.1 (List.of_mem_zip hy).1 with q | q
    · exact .inl q
    · exact .inr ⟨q, PySem.W.cellsFrom_some _ _ _ (.inl q)⟩
  refine codeAny_call_function hr.r.depth (KX _ _ lk) rfl Sc.co Sc.gen rfl (PySem.W.codeRec_of KX hcd) ?_
  rw [bd kV doc pm an cdv ct u ur hl']
  refine wpAny_bind (wpAny_newTuple (wpAny_pure ?_) (Nat.le_trans hl' hz))
  refine wpAny_newFunctionEnv_cells (s := { s with heap := s.heap.push ({ cls := .type "tuple", data := .seq ur.toArray } : Obj) }) Sc.kind hkind fun env he s1 x => ?_
  subst he
  refine ⟨lim.keeps x.toInCall.keep, codeAny_func ?_⟩
  obtain ⟨t, ht, hq'⟩ := sp_body (ps := [pa, pv]) (s := { s with heap := s.heap.push ({ cls := .type "tuple", data := .seq ur.toArray } : Obj) }) hpl (hb cdv A outer { s with heap := s.heap.push ({ cls := .type "tuple", data := .seq ur.toArray } : Obj) } (upd H s.heap.objs.size (.tup rest)) E (hr.deeper _)) hp
  have r2 : Vals [v, V.ref s.heap.objs.size] [u, Value.ref s.heap.objs.size] := .cons rv (.cons rfl .nil)
  have I : Inv (cxOf (L2N.CX P w) P w K mg base N qual (defScope st) f cdv A outer { s with heap := s.heap.push ({ cls := .type "tuple", data := .seq ur.toArray } : Obj) } (upd H s.heap.objs.size (.tup rest)) E) [] (start N [v, .ref s.heap.objs.size]) (upd H s.heap.objs.size (.tup rest)) s1 :=
    inv_start Sc hr.r.hd e2 rfl r2 x
  refine wpAny_mono (ht.run [] s1 _ _ _ I hq') (fun fl s' hs => ?_) fun e s' hs => ?_
  · have fin : ∀ {σ' : St} {H' : Hp} {v' : V} {u' : Value}, Inv (cxOf (L2N.CX P w) P w K mg base N qual (defScope st) f cdv A outer { s with heap := s.heap.push ({ cls := .type "tuple", data := .seq ur.toArray } : Obj) } (upd H s.heap.objs.size (.tup rest)) E) [] σ' H' s' → RelV v' u' → Q v' H' →
        CE outer P w H s Q u' s' := fun {σ' H' v' u'} J rv' q => ⟨v', H', J.os, J.bare, un.trans J.base, J.hok, rv', q⟩
    cases fl with
    | ret u' =>
      obtain ⟨v', σ', H', J, rv', q⟩ := hs
      exact fin J rv' q
    | next =>
      obtain ⟨σ', H', J, q⟩ := hs
      exact fin (v' := V.non) (u' := Value.none) J rfl q
    | brk =>
      obtain ⟨_, _, _, q⟩ := hs
      exact False.elim q
    | cont =>
      obtain ⟨_, _, _, q⟩ := hs
      exact False.elim q
  · exact wpAny_mono hs (fun _ s'' z => cxUp (P := P) (w := w) outer s H { s with heap := s.heap.push ({ cls := .type "tuple", data := .seq ur.toArray } : Obj) } (upd H s.heap.objs.size (.tup rest)) E e s'' un kp rfl z) fun e' s'' z => cxUp (P := P) (w := w) outer s H { s with heap := s.heap.push ({ cls := .type "tuple", data := .seq ur.toArray } : Obj) } (upd H s.heap.objs.size (.tup rest)) E e' s'' un kp rfl z
end
end Dt
end
section
set_option maxRecDepth 100000
set_option maxHeartbeats 4000000
/-! QU: own special methods, class attributes, classmethods, star calls of a local class, pairs of names, list(range), dicts made. -/
namespace Dt
variable {NG : Prop}
open PySem PySem.Spec
open L2 hiding passL ps_try_many HdsOk takes0 XE Takes CX takes_of passes_call PMk MkP ps_raise mk_of ps_try_as pmk_own
open L2N hiding St
open PyProof.Rows hiding St

/-- x in y, y an own object -/
def inO (n : Bool) (mt : Nat → Option (M EV)) (x y : AV) : M EV := fun env => (objOf env y).bind fun p => (mt p.1).bind fun g => match callM g [y, x] env with
  | some (.ok (.v (.bl b)) e) => some (.ok (.v (.bl (n ^^ b))) e)
  | _ => none
/-- what of the text a special method asks -/
structure SpecOK (NG : Prop) (T : Tab) (X : Cx) (m : Str) (ex : Addr → Prop) (mt : Nat → Option (M EV)) : Prop where
  of : ∀ t g, mt t = some g → ∃ f k, PySem.W.findIn X.K (.ref (T.cls t)) m = some (some (.ref f)) ∧ PySem.W.isFn X.K (.ref f) = true ∧ PySem.W.fnIn X.K f = true ∧ PySem.W.noSeq X.K (T.cls t) = true ∧ RG NG (k + 1) X.A ∧ FnQ NG T X k f g ∧ ex (T.cls t)
section
variable {T : Tab} {X : Cx} {m : Str} {ec : Addr → Prop} {mt : Nat → Option (M EV)} {ex : Addr → Prop} {σ : St} {H : Hp} {env : Sl} {W : WX} {Q : VK}
end
section
variable {X : Cx} {a b : Expr} {ta tb : TE} {pos : Pos}
end
section
variable {T : Tab} {X : Cx} {a b : Expr} {pos : Pos} {fa fb : M AV} {mt : Nat → Option (M EV)}
end

/-! ### class attributes, classmethods -/
section
variable {T : Tab} {X : Cx} {x f m : Str} {p pos apos : Pos} {C pr g0 : Addr} {mc u : Value} {v : V} {d : D} {k : Nat} {g : M EV} {e : Expr} {es : List Expr} {fs : M (List AV)} {pl : Sem Bool}
theorem qe_cval (hg : Gl X x) (hm : X.mg x = some (.ref C)) (r : ClX.CRead X.K C mc) (c : ClX.CVal X.K C mc f v u) (hd : ∀ ex H, Rep X.K T ex H d v) (hdb : (x == ("__debug__" : Str)) = false := by decide)
    (hb : attributeBase (.Name x p) f X.env (eval (.Name x p) X.env) = eval (.Name x p) X.env := by rfl) : QE T X (.Attribute (.Name x p) f pos) (eC d) := fun pn xe W _ _ =>
  impE (ClX.pe_cval (X := X.tr pn xe) (pe_glob (X := X.tr pn xe) (v := .ref C) hg hm rfl hdb) hb) fun σ H Q h => ⟨C, mc, v, u, rfl, r, c, trC hd h⟩
theorem pe_cmethQ {ta : TE} {t : TA} {W : WX} {sp : Sp} {o : Expr} (he : PE X o ta) (tk : Takes X W) (r : ClX.CRead X.K C mc) (c : ClX.CMet X.K C mc m pr g0) (F : FnG NG X.prog X.w X.K X.mg X.base k g0 sp) (hr : RG NG k X.A) (ha : PA X (e :: es) t)
    (hst : starEach (e :: es) X.env = (false, eval e X.env) :: starEach es X.env := by rfl) (hpl : (backTo pos (starEach es X.env)).any (·.1) = false := by rfl)
    (ht : eval (.Call (.Attribute o m apos) (e :: es) [] pos) X.env = (do
      let ov ← eval o X.env
      standAt apos.atName
      let (f, first) ← holding [ov] (getMethod ov m pl)
      callWith pos f first (backTo pos (starEach (e :: es) X.env)) (backToKw pos (keywordEach [] X.env))) := by rfl) :
    PE X (.Call (.Attribute o m apos) (e :: es) [] pos) (fun σ H Q => ta σ H fun x H1 => x = .ref C ∧ t σ H1 fun vs H2 => sp (.ref C :: vs) H2 Q fun c d H' => W c d σ H') := by
  refine ⟨fun pins s σ H Q I h => ?_⟩
  refine PySem.W.methodCall_KW (pl := pl) (thn (he.run pins s σ H _ I h) fun u s1 ⟨x, H1, I1, rx, ex, q⟩ => ?_) ht
  subst ex
  obtain rfl : u = Value.ref C := rx
  refine ClX.getmethcm_ok I1 r c fun s2 I2 => ?_
  refine ClX.callwith_cm I2 (ClX.base_none I1 (Nat.le_refl _)) c.fi (thn (ha.run pos _ s2 σ H1 _ I2 q) fun us s3 ⟨vs, H2, I3, rv, q2⟩ => ⟨⟨ClX.pin_at I3, I3.kIn⟩, ?_⟩) hst hpl
  exact thn (wpAny_call (PySem.W.method_call (ClX.pin_at I3) (run_at (us := .ref C :: us) (vs := .ref C :: vs) F hr tk I3 (.cons rfl rv) q2))) fun _ _ y => ClX.unpinE y
def eCMeth (C : Addr) (g : M EV) (fs : M (List AV)) : M EV := M.bind fs fun as => callM g (.v (.raw (.ref C)) :: as)
theorem qe_cmeth (hg : Gl X x) (hm : X.mg x = some (.ref C)) (r : ClX.CRead X.K C mc) (c : ClX.CMet X.K C mc m pr g0) (F : FnQ NG T X k g0 g) (hr : RG NG k X.A) (ha : QAs T X (e :: es) fs) (hdb : (x == ("__debug__" : Str)) = false := by decide)
    (hst : starEach (e :: es) X.env = (false, eval e X.env) :: starEach es X.env := by rfl) (hpl : (backTo pos (starEach es X.env)).any (·.1) = false := by rfl)
    (ht : eval (.Call (.Attribute (.Name x p) m apos) (e :: es) [] pos) X.env = (do
      let ov ← eval (.Name x p) X.env
      standAt apos.atName
      let (f, first) ← holding [ov] (getMethod ov m pl)
      callWith pos f first (backTo pos (starEach (e :: es) X.env)) (backToKw pos (keywordEach [] X.env))) := by rfl) : QE T X (.Call (.Attribute (.Name x p) m apos) (e :: es) [] pos) (eCMeth C g fs) := fun pn xe W tk hp =>
  impE (pe_cmethQ (X := X.tr pn xe) (pl := pl) (pe_glob (X := X.tr pn xe) (v := .ref C) hg hm rfl hdb) tk r c F hr (ha pn xe W tk hp) hst hpl ht) fun σ H Q ⟨ex, env, q⟩ => ⟨rfl, ex, env, (trx_bind (relAs X.K T) rmE q).mono fun vs H1 ⟨as, env1, s, ra, q⟩ => trx_call q (.cons rfl ra)⟩
end
/-! ### cls( *y), cls a local name -/
def eMakeSL (i : Nat) (C : Addr) (t : Nat) (g : M EV) (fa : M AV) : M EV := fun env => match env[i]? with
  | some (.val (.raw (.ref C'))) => if C' = C then eMakeS t g fa env else none
  | _ => none
section
variable {T : Tab} {X : Cx} {k t : Nat} {f C : Addr} {g : M EV} {x : Str} {p sp_ pos : Pos} {e : Expr} {fa : M AV}
theorem pe_makeQSL {te : TE} {W : WX} {sp : Sp} (i : Nat) (M : Mk X.K C f) (F : FnG NG X.prog X.w X.K X.mg X.base k f sp) (hr : RG NG (k + 1) X.A) (tk : Takes X W) (he : PE X e te) (hN : X.N[i]? = some x := by rfl) (hv : Vis X.env.scope x := by first | exact Or.inl rfl | exact Or.inr (Or.inl rfl) | exact Or.inr (Or.inr rfl))
    (hdb : (x == ("__debug__" : Str)) = false := by decide) (hcd : (x == ("__classdict__" : Str)) = false := by decide)
    (hst : starEach [.Starred e sp_] X.env = [(true, eval e X.env)] := by rfl) : PE X (.Call (.Name x p) [.Starred e sp_] [] pos) (fun σ H Q => σ[i]? = some (some (V.ref C)) ∧ te σ H fun y H1 => ∃ a vs, y = V.ref a ∧ (SqT X.K H1 a vs ∨ SqL X.K H1 a vs) ∧
      ∀ x dx, H1 x = none → H1 dx = none → dx ≠ x → sp (V.ref x :: vs) (upd (upd H1 dx (.own x)) x (.ins C dx [])) (fun v H2 => v = .non ∧ Q (.ref x) H2) fun c d H' => W c d σ H') := by
  refine ⟨fun pins s σ H Q I h => ?_⟩
  obtain ⟨hs, ht⟩ := h
  refine wpAny_Call_Name_kw (thn ((pe_var (pos := p) hN hv hdb hcd).run pins s σ H (fun v H1 => v = .ref C ∧ H1 = H) I ⟨.ref C, hs, rfl, rfl⟩) fun u s1 ⟨v, H1, I1, r1, q1⟩ => ?_)
  obtain ⟨rfl, rfl⟩ := q1
  cases r1
  refine PySem.W.callWith_S (h₀ := X.base) I.ok.mod.kin M.kp (thn (he.run pins s1 σ _ _ I1 ht) fun v s1 ⟨y, H1, I1, ry, a, xs, ey, hxs, q⟩ => ?_) hst
  subst ey
  obtain rfl : v = Value.ref a := ry
  exact StX.star_any I1 hxs fun us s2 I2 rv => ⟨I2.kIn, run_makeQ M F hr tk I2 rv q⟩
theorem qe_makeSL (i : Nat) (M : Mk X.K (T.cls t) f) (F : FnQ NG T X k f g) (hr : RG NG (k + 1) X.A) (h : QO T X e fa) (hN : X.N[i]? = some x := by rfl) (hv : Vis X.env.scope x := by first | exact Or.inl rfl | exact Or.inr (Or.inl rfl) | exact Or.inr (Or.inr rfl))
    (hdb : (x == ("__debug__" : Str)) = false := by decide) (hcd : (x == ("__classdict__" : Str)) = false := by decide)
    (hst : starEach [.Starred e sp_] X.env = [(true, eval e X.env)] := by rfl) : QE T X (.Call (.Name x p) [.Starred e sp_] [] pos) (eMakeSL i (T.cls t) t g fa) := fun pn xe W tk hp => by
  refine impE (pe_makeQSL (X := X.tr pn xe) i M F hr tk (h pn xe W tk hp) hN hv hdb hcd hst) fun σ H Q ⟨ex, env, gd, r, er, o⟩ => ?_
  unfold eMakeSL at er
  split at er
  · rename_i C' hC
    split at er
    · rename_i hcc
      subst hcc
      obtain ⟨v, e1, rv⟩ := gd.val i _ hC
      cases (show v = V.ref _ from rv)
      refine ⟨e1, ex, env, (trx_bind (relA X.K T) rmE ⟨gd, r, er, o⟩).mono fun v H1 ⟨a, env1, s, ra, q⟩ => ?_⟩
      obtain ⟨g1, r, er, o⟩ := q
      obtain ⟨d, e1, er⟩ := opt_bind er
      obtain ⟨ds, e2, er⟩ := opt_bind er
      have rd := deref_ok g1 ra e1
      cases d with
      | lst xs =>
        cases e2
        obtain ⟨b, vs, e3, h1, h2⟩ := rd
        exact ⟨b, vs, e3, .inr (SqL.of h1), fun x dx hx hdx hne => trx_make ⟨g1, r, er, o⟩ (reps_of h2) hx hdx hne⟩
      | tup xs =>
        cases e2
        obtain ⟨b, vs, e3, _, h1, h2⟩ := rd
        exact ⟨b, vs, e3, .inl (SqT.of h1), fun x dx hx hdx hne => trx_make ⟨g1, r, er, o⟩ (reps_of h2) hx hdx hne⟩
      | _ => cases e2
    · cases er
  · cases er
end
end Dt
end
section
set_option maxRecDepth 100000
set_option maxHeartbeats 4000000
/-! QX: pairs of names, list(range), dicts made, repeats. -/
namespace Dt
open PySem PySem.Spec
open L2 hiding passL ps_try_many HdsOk takes0 XE Takes CX takes_of passes_call PMk MkP ps_raise mk_of ps_try_as pmk_own
open L2N hiding St
open PyProof.Rows hiding St
section
variable {K : PySem.W.Frag} {T : Tab} {np : Nat → Bool} {ex : Addr → Prop} {env env0 : Sl} {W : WX} {σ σ0 σ1 : St} {H H0 : Hp} {D : Ends}
theorem Good.storeS {v : V} {ev : EV} {i : Nat} (hi : np i = false) (s : SStep K T np ex σ0 H0 env0 σ H env) (r : RepR K T np ex σ0 env0 H0 σ env H v ev) : SStep K T np ex σ0 H0 env0 (σ.set i (some v)) H (env.set i (slotOf ev)) := by
  have g := s.gd
  by_cases hl : i < env.length
  case neg =>
    have h1 : env.set i (slotOf ev) = env := List.set_eq_of_length_le (by omega)
    have h2 : σ.set i (some v) = σ := List.set_eq_of_length_le (by rw [← g.len]; omega)
    rw [h1, h2]
    exact s
  have hσ : i < σ.length := by rw [← g.len]; exact hl
  have σi : (σ.set i (some v))[i]? = some (some v) := List.getElem?_set_self hσ
  have σj : ∀ j, j ≠ i → (σ.set i (some v))[j]? = σ[j]? := fun j h => List.getElem?_set_ne (Ne.symm h)
  have par : ∀ j, np j = true → (σ.set i (some v))[j]? = σ0[j]? := fun j h => (σj j (fun z => by rw [z, hi] at h; cases h)).trans (s.par j h)
  have ln : (σ.set i (some v)).length = σ0.length := List.length_set.trans s.ln
  have subp : ∀ (j : Nat) (c : OC), np j = true → (env.set i (slotOf ev))[j]? = some (.own c) → ∃ c', env0[j]? = some (.own c') := fun j c hj e => by
    rcases set_get e with ⟨h1, _, _⟩ | ⟨_, h⟩
    · rw [h1, hi] at hj; cases hj
    · exact s.sbp j c hj h
  cases ev with
  | v d =>
    have ow : ∀ {a}, Owns (σ.set i (some v)) (env.set i (slotOf (.v d))) a → Owns σ env a := fun ⟨j, c, e1, e2⟩ => by
      rcases set_get e1 with ⟨_, h, _⟩ | ⟨h1, h2⟩
      · cases h
      · rw [σj j h1] at e2; exact ⟨j, c, h2, e2⟩
    have mo : ∀ a o, ¬ exO ex σ env a → H a = some o → ¬ exO ex (σ.set i (some v)) (env.set i (slotOf (.v d))) a ∧ H a = some o := fun a o n e => ⟨fun z => n (z.imp id ow), e⟩
    refine ⟨s.fr, s.dm, subp, fun j c a hj e e2 => ?_, par, ln, ⟨by rw [List.length_set, List.length_set]; exact g.len, fun j d' e => ?_, fun j c e => ?_, fun j k a c c' e1 e2 e3 e4 => ?_, g.dom, g.tb⟩⟩
    · rcases set_get e with ⟨_, h, _⟩ | ⟨h1, h2⟩
      · cases h
      · rw [σj j h1] at e2
        exact s.sbl j c a hj h2 e2
    · rcases set_get e with ⟨h1, h, _⟩ | ⟨h1, h2⟩
      · cases h; subst h1; exact ⟨v, σi, Rep.mono mo r⟩
      · obtain ⟨u, e1, q⟩ := g.val j d' h2
        exact ⟨u, by rw [σj j h1]; exact e1, q.mono mo⟩
    · rcases set_get e with ⟨_, h, _⟩ | ⟨h1, h2⟩
      · cases h
      · obtain ⟨a, e1, n, q⟩ := g.own j c h2
        exact ⟨a, by rw [σj j h1]; exact e1, n, q.mono rfl mo⟩
    · rcases set_get e1 with ⟨_, h, _⟩ | ⟨h1, h2⟩
      · cases h
      · rcases set_get e2 with ⟨_, h, _⟩ | ⟨h3, h4⟩
        · cases h
        · rw [σj j h1] at e3
          rw [σj k h3] at e4
          exact g.inj j k a c c' h2 h4 e3 e4
  | o c0 =>
    obtain ⟨x, ev, nex, now, nx, ro, gx⟩ := r
    subst ev
    have nox : ¬ exO ex σ env x := fun z => z.elim nex now
    have ow : ∀ {a}, Owns (σ.set i (some (.ref x))) (env.set i (slotOf (.o c0))) a → Owns σ env a ∨ a = x := fun ⟨j, c, e1, e2⟩ => by
      rcases set_get e1 with ⟨h1, _, _⟩ | ⟨h1, h2⟩
      · subst h1; rw [σi] at e2; cases e2; exact .inr rfl
      · rw [σj j h1] at e2; exact .inl ⟨j, c, h2, e2⟩
    have mo : ∀ a o, ¬ exO (fun b => ex b ∨ b = x) σ env a → H a = some o → ¬ exO ex (σ.set i (some (.ref x))) (env.set i (slotOf (.o c0))) a ∧ H a = some o := fun a o n e => ⟨fun z => n (by
      rcases z with z | z
      · exact .inl (.inl z)
      · rcases ow z with z | z
        · exact .inr z
        · exact .inl (.inr z)), e⟩
    have mo2 : ∀ a o, ¬ (exO ex σ env a ∨ a = x) → H a = some o → ¬ exO ex (σ.set i (some (.ref x))) (env.set i (slotOf (.o c0))) a ∧ H a = some o := fun a o n e => ⟨fun z => n (by
      rcases z with z | z
      · exact .inl (.inl z)
      · exact (ow z).imp .inr id), e⟩
    refine ⟨s.fr, s.dm, subp, fun j c a hj e e2 => ?_, par, ln, ⟨by rw [List.length_set, List.length_set]; exact g.len, fun j d' e => ?_, fun j c e => ?_, fun j k a c c' e1 e2 e3 e4 => ?_, g.dom, g.tb⟩⟩
    · rcases set_get e with ⟨h1, _, _⟩ | ⟨h1, h2⟩
      · subst h1; rw [σi] at e2; cases e2; exact nx
      · rw [σj j h1] at e2
        exact s.sbl j c a hj h2 e2
    · rcases set_get e with ⟨_, h, _⟩ | ⟨h1, h2⟩
      · cases h
      · obtain ⟨u, e1, q⟩ := gx.val j d' h2
        exact ⟨u, by rw [σj j h1]; exact e1, q.mono mo⟩
    · rcases set_get e with ⟨h1, h, _⟩ | ⟨h1, h2⟩
      · cases h; subst h1; exact ⟨x, σi, fun z => nox (.inl z), ro.mono rfl mo2⟩
      · obtain ⟨a, e1, n, q⟩ := gx.own j c h2
        exact ⟨a, by rw [σj j h1]; exact e1, fun z => n (.inl z), q.mono rfl mo⟩
    · have nj : ∀ {j : Nat} {c : OC}, env[j]? = some (.own c) → σ[j]? ≠ some (some (V.ref x)) := fun {j c} h z => nox (.inr ⟨j, c, h, z⟩)
      rcases set_get e1 with ⟨h1, _, _⟩ | ⟨h1, h2⟩
      · subst h1
        rw [σi] at e3
        cases e3
        rcases set_get e2 with ⟨h3, _, _⟩ | ⟨h3, h4⟩
        · exact h3.symm
        · rw [σj k h3] at e4; exact absurd e4 (nj h4)
      · rw [σj j h1] at e3
        rcases set_get e2 with ⟨h3, _, _⟩ | ⟨h3, h4⟩
        · subst h3; rw [σi] at e4; cases e4; exact absurd e3 (nj h2)
        · rw [σj k h3] at e4
          exact g.inj j k a c c' h2 h4 e3 e4
end
section
variable {K : PySem.W.Frag} {T : Tab} {np : Nat → Bool} {ex : Addr → Prop} {env env' : Sl} {σ σ' : St} {H H' : Hp} {x : Addr}
theorem Step.less (s : Step K T (fun b => ex b ∨ b = x) σ H env H' env') : Step K T ex σ H env H' env' := ⟨s.fr, s.dm, s.sb, s.gd.less⟩
theorem SStep.less (s : SStep K T np (fun b => ex b ∨ b = x) σ H env σ' H' env') : SStep K T np ex σ H env σ' H' env' := ⟨s.fr, s.dm, s.sbp, s.sbl, s.par, s.ln, s.gd.less⟩
end
/-! ### x, y = a, b -/
def sPar (i j : Nat) (f g : M EV) : S := fun env => match f env with
  | some (.ok a e1) => match g e1 with
    | some (.ok b e2) => some (.nx ((e2.set j (slotOf b)).set i (slotOf a)))
    | some (.exc x e2) => some (.exc x e2)
    | none => none
  | some (.exc x e1) => some (.exc x e1)
  | none => none
section
variable {T : Tab} {X : Cx} {np : Nat → Bool} {x y : Str} {a b : Expr} {px py pt pos : Pos} {kt k2 : Nat} {pt2 : Pos} {f g : M EV}
theorem tr_par {K : PySem.W.Frag} {W : WX} {σ : St} {H : Hp} {D : Ends} {i j : Nat} (hi : np i = false) (hj : np j = false) (hij : i ≠ j) (h : trS K T np (sPar i j f g) W D σ H) :
    tr K T (relE K T) f W σ H fun v H1 => tr K T (relE K T) g W σ H1 fun w H2 => D.nx ((σ.set i (some v)).set j (some w)) H2 := by
  obtain ⟨ex, env, gd, r, er, o⟩ := h
  refine ⟨ex, env, gd, ?_⟩
  unfold sPar at er
  cases q : f env with
  | none => rw [q] at er; cases er
  | some ra =>
    rw [q] at er
    refine ⟨ra, rfl, ?_⟩
    cases ra with
    | exc x e1 => cases er; exact fun c d H' s rx => o c d σ H' s.s rx
    | ok av e1 =>
      intro v H1 s1 r1
      dsimp only at er
      cases q2 : g e1 with
      | none => rw [q2] at er; cases er
      | some rb =>
        rw [q2] at er
        cases av with
        | v d =>
          refine ⟨ex, e1, s1.gd, rb, q2, ?_⟩
          cases rb with
          | exc x e2 => cases er; exact fun c d H' s rx => o c d σ H' (s1.trans s).s rx
          | ok bv e2 =>
            cases er
            intro w H2 s2 r2
            have t2 := Good.storeS (np := np) hj (s2.s) (RepE.r s1.gd s2 r2)
            have t3 := Good.storeS (np := np) (ev := .v d) hi (s1.s.trans t2) (t2.rep (Rep.step r1 (Step.refl s1.gd)))
            rw [List.set_comm _ _ (Ne.symm hij)] at t3
            exact o _ _ t3
        | o c =>
          obtain ⟨a1, rfl, n1, ro, gx⟩ := r1
          refine ⟨_, e1, gx, rb, q2, ?_⟩
          cases rb with
          | exc x e2 =>
            cases er
            intro cc d H' s rx
            refine o cc d σ H' (s1.trans s.less).s ⟨rx.1, rx.2.imp id ?_⟩
            rintro ⟨z, ws, h1, h2, l, rr⟩
            exact ⟨z, ws, h1, h2, l, rr.mono fun b o n e => ⟨fun z => n (z.imp .inl id), e⟩⟩
          | ok bv e2 =>
            cases er
            intro w H2 s2 r2
            have t2 := Good.storeS (np := np) hj (s2.s) (RepE.r gx s2 r2)
            have ha1 : H1 a1 ≠ none := gx.dom a1 (.inr rfl)
            have na : ¬ Owns σ e1 a1 := fun z => (gx.owned z).2 (.inr rfl)
            have hk : H2 a1 = H1 a1 := by
              cases q3 : H1 a1 with
              | none => exact absurd q3 ha1
              | some oo => exact t2.fr a1 oo q3 na (ro.nt q3)
            have t3 := Good.storeS (np := np) (v := .ref a1) (ev := .o c) hi (s1.s.trans t2.less) ⟨a1, rfl, fun z => gd.dom a1 z n1, fun z => (t2.gd.owned z).2 (.inr rfl), .inr n1, ro.monoT hk fun b o n e => ⟨fun z => ?_, t2.fr b o e fun z => n (.inl (.inr z))⟩, t2.gd⟩
            · rw [List.set_comm _ _ (Ne.symm hij)] at t3
              exact o _ _ t3
            · rcases z with (z | z) | z
              · exact n (.inl (.inl z))
              · rcases t2.owns z with z | z
                · exact n (.inl (.inr z))
                · rw [z] at e; cases e
              · exact n (.inr z)
theorem qs_par (i j : Nat) (hc : X.calm = true) (hN : X.N.Nodup) (ha : QE T X a f) (hb : QE T X b g) (hij : i ≠ j := by decide) (hi : X.N[i]? = some x := by rfl) (hj : X.N[j]? = some y := by rfl) (hnp : np i = false := by rfl) (hnq : np j = false := by rfl)
    (hx : X.env.scope.names.lookup x = some .local := by rfl) (hy : X.env.scope.names.lookup y = some .local := by rfl)
    (hw : swappedStores [.Tuple [.Name x px, .Name y py] kt pt] (.Tuple [a, b] k2 pt2) X.env = pure (some [x, y]) := by rfl)
    (hs : swapsWithSole [.Tuple [.Name x px, .Name y py] kt pt] (.Tuple [a, b] k2 pt2) pos.line X.env = pure false := by rfl)
    (h1 : starEach [a, b] X.env = (false, eval a X.env) :: starEach [b] X.env := by rfl) (h2 : starEach [b] X.env = (false, eval b X.env) :: starEach [] X.env := by rfl) :
    QS T X np (.Assign [.Tuple [.Name x px, .Name y py] kt pt] (.Tuple [a, b] k2 pt2) pos) (sPar i j f g) := fun pn xe W tk hp =>
  impS (ps_par (X := X.tr pn xe) hc hN hi hj hij hx hy (pa_cons (ha pn xe W tk hp) (pa_cons (hb pn xe W tk hp) pa_nil h2) h1) hw hs) fun D σ H q => by
    obtain ⟨ex, env, z⟩ := tr_par hnp hnq hij q
    exact ⟨ex, env, z.mono fun v H1 ⟨ex2, env2, z2⟩ => ⟨ex2, env2, z2.mono fun w H2 k => ⟨v, w, rfl, k⟩⟩⟩
end
/-! ### x, y, z = a, b, c: values that nobody owns -/
def st3 (i j l : Nat) : Option (List D) → S
  | some [a, b, c] => fun env => some (.nx (((env.set i (.val a)).set j (.val b)).set l (.val c)))
  | _ => fun _ => none
section
variable {T : Tab} {X : Cx} {np : Nat → Bool} {x y z : Str} {a b c : Expr} {px py pz pt pos : Pos} {kt k2 : Nat} {pt2 : Pos} {fs : M (List AV)}
end

/-! ### list(range(..)), tuple(range(..)) -/
def rgD (lo hi : Int) : List D := (List.range (hi - lo).toNat).map fun (i : Nat) => D.int (lo + (i : Int))
def rg1 (lst : Bool) : List D → Option EV
  | [.int n] => if small62 n = true then some (if lst = true then .o (.lst (rgD 0 n)) else .v (.tup (rgD 0 n))) else none
  | _ => none
def rg2 (lst : Bool) : List D → Option EV
  | [.int m, .int n] => if small62 m = true ∧ small62 n = true then some (if lst = true then .o (.lst (rgD m n)) else .v (.tup (rgD m n))) else none
  | _ => none
section
variable {T : Tab} {X : Cx} {a b : Expr} {p p2 q pos : Pos} {fa fb : M AV} {fs : M (List AV)}
end
end Dt
end
section
set_option maxRecDepth 100000
set_option maxHeartbeats 4000000
/-! QY: dicts made of pairs, displayed; texts and lists repeated. -/
namespace Dt
open PySem PySem.Spec
open L2 hiding passL ps_try_many HdsOk takes0 XE Takes CX takes_of passes_call PMk MkP ps_raise mk_of ps_try_as pmk_own
open L2N hiding St
open PyProof.Rows hiding St

/-! ### dict(list of pairs) -/
def pairOf : D → Option (Key × D)
  | .tup [k, d] => (keyD k).map fun k => (k, d)
  | _ => none
def pairsD : List D → Option (List (Key × D))
  | [] => some []
  | d :: ds => (pairOf d).bind fun p => (pairsD ds).map (p :: ·)
def mergeD (ks : List Key) (vs : List D) : List (Key × D) → List Key × List D
  | [] => (ks, vs)
  | p :: ps => mergeD (dicPut ks vs p.1 p.2).1 (dicPut ks vs p.1 p.2).2 ps
def dictD : List D → Option EV
  | [.lst xs] => (pairsD xs).map fun ps => .o (.dic (mergeD [] [] ps).1 (mergeD [] [] ps).2)
  | _ => none
section
variable {K : PySem.W.Frag} {T : Tab} {ex : Addr → Prop} {H : Hp}
theorem dicPut_len : ∀ {ks : List Key} {vs : List D} {k : Key} {d : D}, ks.length = vs.length → (dicPut ks vs k d).1.length = (dicPut ks vs k d).2.length
  | [], [], _, _, _ => rfl
  | [], _ :: _, _, _, h => by simp at h
  | _ :: _, [], _, _, h => by simp at h
  | a :: ks, x :: vs, k, d, h => by
    have h' : ks.length = vs.length := by simpa using h
    by_cases e : a = k
    · simp [dicPut, e, h']
    · simp [dicPut, e, dicPut_len (k := k) (d := d) h']
theorem dicPut_mem : ∀ {ks : List Key} {vs : List D} {k j : Key} {d : D}, j ∈ (dicPut ks vs k d).1 → j ∈ ks ∨ j = k
  | [], _, k, j, d, h => by simp [dicPut] at h; exact .inr h
  | a :: ks, [], k, j, d, h => by simp [dicPut] at h; exact .inr h
  | a :: ks, x :: vs, k, j, d, h => by
    by_cases e : a = k
    · simp only [dicPut, if_pos e] at h; exact .inl h
    · simp only [dicPut, if_neg e, List.mem_cons] at h
      rcases h with h | h
      · exact .inl (by rw [h]; exact List.mem_cons_self ..)
      · exact (dicPut_mem h).imp (List.mem_cons_of_mem _) id
theorem dicPut_nodup : ∀ {ks : List Key} {vs : List D} {k : Key} {d : D}, ks.length = vs.length → ks.Nodup → (dicPut ks vs k d).1.Nodup
  | [], _, k, d, _, _ => by simp [dicPut]
  | a :: ks, [], k, d, h, _ => by simp at h
  | a :: ks, x :: vs, k, d, h, nd => by
    have nd' := List.nodup_cons.mp nd
    by_cases e : a = k
    · simp only [dicPut, if_pos e]; exact nd
    · simp only [dicPut, if_neg e]
      refine List.nodup_cons.mpr ⟨fun z => ?_, dicPut_nodup (by simpa using h) nd'.2⟩
      rcases dicPut_mem z with z | z
      · exact nd'.1 z
      · exact e z
/-- the kvs of the library for our pairs -/
theorem mergeD_ok : ∀ {ps : List (Key × D)} {us : List V} {ks : List Key} {vs : List D} {ws : List V}, RepL K T ex H (ps.map (·.2)) us → RepL K T ex H vs ws → ks.length = vs.length → ks.Nodup →
    ∃ ws', mergeK (ks.zip ws) ((ps.map (·.1)).zip us) = (mergeD ks vs ps).1.zip ws' ∧ (mergeD ks vs ps).1.length = ws'.length ∧ RepL K T ex H (mergeD ks vs ps).2 ws'
  | [], us, ks, vs, ws, r, rv, hl, nd => by
    cases (show us = [] from r)
    exact ⟨ws, rfl, by rw [← rv.length]; exact hl, rv⟩
  | p :: ps, _, ks, vs, ws, ⟨u, us, e, r1, r2⟩, rv, hl, nd => by
    subst e
    obtain ⟨w1, h1, h2, h3⟩ := dicPut_put (k := p.1) rv r1 hl nd
    obtain ⟨w2, h4, h5, h6⟩ := mergeD_ok (ps := ps) r2 h3 (dicPut_len hl) (dicPut_nodup hl nd)
    refine ⟨w2, ?_, h5, h6⟩
    show mergeK (putK (ks.zip ws) p.1 u) _ = _
    rw [h1]
    exact h4
theorem rep_newD {ks : List Key} {ds : List D} {vs : List V} {p : Addr} (hp : H p = none) (hl : ks.length = vs.length) (rl : RepL K T ex H ds vs) : RepO K T (fun b => ex b ∨ b = p) (upd H p (.dK (ks.zip vs))) p (.dic ks ds) :=
  ⟨vs, upd_same, hl, rl.mono fun b o n e => ⟨fun z => z.elim n fun z => ne_of_none e hp z, by rw [upd_ne (ne_of_none e hp)]; exact e⟩⟩
theorem keyD_v {k : D} {key : Key} {v : V} (e : keyD k = some key) (r : Rep K T ex H k v) : v = kV key := by
  cases k <;> first | (cases e; done) | (cases e; exact r)
theorem pairs_rep : ∀ {ds : List D} {ps : List (Key × D)} {vs : List V}, pairsD ds = some ps → RepL K T ex H ds vs → ∃ (as : List Addr) (us : List V), vs = as.map V.ref ∧ RepL K T ex H (ps.map (·.2)) us ∧ Paired (fun (p : Addr) (kv : Key × V) => SqT K H p [kV kv.1, kv.2]) as ((ps.map (·.1)).zip us)
  | [], ps, vs, e, r => by cases e; cases (show vs = [] from r); exact ⟨[], [], rfl, rfl, .nil⟩
  | d :: ds, _, _, e, ⟨v, w, e1, h1, h2⟩ => by
    subst e1
    unfold pairsD at e
    obtain ⟨p, e2, e⟩ := opt_bind e
    obtain ⟨ps, e3, rfl⟩ := Option.map_eq_some_iff.mp e
    obtain ⟨as, us, rfl, r3, pr⟩ := pairs_rep e3 h2
    unfold pairOf at e2
    split at e2
    · rename_i k x
      obtain ⟨key, e4, rfl⟩ := Option.map_eq_some_iff.mp e2
      obtain ⟨a, vs, rfl, _, ha, kv, r4, rfl, hk, xv, r5, rfl, hx, h5⟩ := h1
      cases (show r5 = [] from h5)
      cases keyD_v e4 hk
      exact ⟨a :: as, xv :: us, rfl, ⟨_, _, rfl, hx, r3⟩, .cons (.of ha) pr⟩
    · cases e2
end
theorem cr_dict {X : Cx} {T : Tab} (hc : X.calm = true) : CallR X (.type "dict") (rB X.K T dictD) := cr_of (call_dictP hc) fun xs H Q ⟨ex, ds, ev, dm, r, e, k⟩ => by
  unfold dictD at e
  split at e
  · obtain ⟨ps, e1, rfl⟩ := Option.map_eq_some_iff.mp e
    obtain ⟨v, rfl, a, vs, rfl, h1, h2⟩ := one_of r
    obtain ⟨as, us, rfl, r2, pr⟩ := pairs_rep e1 h2
    obtain ⟨ws, h3, h4, h5⟩ := mergeD_ok (ks := []) (vs := []) (ws := []) r2 rfl rfl List.nodup_nil
    refine ⟨a, as, _, rfl, .of h1, pr, fun p hp => ?_⟩
    rw [show mergeK [] ((ps.map (·.1)).zip us) = (mergeD [] [] ps).1.zip ws from h3]
    exact k _ _ (ext_new hp) ⟨p, rfl, hp, rep_newD hp h4 h5⟩
  · cases e

/-! ### {k: e} -/
section
variable {T : Tab} {X : Cx} {k e : Expr} {pos : Pos} {fk fv : M AV}
end

/-! ### repeats -/
def repS (s : List Nat) (n : Int) : List Nat := (List.replicate n.toNat s).flatten
def mulS : D → D → Option EV := fun x y => match x, y with
  | .str s, .int n => if (s.length ≤ 100 ∧ 1 ≤ s.length) ∧ -1000 ≤ n ∧ n ≤ 1000 then some (.v (.str (repS s n))) else none
  | _, _ => none
def mulL : D → D → Option EV := fun x y => match x, y with
  | .lst xs, .int n => if xs.length ≤ 1000 ∧ -1000 ≤ n ∧ n ≤ 1000 then some (.o (.lst (List.replicate n.toNat xs).flatten)) else none
  | _, _ => none
def mulT : D → D → Option EV := fun x y => match x, y with
  | .tup xs, .int n => if (1 ≤ xs.length ∧ xs.length ≤ 1000) ∧ 2 ≤ n ∧ n ≤ 1000 then some (.v (.tup (List.replicate n.toNat xs).flatten)) else none
  | _, _ => none
theorem mul_txt (s : List Nat) (n : Int) (h : 1 ≤ s.length) : Txt.mul (mkS s) n = mkS (repS s n) := by
  unfold Txt.mul repS
  by_cases h1 : n < 1
  · rw [if_pos h1]
    have : n.toNat = 0 := by omega
    rw [this]; rfl
  · rw [if_neg h1]
    by_cases h2 : n = 1
    · subst h2
      simp
    · have e : (n == 1 || (mkS s).length == 0) = false := by
        rw [Bool.or_eq_false_iff]
        exact ⟨beq_eq_false_iff_ne.mpr h2, beq_eq_false_iff_ne.mpr (by rw [mkS_len]; omega)⟩
      rw [if_neg (by rw [e]; exact Bool.false_ne_true)]
      have key : ∀ (k : Nat) (acc : Array Nat), (List.replicate k s.toArray).foldl (· ++ ·) acc = acc ++ ((List.replicate k s).flatten).toArray := fun k => by
        induction k with
        | zero => intro acc; simp
        | succ k ih =>
          intro acc
          rw [List.replicate_succ, List.foldl_cons, ih, List.replicate_succ, List.flatten_cons]
          simp
      show (⟨_⟩ : Str) = ⟨_⟩
      congr 1
      have := key n.toNat #[]
      simp only [Array.empty_append] at this
      exact this
section
variable {X : Cx} {T : Tab}
theorem op_mulS : OpR X (binaryOp .Mult) (rQ X.K T mulS) := by
  intro pins s σ H x y v u Q I rx ry ⟨ex, d1, d2, ev, dm, r1, r2, e, k⟩
  unfold mulS at e
  split at e
  · rename_i z n
    split at e
    · rename_i h
      cases e
      cases (show x = V.str (mkS z) from r1)
      cases (show y = V.int n from r2)
      obtain ⟨t, rfl⟩ := rx
      obtain ⟨t', rfl⟩ := ry
      have hl := mkS_len z
      refine SB.mul ⟨by rw [Bool.or_eq_false_iff]; exact ⟨decide_eq_false (by omega), decide_eq_false (by omega)⟩, fun h1 _ => ?_, fun h1 _ => ?_⟩ fun t' tk => ⟨.str (Txt.mul (mkS z) n), H, I.tok tk, ⟨_, rfl⟩, k _ H ext_refl ?_⟩
      · rw [hl]
        have : (100 : Int) ≤ (2 ^ 63 - 1) / n := by
          rw [Int.le_ediv_iff_mul_le (by omega)]
          omega
        omega
      · unfold Builtin.Str.tooLong
        rw [hl]
        have h2 : z.length * n.toNat ≤ 100 * 1000 := Nat.mul_le_mul h.1.1 (by omega)
        have := sizeLine_eq
        first
        | (simp only [decide_eq_false_iff_not]; omega)
        | (refine decide_eq_false ?_; omega)
      · show V.str _ = V.str _
        rw [mul_txt z n h.1.2]
    · cases e
  · cases e
theorem op_mulL : OpR X (binaryOp .Mult) (rQ X.K T mulL) := op_of op_rep fun x y H Q ⟨ex, d1, d2, ev, dm, r1, r2, e, k⟩ => by
  unfold mulL at e
  split at e
  · split at e
    · rename_i xs n h
      cases e
      obtain ⟨a, vs, rfl, h1, h2⟩ := r1
      have hz : vs.length * n.toNat ≤ 1000 * 1000 := Nat.mul_le_mul (by rw [← h2.length]; exact h.1) (by omega)
      refine ⟨a, n, vs, rfl, r2, h1, by omega, by omega, by rw [sizeLine_eq]; omega, fun p hp => k _ _ (ext_new hp) ⟨p, rfl, hp, rep_newL hp (h2.rep _)⟩⟩
    · cases e
  · cases e
theorem op_mulT : OpR X (binaryOp .Mult) (rQ X.K T mulT) := op_of op_repT fun x y H Q ⟨ex, d1, d2, ev, dm, r1, r2, e, k⟩ => by
  unfold mulT at e
  split at e
  · split at e
    · rename_i xs n h
      cases e
      obtain ⟨a, vs, rfl, _, h1, h2⟩ := r1
      have hl := h2.length
      refine ⟨a, n, vs, rfl, r2, .of h1, fun z => by rw [z, List.length_nil] at hl; omega, by omega, by omega, by omega, fun p hp => k _ _ (ext_new hp) ⟨p, _, rfl, fun z => dm p z hp, upd_same, (h2.rep _).mono fun b o nb e => ⟨nb, ext_new hp b o e⟩⟩⟩
    · cases e
  · cases e
theorem op_mulQ : OpR X (binaryOp .Mult) (rQ X.K T (orD mulI (orD mulS (orD mulL mulT)))) := op_or op_mulI (op_or op_mulS (op_or op_mulL op_mulT))
end
def mulD := orD mulI (orD mulS (orD mulL mulT))
end Dt
end
section
set_option maxRecDepth 100000
set_option maxHeartbeats 4000000
/-! QS: enumerate and zip over lists, tuples, texts. -/
namespace Dt
open PySem PySem.Spec
open L2 hiding passL ps_try_many HdsOk takes0 XE Takes CX takes_of passes_call PMk MkP ps_raise mk_of ps_try_as pmk_own
open L2N hiding St
open PyProof.Rows hiding St
/-- what is walked beneath: a list, a tuple, a text -/
inductive Sr where
  | l (a : Addr) (xs : List V) | t (a : Addr) (xs : List V) | s (z : Str)
def Sr.its : Sr → List V
  | .l _ xs => xs
  | .t _ xs => xs
  | .s z => z.cps.toList.map fun c => .str ⟨#[c]⟩
def Sr.ad : Sr → List Addr
  | .l a _ => [a]
  | .t a _ => [a]
  | .s _ => []
def Sr.at_ (K : PySem.W.Frag) (H : Hp) : Sr → Prop
  | .l a xs => SqL K H a xs
  | .t a xs => SqT K H a xs
  | .s _ => True
def Sr.of : Sr → V
  | .l a _ => .ref a
  | .t a _ => .ref a
  | .s z => .str z
/-- its iterator behind i turns -/
def Sr.stt (S : Sr) (tk : Tok) (it : Addr) (i : Nat) (h : Heap) : Prop := match S with
  | .l a _ => h.IsListIter it a i
  | .t a _ => h.IsTupleIter it a i
  | .s z => h.IsStrIter it (strIterType z) z tk i
theorem Sr.keep {S : Sr} {tk : Tok} {it : Addr} {i : Nat} {h h' : Heap} (st : S.stt tk it i h) (k : ∀ o, h.get? it = some o → h'.get? it = some o) : S.stt tk it i h' := by
  cases S with
  | l a xs => exact st.at fun o e => k o e
  | t a xs => exact st.at fun o e => k o e
  | s z => obtain ⟨o, e, r⟩ := st; exact ⟨o, k o e, r⟩
theorem vals_inv : ∀ {xs : List V} {us : List Value} {i : Nat} {u : Value}, Vals xs us → us[i]? = some u → ∃ x, xs[i]? = some x ∧ RelV x u
  | _, _, _, _, .nil, e => by simp at e
  | _, _, 0, _, .cons r _, e => by simp at e; subst e; exact ⟨_, rfl, r⟩
  | _, _, i + 1, x, .cons _ t, e => by
    simp at e
    obtain ⟨v, h1, h2⟩ := vals_inv t e
    exact ⟨v, by simpa using h1, h2⟩
theorem Sr.draws {S : Sr} {X : Cx} {pins : List (Addr × Obj)} {σ : St} {H : Hp} {s : Shared} {A : Around} {it : Addr} {tk : Tok} {i : Nat} (hh : A.handled = none) (I : Inv X pins σ H s) (ha : S.at_ X.K H) (st : S.stt tk it i s.heap) :
    ∃ (fp : List Addr) (Pv : Nat → Value → Prop) (Sn : Nat → Heap → Prop), Draws X.prog X.w A it fp S.its.length Pv Sn ∧ Sn i s.heap ∧ it ∈ fp ∧ (∀ b ∈ fp, b = it ∨ (b ∈ S.ad ∧ ∃ o, s.heap.get? b = some o ∧ (o.cls = .type "list" ∨ o.cls = .type "tuple"))) ∧
      (∀ j x, Pv j x → ∃ v, S.its[j]? = some v ∧ RelV v x) ∧ ∀ j h', Sn j h' → S.stt tk it j h' := by
  cases S with
  | l a xs =>
    obtain ⟨its, rv, p, _⟩ := I.list ha
    have hl := p.isList
    have hne : a ≠ it := fun e => by
      subst e
      obtain ⟨o, e1, c1, _⟩ := st
      obtain ⟨o2, e2, c2, _⟩ := hl
      rw [e1] at e2; cases e2
      rw [c1] at c2; exact absurd c2 (by decide)
    have hlen : its.toArray.size = xs.length := by simp [rv.length]
    refine ⟨[it, a], _, _, hlen ▸ Draws.list hh it a hne its.toArray, ⟨st, hl⟩, by simp, fun b hb => ?_, fun j x hx => ?_, fun j h' q => q.1⟩
    · rcases List.mem_cons.mp hb with e | e
      · exact .inl e
      · obtain ⟨o, e1, c1, _⟩ := hl
        exact .inr ⟨e, o, by rw [List.mem_singleton.mp e]; exact e1, .inl c1⟩
    · exact vals_inv rv (by simpa using hx)
  | t a xs =>
    obtain ⟨its, rv, hl, _⟩ := I.tuple ha
    have hne : a ≠ it := fun e => by
      subst e
      obtain ⟨o, e1, c1, _⟩ := st
      obtain ⟨o2, e2, c2, _⟩ := hl
      rw [e1] at e2; cases e2
      rw [c1] at c2; exact absurd c2 (by decide)
    have hlen : its.toArray.size = xs.length := by simp [rv.length]
    refine ⟨[it, a], _, _, hlen ▸ Draws.tuple hh it a hne its.toArray, ⟨st, hl⟩, by simp, fun b hb => ?_, fun j x hx => ?_, fun j h' q => q.1⟩
    · rcases List.mem_cons.mp hb with e | e
      · exact .inl e
      · obtain ⟨o, e1, c1, _⟩ := hl
        exact .inr ⟨e, o, by rw [List.mem_singleton.mp e]; exact e1, .inr c1⟩
    · exact vals_inv rv (by simpa using hx)
  | s z =>
    have hlen : z.cps.size = (Sr.s z).its.length := by simp [Sr.its]
    refine ⟨[it], _, _, hlen ▸ Draws.text hh it z tk, st, by simp, fun b hb => .inl (by simpa using hb), fun j x hx => ?_, fun j h' q => q⟩
    obtain ⟨c, u, h1, rfl⟩ := hx
    exact ⟨.str ⟨#[c]⟩, by simp [Sr.its, h1], ⟨u, rfl⟩⟩
end Dt
end
section
set_option maxRecDepth 100000
set_option maxHeartbeats 4000000
/-! QT: enumerate and zip as walks. -/
namespace Dt
open PySem PySem.Spec
open L2 hiding passL ps_try_many HdsOk takes0 XE Takes CX takes_of passes_call PMk MkP ps_raise mk_of ps_try_as pmk_own
open L2N hiding St
open PyProof.Rows hiding St
def Sr.lim : Sr → Prop
  | .l _ xs => xs.length ≤ sizeLine
  | .t _ xs => xs.length ≤ sizeLine
  | .s _ => True
section
variable {X : Cx} {e e2 : Expr} {ta : TA} {p pos tpos : Pos} {elts : List Expr} {kk : Nat}
end
/-! ### as data -/
def enumL : Nat → List D → List D
  | _, [] => []
  | i, d :: ds => .tup [.int (i : Nat), d] :: enumL (i + 1) ds
section
variable {K : PySem.W.Frag} {T : Tab} {exs : Addr → Prop} {H1 : Hp}
/-- what is walked stands for items -/
structure SrOK (K : PySem.W.Frag) (T : Tab) (exs : Addr → Prop) (H1 : Hp) (S : Sr) (ds : List D) : Prop where
  at_ : ∀ H, Keep exs H1 H → S.at_ K H
  rep : RepL K T exs H1 ds S.its
  len : S.lim → ds.length ≤ sizeLine
end
def iEnum1 (fs : M (List AV)) : M (List D) := M.bind fs fun as => match as with
  | [.v d] => lift ((itemsOf d).map (enumL 0))
  | _ => M.stuck
section
variable {T : Tab} {X : Cx} {a b : Expr} {fs : M (List AV)} {p pos tpos : Pos} {elts : List Expr} {kk : Nat}
end
end Dt
end
section
set_option maxRecDepth 100000
set_option maxHeartbeats 4000000
/-! QV: comprehensions of two clauses. -/
namespace Dt
open PySem PySem.Spec
open L2 hiding passL ps_try_many HdsOk takes0 XE Takes CX takes_of passes_call PMk MkP ps_raise mk_of ps_try_as pmk_own
open L2N hiding St
open PyProof.Rows hiding St
/-- a loop of a comprehension; B: what a turn makes of the slots and of the list so far -/
def compG (vs : List Nat) (t : D → Sl → Option Sl) (B : Sl → List D → Option (List D × Sl)) : List D → List D → Sl → Option (List D × Sl)
  | [], acc, env => some (acc, env)
  | d :: ds, acc, env => (t d env).bind fun e1 => (B e1 acc).bind fun p => compG vs t B ds p.1 (wipeE p.2 vs)
/-- test, then element -/
def bOne (c : M Bool) (f : M EV) : Sl → List D → Option (List D × Sl) := fun e1 acc => match c e1 with
  | some (.ok true e2) => match f e2 with
    | some (.ok ev e3) => (frz ev).map fun x => (acc ++ [x], e3)
    | _ => none
  | some (.ok false e2) => some (acc, e2)
  | _ => none
/-- test, then a loop of its own -/
def bTwo (vs1 : List Nat) (c : M Bool) (fi : M (List D)) (t1 : D → Sl → Option Sl) (B : Sl → List D → Option (List D × Sl)) : Sl → List D → Option (List D × Sl) := fun e1 acc => match c e1 with
  | some (.ok true e2) => match fi e2 with
    | some (.ok items e3) => compG vs1 t1 B items acc (wipeE e3 vs1)
    | _ => none
  | some (.ok false e2) => some (acc, e2)
  | _ => none
def eComp2 (vs vs1 : List Nat) (items : M (List D)) (t : D → Sl → Option Sl) (c : M Bool) (fi : M (List D)) (t1 : D → Sl → Option Sl) (c1 : M Bool) (f : M EV) : M EV := M.bind items fun ds => fun env => match compG vs t (bTwo vs1 c fi t1 (bOne c1 f)) ds [] (wipeE env vs) with
  | some (acc, e) => if acc.length ≤ 1000000 then some (.ok (.o (.lst acc)) e) else none
  | none => none
section
variable {K : PySem.W.Frag} {T : Tab}
/-- from one state of the comprehension to a later one: all but its list -/
structure CStep (K : PySem.W.Frag) (T : Tab) (ex : Addr → Prop) (Dd : Addr) (σ : St) (H : Hp) (env : Sl) (H' : Hp) (env' : Sl) : Prop where
  fr : ∀ b o, b ≠ Dd → H b = some o → ¬ Owns σ env b → NT o → H' b = some o
  dm : ∀ b, H b ≠ none → H' b ≠ none
  sb : ∀ (i : Nat) (c : OC), env'[i]? = some (.own c) → ∃ c', env[i]? = some (.own c')
  gd : Good K T (fun b => ex b ∨ b = Dd) σ H' env'
variable {ex : Addr → Prop} {Dd : Addr} {σ : St} {H H' H'' : Hp} {env env' env'' : Sl}
theorem CStep.owns (s : CStep K T ex Dd σ H env H' env') {a : Addr} : Owns σ env' a → Owns σ env a := fun ⟨j, c, f1, f2⟩ => let ⟨c', q⟩ := s.sb j c f1; ⟨j, c', q, f2⟩
theorem CStep.trans (s : CStep K T ex Dd σ H env H' env') (r : CStep K T ex Dd σ H' env' H'' env'') : CStep K T ex Dd σ H env H'' env'' :=
  ⟨fun b o n e w nt => r.fr b o n (s.fr b o n e w nt) (fun z => w (s.owns z)) nt, fun b e => r.dm b (s.dm b e), fun i c e => let ⟨c', q⟩ := r.sb i c e; s.sb i c' q, r.gd⟩
theorem CStep.of (s : Step K T (fun b => ex b ∨ b = Dd) σ H env H' env') : CStep K T ex Dd σ H env H' env' := ⟨fun b o _ e w => s.fr b o e w, s.dm, s.sb, s.gd⟩
end
section
variable {T : Tab} {X : Cx} {elt tg iter tg1 iter1 : Expr} {ifs ifs1 : List Expr} {scope : Scope} {own : List (Str × Nat)} {vs1 : List Nat} {pos : Pos} {fi fi1 : M (List D)} {t t1 : D → Sl → Option Sl} {c c1 : M Bool} {f : M EV}
end
end Dt
end
section
set_option maxRecDepth 100000
set_option maxHeartbeats 4000000
/-! QO: max(x, default=c); a module's whole number. -/
namespace Dt
open PySem PySem.Spec
open L2 hiding passL ps_try_many HdsOk takes0 XE Takes CX takes_of passes_call PMk MkP ps_raise mk_of ps_try_as pmk_own
open L2N hiding St
open PyProof.Rows hiding St
section
variable {T : Tab} {X : Cx} {a b : Expr} {fa fb : M AV} {p pos kpos : Pos}
end
end Dt
end
section
set_option maxRecDepth 100000
set_option maxHeartbeats 4000000
/-! QZ: the law's own head for promises with room for repr (our turn of the library's). -/
namespace Dt
variable {NG : Prop}
open PySem PySem.Spec
open L2 hiding passL ps_try_many HdsOk takes0 XE Takes CX takes_of passes_call PMk MkP ps_raise mk_of ps_try_as pmk_own
open L2N hiding St
open PyProof.Rows hiding St
theorem rg_caller {k : Nat} (h : Room k callerA) : RG NG k callerA := ⟨h, .inl rfl⟩
theorem law_callG {P : Program} {w : World} {K : PySem.W.Frag} {mg mb : Str → Option Value} {k : Nat} {fa a : Addr} {sp : Sp} {s₁ : Shared} {vs : List Value} {ns : List Int}
    (KX : K.In s₁.heap) (hns : s₁.heap.Ns mainGlobals mg) (hb : s₁.heap.Ns builtinsNs mb) (hbb : ∀ x : Str, x ≠ "__name__" → mb x = bootBuiltins x) (hlim : s₁.heap.NoLimit) (hg : s₁.gens = #[])
    (ha : s₁.heap.get? a = some { cls := .type "list", data := .seq vs.toArray }) (hi : IntsAre vs ns) (hl : ns.length ≤ sizeLine) (hr : RG NG k callerA)
    (F : ∀ base : Heap, K.In base → base.Ns mainGlobals mg → FnG NG P w K mg base k fa sp)
    (hsp : ∀ H : Hp, Only H → SqL K H a (ns.map V.int) → sp [.ref a] H (fun v _ => v = .bl true) fun _ _ _ => False) :
    codeAny (model P w) callerA (.call (.ref fa) ⟨[.ref a], []⟩) (fun r s' => r = .ok (.ret (.bool true)) ∧ OldK s₁.heap s'.heap ∧ s'.os = s₁.os ∧ AllBare s'.gens) s₁ := by
  have rv := vals_ints hi
  have lenV := hi.length
  -- from an abstract heap in which nothing but the script may be tracked
  have core : ∀ H : Hp, Only H → SqL K H a (ns.map V.int) → HOk P w H s₁.heap → (∀ b, H b ≠ none → b = a) → (H a ≠ none → K.lookup a = none) →
      codeAny (model P w) callerA (.call (.ref fa) ⟨[.ref a], []⟩) (fun r s' => r = .ok (.ret (.bool true)) ∧ OldK s₁.heap s'.heap ∧ s'.os = s₁.os ∧ AllBare s'.gens) s₁ := by
    intro H hO hS hok hA hK
    have base_of : ∀ {b : Addr} {o : Obj}, s₁.heap.get? b = some o → H b = none → (hidT s₁.heap H).get? b = some o := fun e n => hidT_get e n
    have noA : ∀ {b : Addr} {o : Obj} {es : Array DictEntry} {ep : Nat}, s₁.heap.get? b = some o → o.data = .dict es ep → H b = none := fun {b o es ep} e d => by
      cases q : H b with
      | none => rfl
      | some u =>
        have e' : b = a := hA b (by rw [q]; simp)
        subst e'
        rw [ha] at e; cases e
        have d' : Data.seq vs.toArray _ = Data.dict es ep := d
        cases d'
    have nsK : ∀ {b : Addr} {m : Str → Option Value}, s₁.heap.Ns b m → (hidT s₁.heap H).Ns b m := fun {b m} ⟨o, es, ep, e, d, r⟩ => ⟨o, es, ep, base_of e (noA e d), d, r⟩
    have hKb : K.In (hidT s₁.heap H) := fun b o e => base_of (KX b o e) (by
      cases q : H b with
      | none => rfl
      | some u =>
        have e' : b = a := hA b (by rw [q]; simp)
        subst e'
        rw [hK (by rw [q]; simp)] at e; cases e)
    have hM : Mod K mg (hidT s₁.heap H) := ⟨hKb, nsK hns, ⟨mb, nsK hb, hbb⟩, let ⟨mc, h1, h2⟩ := hlim; ⟨mc, nsK h1, h2⟩⟩
    have e0 : Env0 P w K mg (hidT s₁.heap H) callerA [] s₁ H := ⟨rfl, hM, fun b o e => of_hidT e, Nat.le_of_eq (hidT_size _ _), trivial, fun b hb => absurd (show b ∈ ([] : List Addr) from hb) (by simp), hok, .of_eq hg⟩
    refine codeAny_mono (F _ hKb (nsK hns) callerA [] s₁ H [.ref a] [.ref a] _ _ hr e0 (.cons rfl .nil) (hsp H hO hS)) fun r s' h => ?_
    cases r with
    | error e =>
      obtain ⟨_, _, _, _, _, _, _, _, _, _, _, _, z⟩ := h
      exact z.elim
    | ok fl =>
      cases fl with
      | next => exact False.elim h
      | brk => exact False.elim h
      | cont => exact False.elim h
      | ret u =>
        obtain ⟨v, H', os, bare, un, hok', r', q⟩ := h
        have q' : v = .bl true := q
        subst q'
        obtain rfl : u = Value.bool true := r'
        refine ⟨rfl, OldK.of_keep fun b o e => ?_, os, bare⟩
        cases q : H b with
        | none => exact un.keep b o e q (by intro z; exact absurd (show b ∈ ([] : List Addr) from z) (by simp)) (by simp)
        | some u =>
          rcases hO b with z | ⟨ob, xs, z⟩
          · rw [q] at z; cases z
          · have z2 := un.frzs b ob _ z
            obtain ⟨e1, _⟩ := hok b _ z
            obtain ⟨e2, _⟩ := hok' b _ z2
            rw [e] at e1; cases e1
            exact e2
  cases hk : K.lookup a with
  | some o =>
    -- the script is one of the module's own objects
    have e := KX a o hk
    rw [ha] at e
    cases e
    refine core (fun _ => none) (fun _ => .inl rfl) (.inr ⟨_, vs.toArray, _, hk, rfl, rfl, rfl, by rw [List.size_toArray, lenV]; exact hl, by simpa using rv⟩) (fun b u z => by have z' : (none : Option HO) = some u := z; cases z') (fun b z => absurd rfl z) fun z => absurd rfl z
  | none =>
    refine core (fun b => if b = a then some (.frz { cls := .type "list", data := .seq vs.toArray } (.lst (ns.map V.int))) else none) (fun b => ?_) (.inl (.inr ⟨{ cls := .type "list", data := .seq vs.toArray }, if_pos rfl⟩)) (fun b u z => ?_) (fun b z => ?_) fun _ => hk
    · by_cases hb : b = a
      · exact .inr ⟨_, _, if_pos hb⟩
      · exact .inl (if_neg hb)
    · by_cases hb : b = a
      · have z' := (if_pos hb).symm.trans z
        cases z'
        subst hb
        exact ⟨ha, by rw [List.length_map]; exact hl, vs, _, rv, ha⟩
      · have z' := (if_neg hb).symm.trans z
        cases z'
    · by_cases hb : b = a
      · exact hb
      · exact absurd (if_neg hb) z

/-- the law's promise, from its mirror -/
theorem law_sp {K : PySem.W.Frag} {T : Tab} {g : M EV} {H : Hp} {a : Addr} {ns : List Int} (hg : ∃ e, g [.val (.scr ns)] = some (.ok (.v (.bl true)) e)) (hO : Only H) (hS : SqL K H a (ns.map V.int)) (hT : LamX.Tabs T.tb H) : spD K T g [.ref a] H (fun v _ => v = .bl true) fun _ _ _ => False := by
  obtain ⟨e, hg⟩ := hg
  refine ⟨fun _ => False, [.val (.scr ns)], ⟨rfl, fun i d e => ?_, fun i c e => ?_, fun i j a c c' e1 e2 e3 e4 => ?_, fun a h => h.elim, hT⟩, _, hg, fun v H' s rv => rv⟩
  · match i, e with
    | 0, e =>
      cases e
      refine ⟨.ref a, rfl, a, rfl, ?_⟩
      rcases hS with (h | ⟨o, h⟩) | h
      · rcases hO a with z | ⟨o, xs, z⟩ <;> (rw [z] at h; cases h)
      · refine .inl ⟨fun z => ?_, o, h⟩
        rcases z with z | ⟨i, c, e1, e2⟩
        · exact z
        · match i, e1 with
          | 0, e1 => cases e1
          | i + 1, e1 => simp at e1
      · exact .inr h
    | i + 1, e => simp at e
  · match i, e with
    | 0, e => cases e
    | i + 1, e => simp at e
  · match i, e1 with
    | 0, e1 => cases e1
    | i + 1, e1 => simp at e1
theorem walkG {l : PySem.W.OpenLaw} {n k : Nat} {q : Program} {loose : List Str} {XP : (Str → Option Value) → Heap → Prop} {YP : World → Heap → Prop} {d : DefRec} {K : Params → PySem.W.Frag}
    (hn : l.most = some n) (hn2 : n ≤ sizeLine) (hdf : d.params.defaults = []) (hr : Room k callerA) (hY : ∀ (w : World) (h : Heap), YP w h → (K w.params).In h)
    (F : ∀ (w : World) (mg : Str → Option Value) (fa : Addr) (h : Heap), (K w.params).In h → h.Ns mainGlobals mg → mg d.name = some (.ref fa) →
      ∃ (T : Tab) (g : M EV), T.tb = [] ∧ (∀ ns : List Int, ns.length ≤ n → ∃ e, g [.val (.scr ns)] = some (.ok (.v (.bl true)) e)) ∧ ∀ base : Heap, (K w.params).In base → base.Ns mainGlobals mg → FnG NG l.prog w (K w.params) mg base k fa (spD (K w.params) T g)) :
    PySem.W.WalkO q loose XP YP l.row.toRowW d [] (fun f vs => PySem.call f vs) := by
  refine Att.attach_call hn hdf fun w s₀ s₁ mg mb fa o pm cd doc a vs ns G Y ho hd hcd hmg hobj hints hlen hg => ?_
  have KX := hY w _ Y
  obtain ⟨T, g, htb, hgt, hF⟩ := F w mg fa _ KX G.T.g hmg
  exact law_callG KX G.T.g G.T.b G.T.builtins G.T.nolimit hg hobj hints (Nat.le_trans hlen hn2) (rg_caller hr) hF fun H hO hS => law_sp (hgt ns hlen) hO hS (fun p hp => by rw [htb] at hp; cases hp)
end Dt
end
section
set_option maxRecDepth 100000
set_option maxHeartbeats 4000000
/-! QW: targets assigned, -i, tables of one class. -/
namespace Dt
variable {NG : Prop}
open PySem PySem.Spec
open L2 hiding passL ps_try_many HdsOk takes0 XE Takes CX takes_of passes_call PMk MkP ps_raise mk_of ps_try_as pmk_own
open L2N hiding St
open PyProof.Rows hiding St

section
variable {T : Tab} {X : Cx} {np : Nat → Bool} {pos : Pos} {tg e : Expr} {f : M EV} {t : D → Sl → Option Sl}
end
/-! ### -i -/
def negD : D → Option EV
  | .int i => some (.v (.int (-i)))
  | _ => none
def eNeg (fa : M AV) : M EV := M.bind fa fun a => fun env => (deref env a).bind fun d => lift (negD d) env
theorem qe_neg {T : Tab} {X : Cx} {a : Expr} {fa : M AV} {pos : Pos} (h : QO T X a fa) : QE T X (.UnaryOp .USub a pos) (eNeg fa) := fun pn xe W tk hp =>
  impE (pe_un (X := X.tr pn xe) un_neg (h pn xe W tk hp)) fun σ H Q ⟨ex, env, q⟩ => ⟨ex, env, (trx_bind (relA X.K T) rmE q).mono fun v H1 ⟨a, env1, s, ra, g, r, er, o⟩ => by
    obtain ⟨d, e1, er⟩ := opt_bind er
    cases d with
    | int i =>
      cases er
      exact ⟨i, deref_ok g ra e1, o _ H1 (Step.refl g) rfl⟩
    | _ => cases er⟩

/-! ### tables of one class -/
def one {α : Type} (t0 : Nat) (g : α) : Nat → Option α := fun t => if t = t0 then some g else none
theorem one_inv {α : Type} {t0 t : Nat} {g g' : α} (h : one t0 g t = some g') : t = t0 ∧ g' = g := by
  unfold one at h
  split at h
  · cases h; exact ⟨by assumption, rfl⟩
  · cases h
section
variable {T : Tab} {X : Cx} {m : Str} {t0 k : Nat} {f p : Addr} {g : M EV}
theorem meth_one (h0 : m ∉ FL t0) (hc : Cls X.K (T.cls t0)) (hm : Meth X.K (T.cls t0) m f) (hr : RG NG k X.A) (F : FnQ NG T X k f g) : MethOK NG T X m (one t0 g) :=
  ⟨fun t g' e => by obtain ⟨rfl, rfl⟩ := one_inv e; exact ⟨h0, hc, f, k, hm, hr, F⟩⟩
theorem prop_one (hc : Cls X.K (T.cls t0)) (hp : PropOf X.K (T.cls t0) m p f) (hr : RG NG (k + 1) X.A) (F : FnQ NG T X k f g) : PropsOK NG T X m (one t0 g) :=
  ⟨fun t g' e => by obtain ⟨rfl, rfl⟩ := one_inv e; exact ⟨hc, p, f, k, hp, hr, F⟩⟩
theorem fld_one {K : PySem.W.Frag} {f : Str} {j0 : Nat} (h1 : (FL t0)[j0]? = some f) (hc : Cls K (T.cls t0)) (hn : NoAttr K (T.cls t0) f) : ∀ t j, one t0 j0 t = some j → (FL t)[j]? = some f ∧ Cls K (T.cls t) ∧ NoAttr K (T.cls t) f :=
  fun t j e => by obtain ⟨rfl, rfl⟩ := one_inv e; exact ⟨h1, hc, hn⟩
end
/-! ### built-in classes -/
def isInt : IsT := ⟨fun n => n == 2 || n == 1, fun _ => none⟩
def isBool : IsT := ⟨fun n => n == 1, fun _ => none⟩
def isStr : IsT := ⟨fun n => n == 3, fun _ => none⟩
def isTup : IsT := ⟨fun n => n == 4, fun _ => none⟩
def isLst : IsT := ⟨fun n => n == 5, fun _ => none⟩
def isDic : IsT := ⟨fun n => n == 6, fun _ => none⟩
theorem isok_of {K : PySem.W.Frag} {T : Tab} {I : IsT} {s : String} (h : ∀ n, n < 7 → kitB (kindT n) s = some (I.k n)) (ho : ∀ t, I.o t = none) : IsOK K T I (.type s) := ⟨fun n hn => kit_ty (h n hn), fun t b e => by rw [ho] at e; cases e⟩
theorem isok_str {K : PySem.W.Frag} {T : Tab} : IsOK K T isStr (.type "str") := isok_of (by decide +kernel) fun _ => rfl
/-- a def of the text, with its function object left open -/
structure Fx (K : PySem.W.Frag) (x qual : Str) (st : Stmt) (f : Addr) : Prop where
  kp : PySem.W.keepIn K (.ref f) = true
  ex : ∃ fd, Fun K x qual st f fd
theorem fx_of {K : PySem.W.Frag} {x qual : Str} {st : Stmt} {f : Addr} (h : ∃ (oc : Value) (od an : Option Addr) (sl : Array (Option Value)) (kV dc pm cd ct : Value), K.lookup f = some ⟨oc, od, .func (PySem.W.fnOf x qual (defArgs st) (defBody st) (defScope st) .none kV dc pm an cd ct), sl⟩ ∧ PySem.W.codeIn K cd qual = true)
    (k : PySem.W.keepIn K (.ref f) = true) : ∃ fd, Fun K x qual st f fd := by
  obtain ⟨oc, od, an, sl, kV, dc, pm, cd, ct, l, c⟩ := h
  exact ⟨_, fun_mk l c k⟩
/-- an error of the class at C is one of the class at S -/
theorem exm_of {K : PySem.W.Frag} {C S : Addr} (h1 : PySem.W.subIn K (.ref S) (.type "BaseException") = some true) (h2 : PySem.W.isClsIn K S = true) (h3 : PySem.W.typeIn K (.ref S) = some (.type "type")) (h4 : PySem.W.subIn K (.ref C) (.ref S) = some true) :
    PySem.W.exmOne K (.ref C) (.ref S) = some true := by
  have e1 : (PySem.W.subIn K (.ref S) (.type "BaseException") == some true) = true := by rw [h1] <;> rfl
  have e2 : ((PySem.W.clsIn K S).isSome && PySem.W.typeIn K (.ref S) == some (.type "type")) = true := by
    have h2' : (PySem.W.clsIn K S).isSome = true := h2
    rw [h2', h3] <;> rfl
  show (if (PySem.W.subIn K (.ref S) (.type "BaseException") == some true) = true then (if ((PySem.W.clsIn K S).isSome && PySem.W.typeIn K (.ref S) == some (.type "type")) = true then PySem.W.subIn K (.ref C) (.ref S) else none) else none) = some true
  rw [if_pos e1, if_pos e2]
  exact h4
/-- the room of a body -/
theorem RG.u64 {k : Nat} {A : Around} (h : RG NG k A) : A.units + 64 < cLine := by have := h.r.un; omega
end Dt
end
section
set_option maxRecDepth 100000
set_option maxHeartbeats 4000000
/-! R1: several names from as many values, each kept as it is (owned, too). -/
namespace Dt
open PySem PySem.Spec
open L2 hiding passL ps_try_many HdsOk takes0 XE Takes CX takes_of passes_call PMk MkP ps_raise mk_of ps_try_as pmk_own
open L2N hiding St
open PyProof.Rows hiding St
def sPar1 (i : Nat) (f : M EV) (g : S) : S := fun env => match f env with
  | some (.ok a e1) => match g e1 with
    | some (.nx e2) => some (.nx (e2.set i (slotOf a)))
    | some (.exc x e2) => some (.exc x e2)
    | _ => none
  | some (.exc x e1) => some (.exc x e1)
  | none => none
def parL : List (Nat × M EV) → S
  | [] => sNil
  | p :: r => sPar1 p.1 p.2 (parL r)
section
variable {K : PySem.W.Frag} {T : Tab} {np : Nat → Bool} {W : WX}
end
section
variable {T : Tab} {X : Cx} {np : Nat → Bool}
end
end Dt
end
section
set_option maxRecDepth 100000
set_option maxHeartbeats 4000000
/-! R2: a key in a dict; a name's augmented assignment. -/
namespace Dt
variable {NG : Prop}
open PySem PySem.Spec
open L2 hiding passL ps_try_many HdsOk takes0 XE Takes CX takes_of passes_call PMk MkP ps_raise mk_of ps_try_as pmk_own
open L2N hiding St
open PyProof.Rows hiding St
def dinD (n : Bool) : D → D → Option EV := fun x y => match y with
  | .dic ks vs => (keyD x).map fun k => vB (n ^^ ks.any fun a => decide (a = k))
  | _ => none
theorem valV_zip {k : Key} : ∀ {ks : List Key} {vs : List V}, ks.length = vs.length → (valV (ks.zip vs) k).isSome = ks.any fun a => decide (a = k)
  | [], [], _ => by simp [valV]
  | a :: ks, v :: vs, h => by
    have ih := valV_zip (k := k) (ks := ks) (vs := vs) (by simpa using h)
    unfold valV at ih ⊢
    rw [List.zip_cons_cons, List.find?_cons]
    by_cases e : a = k
    · simp [e]
    · simp only [e, decide_false, List.any_cons, Bool.false_or]
      exact ih
  | [], _ :: _, h => by simp at h
  | _ :: _, [], h => by simp at h
theorem key_v {K : PySem.W.Frag} {T : Tab} {ex : Addr → Prop} {H : Hp} {d : D} {v : V} {k : Key} (e : keyD d = some k) (r : Rd1 K T ex H d v) : v = kV k := by
  cases d with
  | int i => cases e; exact r
  | str s => cases e; exact r
  | _ => cases e
section
variable {T : Tab} {X : Cx}
theorem din_get {K : PySem.W.Frag} {n : Bool} {x y : V} {H : Hp} {Q : VK} (h : rQ K T (dinD n) x y H Q) : ∃ a k o, y = .ref a ∧ x = kV k ∧ DGet H a x o ∧ Q (.bl (n ^^ o.isSome)) H := by
  obtain ⟨ex, d1, d2, ev, dm, r1, r2, e, k⟩ := h
  unfold dinD at e
  split at e
  · obtain ⟨key, e1, rfl⟩ := Option.map_eq_some_iff.mp e
    obtain ⟨a, vs, rfl, h1, h2, h3⟩ := r2
    have := key_v e1 r1
    subst this
    refine ⟨a, key, _, rfl, rfl, DGet.k h1, k _ H ext_refl ?_⟩
    show V.bl _ = V.bl _
    rw [valV_zip h2]
  · cases e
theorem op_din (hu : X.A.units + 1 < cLine) : OpR X (compareOp .In) (rQ X.K T (dinD false)) := fun pins s σ H x y v u Q I rx ry h => by
  obtain ⟨a, k, o, rfl, rfl, g, q⟩ := din_get h
  obtain rfl : u = Value.ref a := ry
  exact d_in hu I g rx fun s3 I3 => ⟨.bl o.isSome, H, I3, rfl, by simpa using q⟩
end
def inX := orD inD (orD (inP false) (dinD false))
def ninX := orD ninD (orD (inP true) (dinD true))
section
variable {T : Tab} {X : Cx}
theorem op_dnin (hu : X.A.units + 1 < cLine) : OpR X (compareOp .NotIn) (rQ X.K T (dinD true)) := fun pins s σ H x y v u Q I rx ry h => by
  obtain ⟨a, k, o, rfl, rfl, g, q⟩ := din_get h
  obtain rfl : u = Value.ref a := ry
  exact d_notIn hu I g rx fun s3 I3 => ⟨.bl (!o.isSome), H, I3, rfl, by simpa using q⟩
/-- nested data in a list -/
theorem inP_ok {n : Bool} {x y : V} {H : Hp} {Q : VK} (h : rQ X.K T (inP n) x y H Q) : ∃ d ds, Dp X.K H x d ∧ Dp X.K H y (.list ds) ∧ SeqAt.shaped d = true ∧ SeqAt.shaped (.list ds) = true ∧ Q (.bl (n ^^ ds.any fun z => PyData.eqv z d)) H := by
  obtain ⟨ex, d1, d2, ev, dm, r1, r2, e, k⟩ := h
  unfold inP at e
  split at e
  · split at e
    · split at e
      · rename_i hs
        cases e
        rename_i p qs e1 e2
        exact ⟨p, qs, r1.dp e1, Rd1.dp (d := .lst _) r2 (by simp [toP, e2]), hs.1, hs.2, k _ H ext_refl rfl⟩
      · cases e
    · cases e
  · cases e
theorem op_inP (hu : X.A.units + 65 < cLine) : OpR X (compareOp .In) (rQ X.K T (inP false)) := op_of (op_inD hu) fun x y H Q h => by
  obtain ⟨d, ds, h1, h2, h3, h4, q⟩ := inP_ok h
  exact ⟨d, ds, h1, h2, h3, h4, by simpa using q⟩
theorem op_ninP (hu : X.A.units + 65 < cLine) : OpR X (compareOp .NotIn) (rQ X.K T (inP true)) := op_of (op_notInD hu) fun x y H Q h => by
  obtain ⟨d, ds, h1, h2, h3, h4, q⟩ := inP_ok h
  exact ⟨d, ds, h1, h2, h3, h4, by simpa using q⟩
theorem op_inX (hu : X.A.units + 65 < cLine) : OpR X (compareOp .In) (rQ X.K T inX) := op_or op_inQ (op_or (op_inP hu) (op_din (by omega)))
theorem op_ninX (hu : X.A.units + 65 < cLine) : OpR X (compareOp .NotIn) (rQ X.K T ninX) := op_or op_notInQ (op_or (op_ninP hu) (op_dnin (by omega)))
end
theorem RG.u65 {k : Nat} {A : Around} (h : RG NG k A) : A.units + 65 < cLine := by have := h.r.un; omega
end Dt
end
section
set_option maxRecDepth 100000
set_option maxHeartbeats 4000000
/-! R3: a staticmethod called by its class; isinstance against the package's own class; a name's augmented assignment. -/
namespace Dt
variable {NG : Prop}
open PySem PySem.Spec
open L2 hiding passL ps_try_many HdsOk takes0 XE Takes CX takes_of passes_call PMk MkP ps_raise mk_of ps_try_as pmk_own
open L2N hiding St
open PyProof.Rows hiding St
/-- C.m is a staticmethod: its record at p, its def at g -/
structure SMet (K : PySem.W.Frag) (C : Addr) (mc : Value) (m : Str) (p g : Addr) : Prop where
  at_ : PySem.W.findCls K (.ref C) mc m = some (.get (.builtin "staticmethod.__get__") (.ref p) .none (.ref C))
  rc : ∃ rest, PySem.W.recIn K p "staticmethod" = some (.ref g :: rest)
  kp : PySem.W.keepIn K (.ref g) = true
section
variable {X : Cx} {k : Nat} {C p g0 : Addr} {mc : Value} {sp : Sp} {o e : Expr} {es : List Expr} {m : Str} {pos apos : Pos} {ta : TE} {t : TA} {pl : Sem Bool} {W : WX}
end
section
variable {T : Tab} {X : Cx} {k : Nat} {C pr g0 : Addr} {mc : Value} {g : M EV} {x m : Str} {p apos pos : Pos} {e : Expr} {es : List Expr} {fs : M (List AV)} {pl : Sem Bool}
end
/-! ### isinstance(x, Board) -/
def isObj (ok : Nat → Option Bool) : IsT := ⟨fun _ => false, ok⟩
theorem isok_obj {K : PySem.W.Frag} {T : Tab} {ok : Nat → Option Bool} {C : Addr} (hk : ∀ n, n < 7 → PySem.W.kitOne K (.type (kindT n)) (.ref C) = some false)
    (ho : ∀ t b, ok t = some b → PySem.W.kitOne K (.ref (T.cls t)) (.ref C) = some b ∧ Cls K (T.cls t) ∧ PySem.W.findIn K (.ref (T.cls t)) "__class__" = some (some (.builtin "object.__class__")) ∧
      PySem.W.specialIn K (.builtin "object.__class__") "__get__" = some (some (.builtin "getset_descriptor.__get__")) ∧ PySem.W.takesIn K (.builtin "object.__class__") = some true ∧ PySem.W.mroIn K (T.cls t) (.type "object") = some true) : IsOK K T (isObj ok) (.ref C) := ⟨hk, ho⟩
theorem kit7 {K : PySem.W.Frag} {C : Addr} (h0 : PySem.W.kitOne K (.type "NoneType") (.ref C) = some false) (h1 : PySem.W.kitOne K (.type "bool") (.ref C) = some false) (h2 : PySem.W.kitOne K (.type "int") (.ref C) = some false) (h3 : PySem.W.kitOne K (.type "str") (.ref C) = some false) (h4 : PySem.W.kitOne K (.type "tuple") (.ref C) = some false) (h5 : PySem.W.kitOne K (.type "list") (.ref C) = some false) (h6 : PySem.W.kitOne K (.type "dict") (.ref C) = some false) : ∀ n, n < 7 → PySem.W.kitOne K (.type (kindT n)) (.ref C) = some false := fun n hn => by
  match n, hn with
  | 0, _ => exact h0
  | 1, _ => exact h1
  | 2, _ => exact h2
  | 3, _ => exact h3
  | 4, _ => exact h4
  | 5, _ => exact h5
  | 6, _ => exact h6
def is_Board : IsT := isObj (one 0 true)
theorem one_inv2 {α : Type} {t0 t : Nat} {g b : α} (h : one t0 g t = some b) : t = t0 ∧ b = g := by
  unfold one at h
  split at h
  · cases h; exact ⟨by assumption, rfl⟩
  · cases h
end Dt
end
section
set_option maxRecDepth 100000
set_option maxHeartbeats 4000000
/-! R4: tuple * 1, list.count of texts, texts by <= and >=. -/
namespace Dt
open PySem PySem.Spec
open L2 hiding passL ps_try_many HdsOk takes0 XE Takes CX takes_of passes_call PMk MkP ps_raise mk_of ps_try_as pmk_own
open L2N hiding St
open PyProof.Rows hiding St
/-! ### texts compared -/
def leS : D → D → Option EV := fun x y => match x, y with
  | .str a, .str b => some (vB (!decide (b < a)))
  | _, _ => none
def geS : D → D → Option EV := fun x y => match x, y with
  | .str a, .str b => some (vB (!decide (a < b)))
  | _, _ => none
def leD := orD leI leS
def geD := orD geI geS
section
variable {T : Tab} {X : Cx}
theorem op_leS : OpR X (compareOp .LtE) (rQ X.K T leS) := op_of op_le_str fun x y H Q ⟨ex, d1, d2, ev, dm, r1, r2, e, k⟩ => by
  unfold leS at e
  split at e
  · rename_i a b
    cases e
    cases (show x = V.str (mkS a) from r1)
    cases (show y = V.str (mkS b) from r2)
    refine ⟨_, _, rfl, rfl, k _ H ext_refl ?_⟩
    show V.bl _ = V.bl _
    rw [mkS_cps, mkS_cps]
  · cases e
theorem op_leQ : OpR X (compareOp .LtE) (rQ X.K T leD) := op_or op_leI op_leS
end
/-! ### tuple * 1 -/
theorem tuple_mulW1 (l : Addr) (items : Array Value) (n : Nat) (dd : Option Addr) (sl : Array (Option Value)) (u : Tok) (c1 : (items.isEmpty || (1 : Int) == 1) = true) :
    Meets (Builtin.«tuple.__mul__» ⟨[.ref l, .int 1 u], []⟩) (fun _ R s => s.heap.get? l = some { cls := .type "tuple", dict := dd, data := .seq items n, slots := sl } ∧
      R (.ok (.ret (Value.ref l))) { s with heap := s.heap, toks := s.toks }) :=
  .of_wp fun prog w A R s h => by
    obtain ⟨hp, g, d, tk, os⟩ := s
    obtain ⟨hl, h⟩ := h
    have f1 := AutoSeq1.idx_int
    wp_walk using wpAny_loadPart' hl
    repeat (first
      | (refine wpAny_ite_false (decide_eq_false (by decide)) ?_; wp_walk using wpAny_loadPart' hl)
      | (refine wpAny_ite_true (by rw [c1]; rfl) ?_; wp_walk using wpAny_loadPart' hl))
    exact ⟨_, rfl, h⟩
def rRepT1 (K : PySem.W.Frag) : R2 := fun x y H Q => ∃ l xs, x = .ref l ∧ y = .int 1 ∧ SqT K H l xs ∧ Q (.ref l) H
theorem op_repT1 {X : Cx} : OpR X (binaryOp .Mult) (rRepT1 X.K) := by
  intro pins s σ H x y v u Q I rx ry h
  obtain ⟨l, xs, rfl, rfl, hT, q⟩ := h
  cases rx
  obtain ⟨t, rfl⟩ := ry
  obtain ⟨its, r, ⟨⟨cls, dd, data, sl⟩, ho, hc, n, hd⟩, hs⟩ := I.tuple hT
  simp only at hc hd
  subst hc hd
  refine wpAny_binaryOp_repeat_ref (T := "tuple") (U := "int") (by decide) ⟨_, ho, rfl⟩ (fun s' => typeIs_int s' 1 t) noFill_tuple_mul F.fills_int_mul F.slot_int_rmul repeat_tuple F.slot_int_index.lookup
    (call_meets F.slot_int_rmul (typeIs_int s 1 t) F.entry_int_rmul (F.args_int_rmul_2 _ _) (int_rmul_tuple 1 t l its.toArray n dd sl)
      ⟨ho, rfl, ⟨_, ho, rfl⟩, call_meets F.slot_tuple_mul ⟨_, ho, rfl⟩ F.entry_tuple_mul (F.args_tuple_mul_2 _ _) (tuple_mulW1 l its.toArray n dd sl t (by simp)) ⟨ho, ?_⟩⟩)
  exact ⟨.ref l, H, I, rfl, q⟩
def mulT1 : D → D → Option EV := fun x y => match x, y with
  | .tup xs, .int n => if n = 1 then some (.v (.tup xs)) else none
  | _, _ => none
section
variable {T : Tab} {X : Cx}
theorem op_mulT1 : OpR X (binaryOp .Mult) (rQ X.K T mulT1) := op_of op_repT1 fun x y H Q ⟨ex, d1, d2, ev, dm, r1, r2, e, k⟩ => by
  unfold mulT1 at e
  split at e
  · split at e
    · rename_i xs n h
      cases e
      subst h
      obtain ⟨a, vs, rfl, hn, h1, h2⟩ := r1
      exact ⟨a, vs, rfl, r2, .of h1, k _ H ext_refl ⟨a, vs, rfl, hn, h1, h2⟩⟩
    · cases e
  · cases e
end
def mulX := orD mulD mulT1
section
variable {T : Tab} {X : Cx}
theorem op_mulX : OpR X (binaryOp .Mult) (rQ X.K T mulX) := op_or op_mulQ op_mulT1
end
def lcountD : List D → Option EV
  | [.lst xs, .str b] => (strsOf xs).map fun ys => vI (ys.count b : Nat)
  | _ => none
section
variable {T : Tab} {X : Cx} {o e : Expr} {pos apos : Pos} {fs : M (List AV)} {fo : M AV}
end
end Dt
end
section
set_option maxRecDepth 100000
set_option maxHeartbeats 4000000
/-! R5: repr of any plain data. -/
namespace Dt
open PySem PySem.Spec
open L2 hiding passL ps_try_many HdsOk takes0 XE Takes CX takes_of passes_call PMk MkP ps_raise mk_of ps_try_as pmk_own
open L2N hiding St
open PyProof.Rows hiding St
def reprX : List D → Option EV
  | [d] => (toP d).bind fun p => if p.showable = true ∧ p.hasDict = false ∧ p.shown.length ≤ big ∧ p.depth ≤ 60 then some (.v (.str (shownS p))) else none
  | _ => none
theorem cr_reprX {X : Cx} {T : Tab} (hgd : X.A.guards = some []) (hu : X.A.units + 64 < cLine) : CallR X (.builtin "repr") (rB X.K T reprX) := by
  intro pins s σ H xs us Q I rvs ⟨ex, ds, ev, dm, r1, e, k⟩
  unfold reprX at e
  split at e
  · rename_i d
    obtain ⟨p, hp, e⟩ := opt_bind e
    split at e
    · rename_i hh
      obtain ⟨h1, h2, h3, h4⟩ := hh
      cases e
      obtain ⟨v, rfl, rd⟩ := one_of r1
      obtain ⟨u, rfl, rv⟩ := vals1 rvs
      have fin : Q (.str p.shown) H := k _ H ext_refl (by show V.str _ = V.str (mkS (shownS p)); unfold shownS; rw [mkS_tl])
      have refd : ∀ a, v = .ref a → wpAny (model X.prog X.w) X.A (call (.builtin "repr") [u]) (EP X pins σ Q) X.xe s := fun a ea => by
        subst ea
        obtain rfl : u = Value.ref a := rv
        obtain ⟨as, rr⟩ := Dp.reads I p _ _ (rd.dp hp) (show RelV (V.ref a) (Value.ref a) from rfl)
        exact repr_of_reads' rr h1 (fun z => by rw [h2] at z; cases z) hgd (by omega) (fun _ _ z => z) (fun h' u' tk hk => ⟨.str p.shown, H, I.kept (t' := tk) hk, ⟨_, rfl⟩, fin⟩) (Nat.le_trans h3 big_line)
      cases d with
      | non =>
        cases hp
        cases (show v = _ from rd)
        cases (show u = .none from rv)
        exact PySem.P.repr_of_none ⟨.str _, H, I.tok _, ⟨_, rfl⟩, fin⟩
      | bl b =>
        cases hp
        cases (show v = _ from rd)
        cases (show u = .bool b from rv)
        exact PySem.P.repr_of_bool ⟨.str _, H, I.tok _, ⟨_, rfl⟩, fin⟩
      | int i =>
        cases hp
        cases (show v = _ from rd)
        obtain ⟨t, rfl⟩ := rv
        exact PySem.P.repr_of_int (of_decide_eq_true h1) ⟨.str _, H, I.tok _, ⟨_, rfl⟩, fin⟩
      | str z =>
        cases hp
        cases (show v = _ from rd)
        obtain ⟨t, rfl⟩ := rv
        exact PySem.P.repr_of_str ⟨.str _, H, I.tok _, ⟨_, rfl⟩, fin⟩ (Nat.le_trans h3 big_line)
      | lst z => obtain ⟨a, _, ea, _⟩ := rd; exact refd a ea
      | tup z => obtain ⟨a, _, ea, _⟩ := rd; exact refd a ea
      | dic a b => cases hp
      | obj a b => cases hp
      | raw a => cases hp
      | scr a => cases hp
      | clo f us ds => cases hp
    · cases e
  · cases e
/-! ### what may be shown -/
def Shw (d : D) (w k : Nat) : Prop := ∃ p, toP d = some p ∧ p.canLay0 = true ∧ p.showable = true ∧ p.hasDict = false ∧ p.leavesShort 20 = true ∧ p.weight ≤ w ∧ p.depth ≤ k
def ShwL (ds : List D) (w k : Nat) : Prop := ∃ ps, toPL ds = some ps ∧ PyData.canLayAll0 ps = true ∧ PyData.showableAll ps = true ∧ PyData.hasDictAll ps = false ∧ PyData.leavesShortAll 20 ps = true ∧ PyData.weightAll ps ≤ w ∧ PyData.depthAll ps ≤ k
theorem Shw.mono {d : D} {w w' k k' : Nat} (h : Shw d w k) (h1 : w ≤ w') (h2 : k ≤ k') : Shw d w' k' := by
  obtain ⟨p, a, b0, b, c, e, f, g⟩ := h
  exact ⟨p, a, b0, b, c, e, by omega, by omega⟩
theorem ShwL.mono {d : List D} {w w' k k' : Nat} (h : ShwL d w k) (h1 : w ≤ w') (h2 : k ≤ k') : ShwL d w' k' := by
  obtain ⟨p, a, b0, b, c, e, f, g⟩ := h
  exact ⟨p, a, b0, b, c, e, by omega, by omega⟩
theorem shw_int {i : Int} (h : -1000000000000 ≤ i ∧ i ≤ 1000000000000) : Shw (.int i) 64 0 := by
  have h0 : i.natAbs < 10 ^ 13 := by omega
  have h1 : i.natAbs.log2 < 63 := by
    by_cases z : i.natAbs = 0
    · rw [z]; decide
    · exact (Nat.log2_lt z).mpr (by omega)
  refine ⟨.int i, rfl, rfl, ?_, rfl, ?_, ?_, by simp [PyData.depth]⟩
  · exact decide_eq_true (by omega)
  · refine decide_eq_true ?_
    have := int_text_length_le10 (a := i) (k := 13) (by decide) h0
    show (Str.ofString (toString i)).length ≤ 20
    rw [PySem.ofString_length]
    omega
  · simp only [PyData.weight]
    split <;> omega
theorem shw_str {s : List Nat} (h : ∀ c ∈ s, c < 1114112) : Shw (.str s) s.length 0 := by
  refine ⟨.str (mkS s), rfl, ?_, rfl, rfl, ?_, ?_, by simp [PyData.depth]⟩
  · simp only [PyData.canLay0, PyData.strOk, mkS, Array.all_eq_true]
    intro i hi
    exact decide_eq_true (h _ (by simp))
  · simp only [PyData.leavesShort, mkS_cps]
    exact List.all_eq_true.mpr fun c hc => decide_eq_true (by have := h c hc; omega)
  · simp [PyData.weight, mkS]
theorem shwL_nil : ShwL [] 0 0 := ⟨[], rfl, rfl, rfl, rfl, rfl, by simp [PyData.weightAll], by simp [PyData.depthAll]⟩
theorem shwL_cons {d : D} {ds : List D} {w w' k k' : Nat} (h : Shw d w k) (t : ShwL ds w' k') : ShwL (d :: ds) (w + 1 + w') (max k k') := by
  obtain ⟨p, h1, h0, h2, h3, h4, h5, h6⟩ := h
  obtain ⟨ps, t1, t0, t2, t3, t4, t5, t6⟩ := t
  refine ⟨p :: ps, by simp [toPL, h1, t1], ?_, ?_, ?_, ?_, ?_, ?_⟩
  · simp only [PyData.canLayAll0, h0, t0]; rfl
  · simp only [PyData.showableAll, h2, t2]; rfl
  · simp only [PyData.hasDictAll, h3, t3]; rfl
  · simp only [PyData.leavesShortAll, h4, t4]; rfl
  · simp only [PyData.weightAll]; omega
  · simp only [PyData.depthAll]; omega
theorem shwL_map {α : Type} {f : α → D} {w k : Nat} : ∀ {l : List α}, (∀ a ∈ l, Shw (f a) w k) → ShwL (l.map f) (l.length * (w + 1)) k
  | [], _ => shwL_nil.mono (by simp) (by omega)
  | a :: l, h => (shwL_cons (h a (List.mem_cons_self ..)) (shwL_map fun a ha => h a (List.mem_cons_of_mem _ ha))).mono (by simp only [List.length_cons, Nat.succ_mul]; omega) (by omega)
theorem shw_lst {ds : List D} {w k : Nat} (h : ShwL ds w k) : Shw (.lst ds) w (k + 1) := by
  obtain ⟨ps, t1, t0, t2, t3, t4, t5, t6⟩ := h
  exact ⟨.list ps, by simp [toP, t1], by simpa [PyData.canLay0] using t0, by simpa [PyData.showable] using t2, by simpa [PyData.hasDict] using t3, by simpa [PyData.leavesShort] using t4, by simpa [PyData.weight] using t5, by simpa [PyData.depth] using t6⟩
theorem shw_tup {ds : List D} {w k : Nat} (h : ShwL ds w k) : Shw (.tup ds) w (k + 1) := by
  obtain ⟨ps, t1, t0, t2, t3, t4, t5, t6⟩ := h
  exact ⟨.tuple ps, by simp [toP, t1], by simpa [PyData.canLay0] using t0, by simpa [PyData.showable] using t2, by simpa [PyData.hasDict] using t3, by simpa [PyData.leavesShort] using t4, by simpa [PyData.weight] using t5, by simpa [PyData.depth] using t6⟩
/-- what repr gives -/
def shwT (d : D) : List Nat := match toP d with
  | some p => shownS p
  | none => []
theorem repr_shw {d : D} {w k : Nat} (h : Shw d w k) (hw : w ≤ 40000) (hk : k ≤ 60) : reprX [d] = some (.v (.str (shwT d))) := by
  obtain ⟨p, h1, h0, h2, h3, h4, h5, h6⟩ := h
  have := PyData.shown_le 20 (by omega) p h4
  simp only [reprX, shwT, h1, Option.bind]
  rw [if_pos ⟨h2, h3, by unfold big; omega, by omega⟩]
/-! ### nested data compared -/
def pOf (d : D) : PyData := (toP d).getD .none
@[simp] theorem pOf_int (i : Int) : pOf (.int i) = .int i := rfl
@[simp] theorem pOf_str (s : List Nat) : pOf (.str s) = .str (mkS s) := rfl
theorem toPL_pOf : ∀ {ds : List D} {ps : List PyData}, toPL ds = some ps → ps = ds.map pOf
  | [], ps, h => by cases h; rfl
  | d :: ds, ps, h => by
    unfold toPL at h
    obtain ⟨p, h1, h⟩ := opt_bind h
    obtain ⟨qs, h2, rfl⟩ := Option.map_eq_some_iff.mp h
    rw [toPL_pOf h2]
    simp [pOf, h1]
end Dt
end
section
set_option maxRecDepth 100000
set_option maxHeartbeats 4000000
/-! R6: e[::-1]; repr of data that has dicts. -/
namespace Dt
open PySem PySem.Spec
open L2 hiding passL ps_try_many HdsOk takes0 XE Takes CX takes_of passes_call PMk MkP ps_raise mk_of ps_try_as pmk_own
open L2N hiding St
open PyProof.Rows hiding St
section
variable {prog : Program} {w : World} {A : Around} {E : Value → Shared → Prop} {s : Shared}
end
section
variable {X : Cx} {T : Tab}
theorem RepL.reverse {K : PySem.W.Frag} {ex : Addr → Prop} {H : Hp} : ∀ {ds : List D} {vs : List V}, RepL K T ex H ds vs → RepL K T ex H ds.reverse vs.reverse
  | [], vs, e => by cases (show vs = [] from e); exact .nil
  | d :: ds, _, ⟨v, r, e, h1, h2⟩ => by
    subst e
    rw [List.reverse_cons, List.reverse_cons]
    exact (RepL.reverse h2).append (.one h1)
end

/-! ### repr of data that has dicts (and no lists) -/
def keyP : Key → PyData
  | .inl i => .int i
  | .inr x => .str x
mutual
def toQ : D → Option PyData
  | .non => some .none
  | .bl b => some (.bool b)
  | .int i => some (.int i)
  | .str s => some (.str (mkS s))
  | .tup xs => (toQL xs).map .tuple
  | .dic ks xs => if ks.length = xs.length then (toQL xs).map fun ps => .dict ((ks.map keyP).zip ps) else none
  | _ => none
def toQL : List D → Option (List PyData)
  | [] => some []
  | d :: ds => (toQ d).bind fun p => (toQL ds).map (p :: ·)
end
section
variable {X : Cx} {T : Tab} {pins : List (Addr × Obj)} {σ : L2.St} {H : Hp} {s : Shared} {ex : Addr → Prop}
end
/-! ### what may be shown, with dicts -/
def ShQ (d : D) (w k : Nat) : Prop := ∃ p, toQ d = some p ∧ p.showable = true ∧ p.leavesShort 20 = true ∧ p.weight ≤ w ∧ p.depth ≤ k
def ShQL (ds : List D) (w k : Nat) : Prop := ∃ ps, toQL ds = some ps ∧ PyData.showableAll ps = true ∧ PyData.leavesShortAll 20 ps = true ∧ PyData.weightAll ps ≤ w ∧ PyData.depthAll ps ≤ k
theorem ShQ.mono {d : D} {w w' k k' : Nat} (h : ShQ d w k) (h1 : w ≤ w') (h2 : k ≤ k') : ShQ d w' k' := by
  obtain ⟨p, a, b, e, f, g⟩ := h
  exact ⟨p, a, b, e, by omega, by omega⟩
theorem ShQL.mono {d : List D} {w w' k k' : Nat} (h : ShQL d w k) (h1 : w ≤ w') (h2 : k ≤ k') : ShQL d w' k' := by
  obtain ⟨p, a, b, e, f, g⟩ := h
  exact ⟨p, a, b, e, by omega, by omega⟩
mutual
theorem toQ_P : ∀ (d : D) (p : PyData), toQ d = some p → p.hasDict = false → toP d = some p
  | .non, p, e, _ => by unfold toQ at e; cases e; rfl
  | .bl b, p, e, _ => by unfold toQ at e; cases e; rfl
  | .int b, p, e, _ => by unfold toQ at e; cases e; rfl
  | .str b, p, e, _ => by unfold toQ at e; cases e; rfl
  | .tup xs, p, e, h => by
    unfold toQ at e
    obtain ⟨ps, e1, rfl⟩ := Option.map_eq_some_iff.mp e
    simp only [PyData.hasDict] at h
    unfold toP
    rw [toQL_P xs ps e1 h]; rfl
  | .lst xs, p, e, _ => by unfold toQ at e; cases e
  | .dic ks xs, p, e, h => by
    unfold toQ at e
    split at e
    · obtain ⟨ps, e1, rfl⟩ := Option.map_eq_some_iff.mp e
      simp only [PyData.hasDict] at h
      cases h
    · cases e
  | .obj t fs, p, e, _ => by unfold toQ at e; cases e
  | .raw v, p, e, _ => by unfold toQ at e; cases e
  | .scr v, p, e, _ => by unfold toQ at e; cases e
  | .clo _ _ _, p, e, _ => by unfold toQ at e; cases e
theorem toQL_P : ∀ (ds : List D) (ps : List PyData), toQL ds = some ps → PyData.hasDictAll ps = false → toPL ds = some ps
  | [], ps, e, _ => by unfold toQL at e; cases e; rfl
  | d :: ds, ps, e, h => by
    unfold toQL at e
    obtain ⟨p, e1, e⟩ := opt_bind e
    obtain ⟨qs, e2, rfl⟩ := Option.map_eq_some_iff.mp e
    simp only [PyData.hasDictAll, Bool.or_eq_false_iff] at h
    unfold toPL
    rw [toQ_P d p e1 h.1, toQL_P ds qs e2 h.2]; rfl
end
end Dt
end
section
set_option maxRecDepth 100000
set_option maxHeartbeats 4000000
/-! R7: if (x := e) is not None, a op b op c op d, x *= e. -/
namespace Dt
open PySem PySem.Spec
open L2 hiding passL ps_try_many HdsOk takes0 XE Takes CX takes_of passes_call PMk MkP ps_raise mk_of ps_try_as pmk_own
open L2N hiding St
open PyProof.Rows hiding St
section
variable {T : Tab} {X : Cx} {np : Nat → Bool} {pos : Pos} {e : Expr} {f : M EV} {p q : S}
end
section
variable {K : PySem.W.Frag} {T : Tab} {ex : Addr → Prop} {σ : St} {H H' : Hp} {env : Sl} {W : WX} {Q : VK}
end
section
variable {T : Tab} {X : Cx} {pos : Pos} {a b c d : Expr} {fa fb fc fd : M AV} {o o' o2 : CmpOp} {op op' op2 : D → D → Option EV}
end
end Dt
end
section
set_option maxRecDepth 100000
set_option maxHeartbeats 4000000
/-! R8: try .. except X as e; isinstance(e, C). -/
namespace Dt
open PySem PySem.Spec
open L2 hiding passL ps_try_many HdsOk takes0 XE Takes CX takes_of passes_call PMk MkP ps_raise mk_of ps_try_as pmk_own
open L2N hiding St
open PyProof.Rows hiding St
section
variable {K : PySem.W.Frag} {T : Tab} {np : Nat → Bool} {ex : Addr → Prop} {env env' : Sl} {σ σ' : St} {H H' : Hp} {i : Nat}
theorem drop_get {j : Nat} {s : Slot} (h : (env'.set i .emp)[j]? = some s) (n : s ≠ .emp) : j ≠ i ∧ env'[j]? = some s := by
  rcases set_get h with ⟨_, h2, _⟩ | h
  · exact absurd h2 n
  · exact h
theorem drop_owns {a : Addr} (h : Owns (σ'.set i none) (env'.set i .emp) a) : Owns σ' env' a := by
  obtain ⟨j, c, e1, e2⟩ := h
  obtain ⟨h1, h2⟩ := drop_get e1 (fun z => nomatch z)
  exact ⟨j, c, h2, by rw [List.getElem?_set_ne (Ne.symm h1)] at e2; exact e2⟩
theorem Good.drop (g : Good K T ex σ' H' env') : Good K T ex (σ'.set i none) H' (env'.set i .emp) := by
  have mo : ∀ a o, ¬ exO ex σ' env' a → H' a = some o → ¬ exO ex (σ'.set i none) (env'.set i .emp) a ∧ H' a = some o := fun a o n e => ⟨fun z => n (z.imp id drop_owns), e⟩
  refine ⟨by rw [List.length_set, List.length_set]; exact g.len, fun j d e => ?_, fun j c e => ?_, fun j k a c c' e1 e2 e3 e4 => ?_, g.dom, g.tb⟩
  · obtain ⟨h1, h2⟩ := drop_get e (fun z => nomatch z)
    obtain ⟨v, e1, r⟩ := g.val j d h2
    exact ⟨v, by rw [List.getElem?_set_ne (Ne.symm h1)]; exact e1, r.mono mo⟩
  · obtain ⟨h1, h2⟩ := drop_get e (fun z => nomatch z)
    obtain ⟨a, e1, n, r⟩ := g.own j c h2
    exact ⟨a, by rw [List.getElem?_set_ne (Ne.symm h1)]; exact e1, n, r.mono rfl mo⟩
  · obtain ⟨h1, h2⟩ := drop_get e1 (fun z => nomatch z)
    obtain ⟨h3, h4⟩ := drop_get e2 (fun z => nomatch z)
    rw [List.getElem?_set_ne (Ne.symm h1)] at e3
    rw [List.getElem?_set_ne (Ne.symm h3)] at e4
    exact g.inj j k a c c' h2 h4 e3 e4
theorem SStep.drop (hi : np i = false) (s : SStep K T np ex σ H env σ' H' env') : SStep K T np ex σ H env (σ'.set i none) H' (env'.set i .emp) where
  fr := s.fr
  dm := s.dm
  sbp := fun j c hj e => s.sbp j c hj (drop_get e (fun z => nomatch z)).2
  sbl := fun j c a hj e q => by
    obtain ⟨h1, h2⟩ := drop_get e (fun z => nomatch z)
    rw [List.getElem?_set_ne (Ne.symm h1)] at q
    exact s.sbl j c a hj h2 q
  par := fun j hj => by
    have h1 : j ≠ i := fun z => by rw [z, hi] at hj; cases hj
    rw [List.getElem?_set_ne (Ne.symm h1)]
    exact s.par j hj
  ln := by rw [List.length_set]; exact s.ln
  gd := s.gd.drop
theorem RepR.drop {v : V} {ev : EV} (r : RepR K T np ex σ env H σ' env' H' v ev) : RepR K T np ex σ env H (σ'.set i none) (env'.set i .emp) H' v ev := by
  have mo : ∀ a o, ¬ exO ex σ' env' a → H' a = some o → ¬ exO ex (σ'.set i none) (env'.set i .emp) a ∧ H' a = some o := fun a o n e => ⟨fun z => n (z.imp id drop_owns), e⟩
  cases ev with
  | v d => exact Rep.mono mo r
  | o c =>
    obtain ⟨a, e1, n1, n2, h, q, gd⟩ := r
    exact ⟨a, e1, n1, fun z => n2 (drop_owns z), h, q.mono rfl fun b o n e => ⟨fun z => n (z.imp (fun z => z.imp id drop_owns) id), e⟩, gd.drop⟩
end
section
variable {T : Tab} {X : Cx} {np : Nat → Bool} {pos pos' np' : Pos}
end
end Dt
end
section
set_option maxRecDepth 100000
set_option maxHeartbeats 4000000
/-! R9: sorted tuples of ints, of any lengths, the first one empty. -/
namespace Dt
open PySem PySem.Spec
open L2 hiding passL ps_try_many HdsOk takes0 XE Takes CX takes_of passes_call PMk MkP ps_raise mk_of ps_try_as pmk_own
open L2N hiding St
open PyProof.Rows hiding St

section
variable {prog : Program} {w : World} {A : Around} {E : Value → Shared → Prop} {s : Shared}
end

section
variable {X : Cx} {T : Tab} {pins : List (Addr × Obj)} {σ : St} {H : Hp} {s : Shared} {ex : Addr → Prop}
end
end Dt
end
section
set_option maxRecDepth 100000
set_option maxHeartbeats 2000000
/-! GF: a for in a generator's body. -/
namespace PySem
open Sem (wp)
section
variable {M : Model} {A : Around} {R : GenEnd} {Y : Protocol} {n : Nat} {s₀ : Shared} {c : Code} {fs : List Frame} {s : Shared} {env : Env}
  {K : Flow → Sem Fin} {H : Value → Sem Fin} {gd : Bool → Bool} {lv : List Value → List Value}
end
section
variable {prog : Program} {w : World} {A : Around} {R : GenEnd} {Y : Protocol} {n : Nat} {s₀ : Shared} {fs : List Frame} {s : Shared} {env : Env}
end
end PySem
namespace L2
open PySem PySem.Spec PyProof.Rows GenW
section
variable {X : Cx} {tg : Expr}
end
end L2
end
section
set_option maxRecDepth 100000
set_option maxHeartbeats 4000000
/-! RA: generator defs `pre; for x in it: yield x`; list(f(..)). -/
namespace Dt
open PySem PySem.Spec
open L2 hiding passL ps_try_many HdsOk takes0 XE Takes CX takes_of passes_call PMk MkP ps_raise mk_of ps_try_as pmk_own
open L2N hiding St
open PyProof.Rows hiding St
variable {NG : Prop}
section
variable {K : PySem.W.Frag} {T : Tab} {np : Nat → Bool} {ex : Addr → Prop} {env env' : Sl} {σ σ' : St} {H H' : Hp}
end
section
variable {T : Tab} {X : Cx} {W : WX} {σ : St} {H : Hp} {Q : VK}
end
end Dt
end
section
set_option maxRecDepth 100000
set_option maxHeartbeats 4000000
/-! RB: lists of truths: count, index; the suite of k24's _law_said. -/
namespace Dt
open PySem PySem.Spec
open L2 hiding passL ps_try_many HdsOk takes0 XE Takes CX takes_of passes_call PMk MkP ps_raise mk_of ps_try_as pmk_own
open L2N hiding St
open PyProof.Rows hiding St
variable {NG : Prop}
section
variable {T : Tab} {X : Cx} {o e : Expr} {pos apos : Pos} {fs : M (List AV)} {fo : M AV}
end
section
variable {T : Tab} {X : Cx} {np : Nat → Bool} {pos pos' : Pos}
end
/-! ### the rules at one context -/
section
variable {T : Tab} {X : Cx} {np : Nat → Bool} {W : WX} {e : Expr} {es : List Expr} {pos pos' : Pos}
end
def two (t1 t2 : Nat) : Nat → Option Bool := fun t => if t = t1 then some true else if t = t2 then some true else none
def mulT0 : D → D → Option EV := fun x y => match x, y with
  | .tup (_ :: _), .int n => if n = 0 then some (.v (.tup [])) else none
  | _, _ => none
section
variable {T : Tab} {X : Cx}
end
def mulY := orD mulX mulT0
end Dt
end
section
set_option maxRecDepth 100000
set_option maxHeartbeats 4000000
/-! RC: str.replace of written texts: judgements behind a token that is out. -/
namespace Dt
open PySem PySem.Spec CwR
open L2 hiding passL ps_try_many HdsOk takes0 XE Takes CX takes_of passes_call PMk MkP ps_raise mk_of ps_try_as pmk_own
open L2N hiding St
open PyProof.Rows hiding St
variable {NG : Prop}
section
variable (T : Tab) (X : Cx)
def QET (e : Expr) (f : M EV) : Prop := ∀ pn xe W, Takes (X.tr pn xe) W → PassesOwn (model X.prog X.w) X.A X.env xe → PET (X.tr pn xe) e (tr X.K T (relE X.K T) f W)
def QOT (e : Expr) (f : M AV) : Prop := ∀ pn xe W, Takes (X.tr pn xe) W → PassesOwn (model X.prog X.w) X.A X.env xe → PET (X.tr pn xe) e (tr X.K T (relA X.K T) f W)
def QAsT (es : List Expr) (f : M (List AV)) : Prop := ∀ pn xe W, Takes (X.tr pn xe) W → PassesOwn (model X.prog X.w) X.A X.env xe → PAT (X.tr pn xe) es (tr X.K T (relAs X.K T) f W)
def QST (np : Nat → Bool) (st : Stmt) (f : S) : Prop := ∀ pn xe W, Takes (X.tr pn xe) W → PassesOwn (model X.prog X.w) X.A X.env xe → PST (X.tr pn xe) st (trS X.K T np f W)
def QSsT (np : Nat → Bool) (st : List Stmt) (f : S) : Prop := ∀ pn xe W, Takes (X.tr pn xe) W → PassesOwn (model X.prog X.w) X.A X.env xe → PSsT (X.tr pn xe) st (trS X.K T np f W)
end
theorem impET {X : Cx} {e : Expr} {t t' : TE} (h : PET X e t) (k : ∀ σ H Q, t' σ H Q → t σ H Q) : PET X e t' := fun pins s σ H Q h0 I q => h pins s σ H Q h0 I (k σ H Q q)
theorem impAT {X : Cx} {e : List Expr} {t t' : TA} (h : PAT X e t) (k : ∀ σ H Q, t' σ H Q → t σ H Q) : PAT X e t' := fun pos pins s σ H Q h0 I q => h pos pins s σ H Q h0 I (k σ H Q q)
theorem impST {X : Cx} {e : Stmt} {t t' : TS} (h : PST X e t) (k : ∀ D σ H, t' D σ H → t D σ H) : PST X e t' := fun pins s σ H D h0 I q => h pins s σ H D h0 I (k D σ H q)
theorem impSsT {X : Cx} {e : List Stmt} {t t' : TS} (h : PSsT X e t) (k : ∀ D σ H, t' D σ H → t D σ H) : PSsT X e t' := fun pins s σ H D h0 I q => h pins s σ H D h0 I (k D σ H q)
/-- what stands in a text in place of another -/
def replS (s y z : List Nat) : List Nat := (Txt.replace (mkS s) (mkS y) (mkS z)).cps.toList
def replD (y z : List Nat) : D → Option EV
  | .str s => if s.length + (s.length + 1) * z.length ≤ 16777216 then some (.v (.str (replS s y z))) else none
  | _ => none
def eRepl (y z : List Nat) (f : M AV) : M EV := M.bind f fun a env => (deref env a).bind fun d => lift (replD y z d) env
section
variable {K : PySem.W.Frag} {T : Tab} {W : WX} {σ : St} {H : Hp} {Q : VK}
theorem tr_repl {y z : List Nat} {f : M AV} (h : tr K T (relE K T) (eRepl y z f) W σ H Q) : tReplC (tr K T (relA K T) f W) (mkS y) (mkS z) σ H Q := by
  obtain ⟨ex, env, h⟩ := h
  refine ⟨ex, env, (trx_bind (relA K T) rmE h).mono fun v H1 ⟨a, env1, s1, ra, h1⟩ => ?_⟩
  obtain ⟨gd, r, e, o⟩ := h1
  obtain ⟨d, hd, e⟩ := opt_bind e
  have rd := deref_ok gd ra hd
  unfold replD at e
  cases d with
  | str s =>
    dsimp only at e
    by_cases hl : s.length + (s.length + 1) * z.length ≤ 16777216
    · rw [if_pos hl] at e
      cases e
      obtain rfl : v = .str (mkS s) := rd
      refine ⟨mkS s, rfl, by rw [mkS_len, mkS_len]; exact hl, o _ H1 (Step.refl gd) ?_⟩
      show V.str _ = V.str (mkS (replS s y z))
      rw [replS, mkS_tl]
    · rw [if_neg hl] at e; cases e
  | _ => cases e
end
section
variable {T : Tab} {X : Cx} {np : Nat → Bool} {pos : Pos} {e e' : Expr} {es : List Expr} {f : M EV} {fa fb : M AV} {g : M (List AV)} {st : Stmt} {rest : List Stmt} {p q : S}
theorem QET.of (h : QE T X e f) : QET T X e f := fun pn xe W tk hp => PET.of (h pn xe W tk hp)
theorem QOT.of (h : QO T X e fa) : QOT T X e fa := fun pn xe W tk hp => PET.of (h pn xe W tk hp)
theorem QST.of (h : QS T X np st p) : QST T X np st p := fun pn xe W tk hp => PST.of (h pn xe W tk hp)
theorem QSsT.of (h : QSs T X np rest p) : QSsT T X np rest p := fun pn xe W tk hp => PSsT.of (h pn xe W tk hp)
theorem qot_of (h : QET T X e f) : QOT T X e (toA f) := by
  intro pn xe W tk hp
  refine impET (h pn xe W tk hp) fun σ H Q q => ?_
  obtain ⟨ex, env, q⟩ := q
  refine ⟨ex, env, (trx_bind (relE X.K T) rmA q).mono fun v H1 ⟨ev, env1, s, r, q⟩ => ?_⟩
  cases f : frz ev with
  | none => rw [f] at q; obtain ⟨_, _, e, _⟩ := q; cases e
  | some d =>
    rw [f] at q
    obtain ⟨g, k⟩ := trx_ret q
    obtain ⟨g0, _⟩ : Good X.K T ex σ H env ∧ True := ⟨by rename_i q0 _; exact q0.1, trivial⟩
    exact k v H1 (Step.refl g) (RepE.frz g0 s r f)
theorem qast_nil : QAsT T X [] asNil := fun pn xe W tk hp => impAT pat_nil fun σ H Q q => tr_ret q fun _ _ => .nil
theorem qast_cons (h : QOT T X e fa) (k : QAsT T X es g) (hs : starEach (e :: es) X.env = (false, eval e X.env) :: starEach es X.env := by rfl) : QAsT T X (e :: es) (asCons fa g) := fun pn xe W tk hp => impAT (pat_cons (h pn xe W tk hp) (k pn xe W tk hp) hs) fun σ H Q q => by
  obtain ⟨ex, env, q⟩ := q
  refine ⟨ex, env, (trx_bind (relA X.K T) rmAs q).mono fun v H1 ⟨a, env1, s1, ra, h1⟩ => ⟨ex, env1, (trx_bind (relAs X.K T) rmAs h1).mono fun vs H2 ⟨as, env2, s2, rs, h2⟩ => ?_⟩⟩
  obtain ⟨g2, z⟩ := trx_ret h2
  exact z (v :: vs) H2 (Step.refl g2) (.cons (RepA.step ra s2) rs)
theorem qet_lst (h : QAsT T X es g) : QET T X (.List es pos) (eLst g) := fun pn xe W tk hp => impET (pet_lst (h pn xe W tk hp)) fun σ H Q q => tr_lst q
theorem qet_op {o : Operator} {op : D → D → Option EV} (ho : ∀ pn xe, OpR (X.tr pn xe) (binaryOp o) (rQ X.K T op)) (ha : QOT T X e fa) (hb : QOT T X e' fb) : QET T X (.BinOp e o e' pos) (eOp op fa fb) :=
  fun pn xe W tk hp => impET (pet_op (ho pn xe) (ha pn xe W tk hp) (hb pn xe W tk hp)) fun σ H Q h => tr_op h
section
variable {y z : Str} {j k : Nat} {c0 c1 apos : Pos} (ly lz : List Nat)
theorem qet_repl (ho : QOT T X e fa) (hy : mkS ly = y := by decide +kernel) (hz : mkS lz = z := by decide +kernel) (hyz : (y == z) = false := by decide)
    (hst : starEach [.Constant (.str y) j c0, .Constant (.str z) k c1] X.env = [(false, eval (.Constant (.str y) j c0) X.env), (false, eval (.Constant (.str z) k c1) X.env)] := by rfl)
    (hbase : attributeBase e "replace" X.env (eval e X.env) = eval e X.env := by rfl) (hline : (apos.endLine == pos.line) = true := by rfl) :
    QET T X (.Call (.Attribute e "replace" apos) [.Constant (.str y) j c0, .Constant (.str z) k c1] [] pos) (eRepl ly lz fa) := fun pn xe W tk hp => by
  subst hy
  subst hz
  exact impET (pet_replT (X := X.tr pn xe) (ho pn xe W tk hp) hyz hst hbase hline) fun σ H Q q => tr_repl q
end
theorem pst_set {i : Nat} {x : Str} {te : TE} {pos' : Pos} (hN : X.N.Nodup) (hi : X.N[i]? = some x) (hx : Loc X.env.scope x) (he : PET X e te) (hs : swapsWith e (some (.Name x pos')) pos.line X.env = pure false) (hf : X.fn x = true ∨ X.env.scope.names.lookup x = some .local) :
    PST X (.Assign [.Name x pos'] e pos) (tAsg te (gName i)) := fun pins s σ H D h0 I h =>
  wpAny_Assign_Name (thn (he pins s σ H _ h0 I h) fun v s1 ⟨y, H1, I1, r1, q1⟩ => store_ok I1 hN hi hx r1 (fun s2 I2 => ⟨_, H1, I2, q1⟩) hf) hs
theorem qst_set (i : Nat) {x : Str} {pos' : Pos} (hN : X.N.Nodup) (h : QET T X e f) (hi : X.N[i]? = some x := by rfl) (hx : Loc X.env.scope x := by first | exact Or.inl rfl | exact Or.inr rfl) (hnp : np i = false := by rfl)
    (hs : swapsWith e (some (.Name x pos')) pos.line X.env = pure false := by rfl) (hf : X.fn x = true ∨ X.env.scope.names.lookup x = some .local := by first | exact .inl rfl | exact .inr rfl) : QST T X np (.Assign [.Name x pos'] e pos) (sSet i f) :=
  fun pn xe W tk hp => impST (pst_set (X := X.tr pn xe) hN hi hx (h pn xe W tk hp) hs hf) fun D σ H q => by
    obtain ⟨ex, env, z⟩ := trS_expr q (relE X.K T)
    refine ⟨ex, env, z.mono fun v H1 ⟨ex, env, H0, env1, a, g, s, ra, _, r, e, o⟩ => ?_⟩
    cases e
    exact o _ H1 (Good.store hnp g s ra)
theorem qsst_cons (h : QST T X np st p) (k : QSsT T X np rest q) : QSsT T X np (st :: rest) (sSeq p q) := fun pn xe W tk hp => impSsT (psst_cons (h pn xe W tk hp) (k pn xe W tk hp)) fun D σ H ⟨ex, env, g, r, e, o⟩ => by
  unfold sSeq at e
  refine ⟨ex, env, g, ?_⟩
  cases w : p env with
  | none => rw [w] at e; cases e
  | some rp =>
    rw [w] at e
    refine ⟨rp, rfl, ?_⟩
    cases rp with
    | nx env1 => exact fun σ' H' s => ⟨ex, env1, s.gd, r, e, o.back s⟩
    | _ => cases e; exact o
end
section
variable {P : Program} {w : World} {K : PySem.W.Frag} {mg : Str → Option Value} {base : Heap} {T : Tab}
theorem sp_bodyT {st : Stmt} {qual : Str} {f : Addr} {N ps : List Str} {body : S} {cdv : Value} {A : Around} {outer : List Env} {s : Shared} {H : Hp} {E : XK} {vs : List V} {Q : VK} (hpl : ps.length ≤ N.length)
    (q : QSsT T (cxOf (L2N.CX P w) P w K mg base N qual (defScope st) f cdv A outer s H E) (lt ps.length) (defBody st) body) (hsp : spD K T (funD N.length ps.length body) vs H Q E) :
    ∃ t, PSsT (cxOf (L2N.CX P w) P w K mg base N qual (defScope st) f cdv A outer s H E) (defBody st) t ∧ t { nx := fun _ H' => Q .non H', rt := Q } (start N vs) H := by
  have q := q (cxOf (L2N.CX P w) P w K mg base N qual (defScope st) f cdv A outer s H E).pn (cxOf (L2N.CX P w) P w K mg base N qual (defScope st) f cdv A outer s H E).xe (fun c d _ H => E c d H) (takes_of rfl rfl rfl rfl) (passes_of rfl)
  refine ⟨_, q, ?_⟩
  obtain ⟨ex, args, g, r, e, o⟩ := hsp
  unfold funD at e
  by_cases hl : args.length = ps.length
  · rw [if_pos hl] at e
    refine ⟨ex, _, start_good hl hpl g, ?_⟩
    cases w : body (args ++ List.replicate (N.length - ps.length) .emp) with
    | none => rw [w] at e; cases e
    | some rb =>
      rw [w] at e
      refine ⟨rb, rfl, ?_⟩
      cases rb with
      | bk _ => cases e
      | ct _ => cases e
      | nx e1 =>
        cases e
        intro σ' H' s
        obtain ⟨s', _, _⟩ := end_step hl hpl g s
        exact o .non H' s' rfl
      | rt v e1 =>
        cases e
        intro u σ' H' s rr
        obtain ⟨s', exb, gm⟩ := end_step hl hpl g s
        refine o u H' s' ?_
        cases v with
        | v d => exact Rep.mono (fun a o n e => ⟨fun z => n (exb a z), e⟩) rr
        | o c =>
          obtain ⟨a, ev, na, no, hn, ro, gx⟩ := rr
          refine ⟨a, ev, ?_, ro.mono rfl fun b o n e => ⟨fun z => n (z.imp (exb b) id), e⟩, gm a gx⟩
          rcases hn with ⟨j, c', hj, e1, _⟩ | hn
          · rcases app_get e1 with ⟨h1, _⟩ | ⟨_, h⟩
            · have := of_decide_eq_false hj; omega
            · cases h
          · exact hn
      | exc x e1 =>
        cases e
        intro cls dd σ' H' s rx
        obtain ⟨s', exb, _⟩ := end_step hl hpl g s
        refine o cls dd H' s' ⟨rx.1, rx.2.imp id ?_⟩
        rintro ⟨a, ws, e1, e2, l, r⟩
        exact ⟨a, ws, e1, e2, l, r.mono fun a o n e => ⟨fun z => n (exb a z), e⟩⟩
  · rw [if_neg hl] at e; cases e
theorem Fun.qT {x qual : Str} {st : Stmt} {f : Addr} {fd : FuncData} {N ps : List Str} {k : Nat} {body : S} (F : Fun K x qual st f fd) (Sc : FnScope N ps (defScope st)) (bd : Binds K fd ps []) (hnc : ∀ y ∈ (defScope st).names, y.2 ≠ .cell) (hps : 1 ≤ ps.length)
    (hb : ∀ (cdv : Value) (A : Around) (outer : List Env) (s : Shared) (H : Hp) (E : XK), RG True k (A.deeper (envOfC qual (defScope st) s.heap.objs.size f cdv)) →
      QSsT T (cxOf (L2N.CX P w) P w K mg base N qual (defScope st) f cdv A outer s H E) (lt ps.length) (defBody st) body) :
    FnG NG P w K mg base (k + 1) f (spD K T (funD N.length ps.length body)) := by
  have hpl : ps.length ≤ N.length := by have := congrArg List.length Sc.pre; rw [List.length_take] at this; omega
  obtain ⟨oc, od, kV, doc, pm, an, cdv, ct, osl, rfl, lk, hcd⟩ := F.ex
  intro A outer s H us vs Q E hr e0 r hsp
  have hl : vs.length = ps.length := fun_len hsp
  have KX : K.In s.heap := e0.mod.kin.keeps fun b o e => (e0.bs b o e).1
  have hb2 := bd s us KX (by rw [List.append_nil, ← r.length]; exact hl)
  rw [List.append_nil] at hb2
  exact (fn_ofT (CX := L2N.CX P w) (sp := spD K T (funD N.length ps.length body)) lk hcd Sc hnc hps (fun vs H Q E h => fun_len h) fun A outer s H vs Q E hr h => sp_bodyT hpl (hb cdv A outer s H E ⟨hr, .inr trivial⟩) h).run A outer s H ⟨us, []⟩ us vs Q E hr.r e0 hb2 r hsp
end
end Dt
end
section
set_option maxRecDepth 100000
set_option maxHeartbeats 4000000
/-! RD: sorted(set(t)) of an ascending tuple of ints. -/
namespace Dt
open PySem PySem.Spec
open L2 hiding passL ps_try_many HdsOk takes0 XE Takes CX takes_of passes_call PMk MkP ps_raise mk_of ps_try_as pmk_own
open L2N hiding St
open PyProof.Rows hiding St
section
variable {X : Cx}
end
section
variable {T : Tab} {X : Cx} {a : Expr} {fa : M AV} {p p2 q pos : Pos}
end
end Dt
end
section
set_option maxRecDepth 100000
set_option maxHeartbeats 4000000
/-! RE: list(text). -/
namespace Dt
open PySem PySem.Spec
open L2 hiding passL ps_try_many HdsOk takes0 XE Takes CX takes_of passes_call PMk MkP ps_raise mk_of ps_try_as pmk_own
open L2N hiding St
open PyProof.Rows hiding St
def listX : List D → Option EV := fun ds => match ds with
  | [.str s] => if s.length ≤ big then some (.o (.lst (s.map fun c => .str [c]))) else none
  | _ => listD ds
theorem signs_vals (s : List Nat) : ∀ (its : List Value), its.length = s.length → (∀ (j : Nat) (v : Value), its[j]? = some v → ∃ (c : Nat) (u : Tok), s[j]? = some c ∧ v = Value.str ⟨#[c]⟩ u) → Vals (s.map fun c => V.str (mkS [c])) its := by
  induction s with
  | nil =>
    intro its hl _
    cases its with
    | nil => exact .nil
    | cons a b => simp at hl
  | cons c s ih =>
    intro its hl h
    cases its with
    | nil => simp at hl
    | cons a b =>
      obtain ⟨d, u, e1, e2⟩ := h 0 a rfl
      simp at e1
      subst e1
      exact .cons ⟨u, e2⟩ (ih b (by simpa using hl) fun j v hj => by
        obtain ⟨d, u, e1, e2⟩ := h (j + 1) v (by simpa using hj)
        exact ⟨d, u, by simpa using e1, e2⟩)
theorem signs_rep {K : PySem.W.Frag} {T : Tab} {ex : Addr → Prop} {H : Hp} : ∀ s : List Nat, RepL K T ex H (s.map fun c => D.str [c]) (s.map fun c => V.str (mkS [c]))
  | [] => .nil
  | _ :: s => .cons rfl (signs_rep s)
theorem cr_listX {X : Cx} {T : Tab} (hc : X.calm = true) : CallR X (.type "list") (rB X.K T listX) := by
  intro pins s σ H xs us Q I rvs ⟨ex, ds, ev, dm, r1, e, k⟩
  unfold listX at e
  split at e
  · rename_i t
    obtain ⟨v, rfl, rd⟩ := one_of r1
    obtain rfl : v = V.str (mkS t) := rd
    obtain ⟨u, rfl, ru⟩ := vals1 rvs
    obtain ⟨tk, rfl⟩ := ru
    split at e
    · rename_i hl
      cases e
      have hsz : (mkS t).cps.size = t.length := by simp [mkS]
      have hz : (t.map fun c => V.str (mkS [c])).length ≤ sizeLine := by rw [List.length_map]; exact Nat.le_trans hl big_line
      refine call_list_str (I.ok.hd hc) (mkS t) tk (fun h' tk' acc c' hk hS hacc => ?_) (by rw [hsz]; exact Nat.le_trans hl big_line)
      obtain ⟨a1, a2⟩ := hacc
      have hv : Vals (t.map fun c => V.str (mkS [c])) acc.toList := signs_vals t acc.toList (by rw [Array.length_toList, a1, hsz]) fun j v hj => by
        obtain ⟨c, u, e1, e2⟩ := a2 j v (by simpa using hj)
        exact ⟨c, u, by rw [← e1, ← Array.getElem?_toList, mkS_cps], e2⟩
      have hn : H s.heap.objs.size = none := I.hok.fresh (Nat.le_refl _)
      exact ⟨.ref s.heap.objs.size, _, I.laid (t' := tk') hk (Nat.le_refl _) (show ObjOk X.prog X.w _ h' _ (HO.lst (t.map fun c => V.str (mkS [c]))) from ⟨hz, acc.toList, c', hv, hS⟩), rfl, k _ _ (ext_new hn) ⟨_, rfl, hn, rep_newL hn (signs_rep t)⟩⟩
    · cases e
  · exact cr_list (X := X) (T := T) pins s σ H xs us Q I rvs ⟨ex, ds, ev, dm, r1, e, k⟩
end Dt
end
section
set_option maxRecDepth 100000
set_option maxHeartbeats 4000000
/-! RF: several except clauses; o + e, o an own object. -/
namespace Dt
open PySem PySem.Spec
open L2 hiding passL ps_try_many HdsOk takes0 XE Takes CX takes_of passes_call PMk MkP ps_raise mk_of ps_try_as pmk_own
open L2N hiding St
open PyProof.Rows hiding St
variable {NG : Prop}
def pickH (x : ExD) (e : Sl) : List ((Nat → Option Bool) × S) → Option SR
  | [] => some (.exc x e)
  | (sb, fs) :: r => match sb x.t with
    | some true => match fs e with
      | some (.exc _ _) => none
      | r => r
    | some false => pickH x e r
    | none => none
def tsOf (K : PySem.W.Frag) (T : Tab) (np : Nat → Bool) : List ((Nat → Option Bool) × S) → List Value → List (Value × (Addr → Value → Option Addr → TS))
  | p :: l, c :: cs => (c, fun _ _ _ => trS K T np p.2 W0) :: tsOf K T np l cs
  | _, _ => []
inductive QHds (T : Tab) (X : Cx) (np : Nat → Bool) : List ExceptHandler → List ((Nat → Option Bool) × S) → List Value → Prop
  | nil : QHds T X np [] [] []
  | cons {cn : Str} {c : Value} {sb : Nat → Option Bool} {fs : S} {b₀ : Stmt} {suite : List Stmt} {np' pos' : Pos} {hds : List ExceptHandler} {l : List ((Nat → Option Bool) × S)} {cs : List Value} (hc : Names X cn c)
      (hsb : ∀ t b, sb t = some b → PySem.W.exmOne X.K (.ref (T.cls t)) c = some b) (hsu : ∀ (a : Addr) (oe : Obj) (pn : List (Addr × Obj)), QSs T (X.suite a ((a, oe) :: pn)) np (b₀ :: suite) fs) (r : QHds T X np hds l cs) :
      QHds T X np (.ExceptHandler (some (.Name cn np')) none (b₀ :: suite) pos' :: hds) ((sb, fs) :: l) (c :: cs)
section
variable {T : Tab} {X : Cx} {np : Nat → Bool} {pos : Pos}
theorem QHds.ok {hds : List ExceptHandler} {l : List ((Nat → Option Bool) × S)} {cs : List Value} (h : QHds T X np hds l cs) (pn : List (Addr × Obj)) (xe : Value → Shared → Prop) : HdsOk (X.tr pn xe) hds (tsOf X.K T np l cs) := by
  induction h with
  | nil => exact .nil
  | cons hc hsb hsu r ih => exact .cons hc (fun a oe cls d pn' _ _ => hsu a oe pn' _ _ W0 takes0 .never) ih
theorem QHds.many {ex : Addr → Prop} {σ : St} {H : Hp} {env : Sl} {W : WX} {D : Ends} {x : ExD} {cls : Value} {dd : Option Addr} {hds : List ExceptHandler} {l : List ((Nat → Option Bool) × S)} {cs : List Value} (h : QHds T X np hds l cs) (ec : cls = .ref (T.cls x.t)) (g : Good X.K T ex σ H env)
    {r : SR} (er : pickH x env l = some r) (o : OutS X.K T np ex env W σ H D r) (hx : ∀ z e, r = .exc z e → W cls dd σ H) : wMany X.K W D (tsOf X.K T np l cs) cls dd σ H := by
  induction h with
  | nil =>
    cases er
    exact hx _ _ rfl
  | @cons cn c sb fs b₀ suite np' pos' hds l cs hc hsb hsu rr ih =>
    unfold pickH at er
    cases w : sb x.t with
    | none => rw [w] at er; cases er
    | some b =>
      rw [w] at er
      refine ⟨b, by rw [ec]; exact hsb _ _ w, fun hb a ha => ?_, fun hb => ?_⟩
      · subst hb
        dsimp only at er
        split at er
        · cases er
        · rename_i hne
          refine ⟨ex, env, g, r, er, ?_⟩
          cases r with
          | exc z2 e2 => exact absurd er (hne z2 e2)
          | _ => exact o
      · subst hb
        exact ih er
end
/-! ### o + e -/
section
variable {prog : Program} {w : World} {A : Around} {E : Value → Shared → Prop} {s : Shared} {K : PySem.W.Frag} {x C L f : Addr} {h₀ : Heap} {m : Str → Option Value} {ox : Obj} {od : Option Obj} {Ty : String}
open PySem.W in
end
/-- what of the text own + value asks -/
structure AddK (K : PySem.W.Frag) (C : Addr) : Prop where
  rc : ∃ rc, PySem.W.findIn K (.ref C) "__radd__" = some rc ∧ (rc = none ∨ ∃ g : Addr, rc = some (.ref g))
  kn : ∀ n, n < 7 → ∃ fo ro, PySem.W.findIn K (.type (kindT n)) "__add__" = some fo ∧ PySem.W.findIn K (.type (kindT n)) "__radd__" = some ro ∧ PySem.W.subIn K (.type (kindT n)) (.ref C) = some false
section
variable {T : Tab} {X : Cx} {a b : Expr} {pos : Pos} {fa fb : M AV} {mt : Nat → Option (M EV)} {t0 : Nat} {ks : Bool}
end
end Dt
end
section
set_option maxRecDepth 100000
set_option maxHeartbeats 4000000
/-! RG: a lambda without parameters handed to a def of the text (that calls it); tables of code objects in the end. -/
namespace Dt
open PySem PySem.Spec
open L2 hiding passL ps_try_many HdsOk takes0 XE Takes CX takes_of passes_call PMk MkP ps_raise mk_of ps_try_as pmk_own
open L2N hiding St
open PyProof.Rows hiding St

/-! ### heaps that keep all but tables -/
section
variable {K : PySem.W.Frag} {T : Tab} {ex : Addr → Prop} {σ : St} {H H' : Hp} {env : Sl}
end

section
variable {K : PySem.W.Frag} {T : Tab} {ex ex' : Addr → Prop} {σ : St} {H H' : Hp} {env : Sl}
end

/-! ### the lambda's outcome, as the callee sees it -/
inductive LO where
  | ok (ev : EV) | exc (x : ExD)
open Classical in
section
open LamX
variable {X : Cx} {pins : List (Addr × Obj)} {σ : St} {H : Hp} {s : Shared}
end

/-! ### x(lambda: body) -/
section
open LamX
variable {NG : Prop} {T : Tab} {X : Cx} {x a : Str} {st : Stmt} {g c P : Addr} {fd : FuncData} {Ng : List Str} {k : Nat} {gB : D → LO → S} {res : LO → Option LO} {m : M EV} {params : Arguments} {body : Expr} {scope : Scope} {p lpos pos : Pos}
end

end Dt
end
section
set_option maxRecDepth 100000
set_option maxHeartbeats 4000000
/-! RH: a def that calls what it got within try .. except X as e: return A if isinstance(e, C) and isinstance(e, ValueError) else B. -/
namespace Dt
open PySem PySem.Spec
open L2 hiding passL ps_try_many HdsOk takes0 XE Takes CX takes_of passes_call PMk MkP ps_raise mk_of ps_try_as pmk_own
open L2N hiding St
open PyProof.Rows hiding St
section
variable {T : Tab} {X : Cx} {np : Nat → Bool} {pos pos' : Pos}
end
/-! ### the rules at one context -/
section
variable {T : Tab} {X : Cx} {np : Nat → Bool} {W : WX} {e c a b : Expr} {rest : List Expr} {pos : Pos}
end
end Dt
end
section
set_option maxRecDepth 100000
set_option maxHeartbeats 4000000
/-! RI: generator defs whose first statement may raise; list(f(..)) of them. -/
namespace Dt
open PySem PySem.Spec
open L2 hiding passL ps_try_many HdsOk takes0 XE Takes CX takes_of passes_call PMk MkP ps_raise mk_of ps_try_as pmk_own
open L2N hiding St
open PyProof.Rows hiding St
variable {NG : Prop}
section
variable {T : Tab} {X : Cx}
end
end Dt
end
section
set_option maxRecDepth 100000
set_option maxHeartbeats 4000000
/-! RJ: sets of texts that can be walked; set(list of texts), sorted of it (our turn of the library's proofs for ints and truth values). -/
namespace DtT
open PySem PySem.Spec PyProof.Rows L2
def keyS (e : Int × Value) : Str := match e.2 with | .str k _ => k | _ => Str.empty
def GoodS (w : World) (e : Int × Value) : Prop := ∃ k tk, e.2 = Value.str k tk ∧ e.1 = hashStr w k
/-- the set of texts at a: S its members, n their number; its table rises and can be walked -/
def SetS (w : World) (h : Heap) (a : Addr) (S : Str → Bool) (n : Nat) : Prop :=
  ∃ o es ep t, h.get? a = some o ∧ o.ExactSet ∧ o.data = .set es ep t ∧ (∀ e ∈ es.toList, GoodS w e) ∧ (es.toList.map keyS).Nodup ∧ (∀ k, S k = true ↔ k ∈ es.toList.map keyS) ∧
    es.size < scanBound ∧ t.fits es.size = true ∧ es.size = n ∧ Ris t.place.toList ∧ (w.params.followText "set-order" = true ∨ t.led = true)

section
variable {P : Program} {w : World} {h h' : Heap} {a : Addr} {S : Str → Bool} {n : Nat}

theorem SetS.at (R : SetS w h a S n) (k : ∀ o, h.get? a = some o → h'.get? a = some o) : SetS w h' a S n := by
  obtain ⟨o, es, ep, t, ho, r⟩ := R
  exact ⟨o, es, ep, t, k o ho, r⟩
theorem SetS.lt (R : SetS w h a S n) : a < h.objs.size := by
  obtain ⟨o, es, ep, t, ho, r⟩ := R
  exact Heap.lt_size ho
end

section
variable {P : Program} {w : World} {A : Around} {E : Value → Shared → Prop} {s : Shared} {a : Addr} {S : Str → Bool} {n : Nat}

section
variable {P : Program} {w : World} {A : Around} {E : Value → Shared → Prop} {s : Shared}
end
section
variable {P : Program} {w : World} {A : Around} {E : Value → Shared → Prop} {s : Shared}
end
end
end DtT
end
section
set_option maxRecDepth 100000
set_option maxHeartbeats 4000000
/-! RJ2: sorted(set(list of texts)). -/
namespace Dt
open PySem PySem.Spec
open L2 hiding passL ps_try_many HdsOk takes0 XE Takes CX takes_of passes_call PMk MkP ps_raise mk_of ps_try_as pmk_own
open L2N hiding St
open PyProof.Rows hiding St
open PySem.W (EachIs AllAlike Sortable dataLe SortsAt dataKind sortVals alike sortingHeap_old sortVals_data sortVals_length each_map list_sort_vals)
section
variable {X : Cx} {T : Tab} {pins : List (Addr × Obj)} {σ : St} {H : Hp} {s : Shared} {Q : VK} {ex : Addr → Prop}
end

section
open PySem.W
end
section
variable {T : Tab} {X : Cx} {a : Expr} {fa : M AV} {p p2 q pos : Pos}
end
end Dt
end
section
set_option maxRecDepth 100000
set_option maxHeartbeats 2000000
/-! GA: a run that does not wake the generators that sleep at its start leaves them as they are (they may be poisoned for the proof). -/
namespace GenZ
open PySem
open Sem (wp)

/-- asleep, never to be woken -/
def pz : GenState → GenState
  | .suspended _ l c p fs cl => .suspended (fun _ => .unsupported "asleep") l c p fs cl
  | x => x
def isS : GenState → Bool
  | .suspended .. => true
  | _ => false
def Sl (G : Array GenState) (i : Nat) : Prop := ∃ y, G[i]? = some y ∧ isS y = true
/-- no frame of a sleeper -/
def NoF (G : Array GenState) (fs : List Frame) : Prop := ∀ F ∈ fs, ∀ j k l c p, F = .gen j k l c p → ¬ Sl G j
structure OkG (G A : Array GenState) : Prop where
  sz : G.size ≤ A.size
  at_ : ∀ (i : Nat) (y : GenState), G[i]? = some y → isS y = true → A[i]? = some (pz y)
  fr : ∀ (i : Nat) k l c p fs cl, ¬ Sl G i → A[i]? = some (.suspended k l c p fs cl) → NoF G fs
/-- all that sleeps, poisoned -/
def asleep (s : Shared) : Shared := { s with gens := s.gens.map pz }
end GenZ
end
section
set_option maxRecDepth 100000
set_option maxHeartbeats 2000000
/-! GB: one waking of a generator: a run up to its next yield, with any wish of its end. -/
namespace GenZ
open PySem
open Sem (wp)
def Seg1 (M : Model) (A : Around) (Φ : End → Shared → Prop) (c : Code) (t : Sem PySem.Fin) (fs : List Frame) (s : Shared) : Prop :=
  ∀ Γ p, Γ.code = c → Γ.Woken A → ∃ e s', Runs M Γ p t fs s e s' ∧ Φ e s'
section
variable {M : Model} {A : Around} {Φ : End → Shared → Prop} {c : Code} {fs : List Frame} {s : Shared}
variable {env : Env} {K : Flow → Sem PySem.Fin} {H : Value → Sem PySem.Fin} {gd : Bool → Bool} {lv : List Value → List Value}
/-- what a sleeper goes on with -/
def GoesOn (M : Model) (c : Code) (t : Sem PySem.Fin) (fs : List Frame) (k : Resume → Sem PySem.Fin) : Prop := ∀ (A : Around) (Φ : End → Shared → Prop) (s : Shared), Seg1 M A Φ c t fs s → Seg1 M A Φ c (k (.send .none)) fs s
end
section
variable {prog : Program} {w : World} {A : Around} {Φ : End → Shared → Prop} {fs : List Frame} {s : Shared} {env : Env}
end
end GenZ
end
section
set_option maxRecDepth 100000
set_option maxHeartbeats 2000000
/-! GC: a generator that is walked while other code runs between its turns: its context at a waking (over the heap cut at its frame), and back. -/
namespace L2
open PySem PySem.Spec PyProof.Rows GenW GenZ

/-! ### the heap below an address -/
def trunc (h : Heap) (n : Nat) : Heap := ⟨h.objs.extract 0 n, h.life⟩
def truncS (s : Shared) (n : Nat) : Shared := { s with heap := trunc s.heap n }

/-- a generator def of the form pre; for x in iter: yield x -/
structure GD where
  N : List Str
  qual : Str
  scope : Scope
  f : Addr
  cd : Value
  pre : List Stmt
  x : Str
  i : Nat
  px : Pos
  py : Pos
  iter : Expr
  pos : Pos
  yp : Pos
  yq : Pos
abbrev GD.env (d : GD) (L : Addr) : Env := envOfC d.qual d.scope L d.f d.cd
abbrev GD.tg (d : GD) : Expr := .Name d.x d.px
abbrev GD.yb (d : GD) : List Stmt := [.Expr (.Yield (some (.Name d.x d.py)) d.yp) d.yq]
abbrev GD.body (d : GD) : List Stmt := d.pre ++ [.For d.tg d.iter d.yb [] d.pos]
abbrev GD.loop (d : GD) (L it : Addr) : Code := .forLoop d.tg (.ref it) d.yb [] (d.env L)
structure GD.Ok (d : GD) : Prop where
  kind : d.scope.kind = .function
  co : d.scope.isCoroutine = false
  gen : d.scope.isGenerator = true
  names : ∀ y ∈ d.scope.names, y.2 ≠ .cell ∧ y.2 ≠ .free
  nd : d.N.Nodup
  ix : d.N[d.i]? = some d.x
  xl : d.scope.names.lookup d.x = some .local
  inter : ∀ L, interactive (d.env L) = false
  fold : ∀ env x, foldedSetIterable d.iter env x = pure x
  dbg : (d.x == ("__debug__" : Str)) = false
  cdt : (d.x == ("__classdict__" : Str)) = false
/-- the context of the generator's body, woken by code of X at the state s: what stands below its frame L is the caller's -/
def GD.cx (d : GD) (X : Cx) (s : Shared) (H : Hp) (L : Addr) : Cx :=
  { prog := X.prog, w := X.w, K := X.K, mg := X.mg, base := X.base, A := X.A.in1.deeper (d.env L), N := d.N, s_0 := truncS s L, H_0 := H, env := d.env L, outer := X.stack, stack := d.env L :: X.stack, ex := [], calm := true, fn := fun _ => true, pn := [], xe := fun _ _ => False }
/-- the frame's names stand as σ tells -/
def LocG (d : GD) (L : Addr) (σ : St) (h : Heap) : Prop := ∃ m, h.Ns L m ∧ ∀ (i : Nat) (y : Str) (v : V), d.N[i]? = some y → σ[i]? = some (some v) → Vis d.scope y → ∃ u, RelV v u ∧ Look (d.env L) h m y u
/-- the walking code's context, once for all -/
structure Cons (X : Cx) (L : Addr) : Prop where
  bsz : X.base.objs.size ≤ L
  fr : ∀ b ∈ frs X.stack, b < L
  cl : ∀ y c, X.env.cells.lookup y = some c → c < L
  hd : X.A.handled = none
end L2
end
section
set_option maxRecDepth 100000
set_option maxHeartbeats 2000000
/-! GE: the turns of a generator of the form pre; for x in iter: yield x. -/
namespace L2
open PySem PySem.Spec PyProof.Rows GenW GenZ

/-- what lies under the generator's loop -/
structure FsOk (P : Program) (w : World) (d : GD) (L it : Addr) (fs : List Frame) : Prop where
  over : ∀ A : Around, A.over (d.loop L it) fs = A.deeper (d.env L)
  split : splitAtGen fs = none
  guard : fs.any Frame.guarded = false
  fin : ∀ (A : Around) (Φ : End → Shared → Prop) (c : Code) (s : Shared), Φ (.ret (.ok (.ret .none))) s → Seg1 (model P w) A Φ c (leafOf (.ok .next)) fs s

/-- asleep behind a yield of its loop -/
structure Slp (X : Cx) (d : GD) (L a : Addr) (g : Nat) (it : Addr) (s : Shared) : Prop where
  gen : ∃ k l p fs, s.gens[g]? = some (.suspended k l (d.loop L it) p fs false) ∧ FsOk X.prog X.w d L it fs ∧ GoesOn (model X.prog X.w) (d.loop L it) (.pure (.again (d.loop L it))) fs k
  isg : s.heap.IsGen a g
  ns : ∃ m, s.heap.Ns L m
end L2
end
section
set_option maxRecDepth 100000
set_option maxHeartbeats 2000000
/-! GH: for and list comprehensions over a generator that a call just made. -/
namespace L2
open PySem PySem.Spec PyProof.Rows GenW GenZ

/-- a promise: the arguments, the heap at the first waking, what is wanted of the generator's own iterator and the heap then -/
abbrev SpW := List V → Hp → (It → Hp → Prop) → Prop
structure WFn (P : Program) (w : World) (K : PySem.W.Frag) (mg : Str → Option Value) (base : Heap) (k : Nat) (f : Addr) (fd : FuncData) (ps : List Str) (d : GD) (sp : SpW) : Prop where
  ok : d.Ok
  len : ∀ vs H R, sp vs H R → vs.length = ps.length
  npl : ps.length ≤ d.N.length
  make : ∀ (A : Around) (outer : List Env) (s : Shared) (H : Hp) (args : Args) (us : List Value) (vs : List V), Room k A → Env0 P w K mg base A outer s H → BindsTo s fd args (ps.zip us) → Vals vs us → vs.length = ps.length →
    codeAny (model P w) A (.call (.ref f) args) (fun r s' => ∃ (a : Addr) (g : Nat), r = .ok (.ret (.ref a)) ∧ s.heap.objs.size < a ∧ s'.heap.IsGen a g ∧ s'.gens[g]? = some (.fresh (.func d.body (d.env s.heap.objs.size))) ∧ s'.os = s.os ∧ AllBare s'.gens ∧
      (∀ b o, s.heap.get? b = some o → s'.heap.get? b = some o) ∧ LocG d s.heap.objs.size (start d.N vs) s'.heap) s
  body : ∀ (X : Cx) (s' : Shared) (H : Hp) (L : Addr), X.prog = P → X.w = w → X.K = K → X.mg = mg → X.base = base → Room k (X.A.in1.deeper (d.env L)) → L ≤ s'.heap.objs.size → ∀ vs R, sp vs H R →
    ∃ tpre wi, PSs (d.cx X s' H L) d.pre tpre ∧ PI (d.cx X s' H L) d.tg d.iter wi ∧ tpre { nx := fun σ1 H1 => wi σ1 H1 R, rt := fun _ _ => False } (start d.N vs) H

section
variable {X : Cx}
end
end L2
end
section
set_option maxRecDepth 100000
set_option maxHeartbeats 2000000
/-! GJ: list comprehensions over a generator that a call just made. -/
namespace L2
open PySem PySem.Spec PyProof.Rows GenW GenZ
section
variable {X : Cx}
variable {k : Nat} {f : Addr} {fd : FuncData} {ps : List Str} {d : GD} {sp : SpW} {x : Str} {p apos : Pos} {e : Expr} {es : List Expr} {ta : TA} {elt tg : Expr} {ifs : List Expr} {scope : Scope} {own : List (Str × Nat)} {pos : Pos} {g : TG} {tt : TT} {te : TE}
end
end L2
end
section
set_option maxRecDepth 100000
set_option maxHeartbeats 4000000
/-! RK: for and list comprehensions over a generator def's call. -/
namespace Dt
open PySem PySem.Spec
open L2 hiding passL ps_try_many HdsOk takes0 XE Takes CX takes_of passes_call PMk MkP ps_raise mk_of ps_try_as pmk_own
open L2N hiding St
open PyProof.Rows hiding St
variable {NG : Prop}
section
variable {K : PySem.W.Frag} {T : Tab} {ex : Addr → Prop} {σ : St} {H : Hp} {env : Sl} {W : WX} {R : It → Hp → Prop}
end
section
variable {T : Tab} {X : Cx} {np : Nat → Bool} {k : Nat} {f : Addr} {g : M (List D)} {x : Str} {p pos pos2 : Pos} {e : Expr} {es : List Expr} {fs : M (List AV)} {tg : Expr} {body : List Stmt} {t : D → Sl → Option Sl} {b : S}
end
end Dt
end
section
set_option maxRecDepth 100000
set_option maxHeartbeats 4000000
/-! RK2: list comprehensions over a generator def's call. -/
namespace Dt
open PySem PySem.Spec
open L2 hiding passL ps_try_many HdsOk takes0 XE Takes CX takes_of passes_call PMk MkP ps_raise mk_of ps_try_as pmk_own
open L2N hiding St
open PyProof.Rows hiding St
variable {NG : Prop}
section
variable {T : Tab} {X : Cx} {elt tg iter : Expr} {ifs : List Expr} {scope : Scope} {own : List (Str × Nat)} {pos : Pos} {fi : M (List D)} {t : D → Sl → Option Sl} {c : M Bool} {f : M EV}
variable {k : Nat} {fa : Addr} {g : M (List D)} {x : Str} {p apos : Pos} {e : Expr} {es : List Expr} {fs : M (List AV)}
end
end Dt
end
section
set_option maxRecDepth 100000
set_option maxHeartbeats 4000000
/-! RM: a dict display of three constant texts. -/
namespace Dt
open PySem PySem.Spec
open L2 hiding passL ps_try_many HdsOk takes0 XE Takes CX takes_of passes_call PMk MkP ps_raise mk_of ps_try_as pmk_own
open L2N hiding St
open PyProof.Rows hiding St
section
variable {T : Tab} {X : Cx}
end
section
variable {T : Tab} {X : Cx} {a b : Expr} {pos : Pos} {fa fb : M AV}
end
end Dt
end
section
set_option maxRecDepth 100000
set_option maxHeartbeats 4000000
/-! RN: generator defs with several statements ahead of their loop, in list(..); a raise that is never reached; name *= int; min(list, default=None). -/
namespace Dt
open PySem PySem.Spec
open L2 hiding passL ps_try_many HdsOk takes0 XE Takes CX takes_of passes_call PMk MkP ps_raise mk_of ps_try_as pmk_own
open L2N hiding St
open PyProof.Rows hiding St
variable {NG : Prop}
section
variable {T : Tab} {X : Cx} {np : Nat → Bool} {st : Stmt}
end
section
variable {T : Tab} {X : Cx} {a b : Expr} {fa fb : M AV} {p pos kpos : Pos}
end
end Dt
end
section
set_option maxRecDepth 100000
set_option maxHeartbeats 4000000
/-! RP: o.f among the targets of an assignment; a call of an instance. -/
namespace Dt
open PySem PySem.Spec
open L2 hiding passL ps_try_many HdsOk takes0 XE Takes CX takes_of passes_call PMk MkP ps_raise mk_of ps_try_as pmk_own
open L2N hiding St
open PyProof.Rows hiding St
variable {NG : Prop}
section
variable {T : Tab} {X : Cx} {np : Nat → Bool}
end
/-! ### o(e, ..) -/
section
variable {X : Cx} {W : WX} {fe e : Expr} {es : List Expr} {ta : TE} {t : TA} {pos : Pos}
end
structure CallOK (NG : Prop) (T : Tab) (X : Cx) (mt : Nat → Option (M EV)) : Prop where
  of : ∀ t g, mt t = some g → ∃ f k, StX.CallO X.K (T.cls t) f ∧ RG NG k X.A ∧ FnQ NG T X k f g
section
variable {T : Tab} {X : Cx} {fe e : Expr} {es : List Expr} {pos : Pos} {fa : M AV} {fs : M (List AV)} {mt : Nat → Option (M EV)} {t0 k : Nat} {f : Addr} {g : M EV}
end
/-! ### list(range(a, b)) -/
section
variable {T : Tab} {X : Cx} {a b : Expr} {p p2 q pos : Pos} {fa fb : M AV}
end
end Dt
end
section
set_option maxRecDepth 100000
set_option maxHeartbeats 4000000
/-! RQ: a def that calls what it got: try: return [st, a()] / except X: return [s] / .. -/
namespace Dt
open PySem PySem.Spec
open L2 hiding passL ps_try_many HdsOk takes0 XE Takes CX takes_of passes_call PMk MkP ps_raise mk_of ps_try_as pmk_own
open L2N hiding St
open PyProof.Rows hiding St
end Dt
end
section
set_option maxRecDepth 100000
set_option maxHeartbeats 4000000
/-! RS: methods that say super(): their context, the call super().m(..) at the head of a body. -/
namespace Dt
open PySem PySem.Spec
open L2 hiding passL ps_try_many HdsOk takes0 XE Takes CX takes_of passes_call PMk MkP ps_raise mk_of ps_try_as pmk_own
open L2N hiding St
open PyProof.Rows hiding St
open ClX (base_none met_new callwith_cm pin_at unpin)
variable {NG : Prop}
structure SScope (N P : List Str) (sc : Scope) : Prop where
  kind : sc.kind = .function
  co : sc.isCoroutine = false
  gen : sc.isGenerator = false
  nd : N.Nodup
  pre : N.take P.length = P
  par : ∀ x ∈ P, sc.names.lookup x = some .local
  nocell : ∀ y ∈ sc.names, y.2 ≠ .cell
  free : ∀ y ∈ sc.names, y.2 = .free → y.1 = "__class__"
  cls : sc.names.lookup ("__class__" : Str) = some .free
  sup : sc.names.lookup ("super" : Str) = some .globalImplicit
/-- the context of such a body -/
def cxS (P : Program) (w : World) (K : PySem.W.Frag) (mg : Str → Option Value) (base : Heap) (N : List Str) (qual : Str) (scope : Scope) (f : Addr) (cd : Value) (cc : Addr) (A : Around) (outer : List Env) (s : Shared) (H : Hp) (E : XK) : Cx where
  prog := P
  w := w
  K := K
  mg := mg
  base := base
  A := A.deeper (PySem.W.ksEnv qual scope s.heap.objs.size f cd cc)
  N := N
  s_0 := s
  H_0 := H
  env := PySem.W.ksEnv qual scope s.heap.objs.size f cd cc
  outer := outer
  stack := PySem.W.ksEnv qual scope s.heap.objs.size f cd cc :: outer
  ex := []
  calm := true
  fn := fun x => x != "__class__"
  pn := []
  xe := fun e s' => wpAny (model P w) (A.deeper (PySem.W.ksEnv qual scope s.heap.objs.size f cd cc)) (leaving (PySem.W.ksEnv qual scope s.heap.objs.size f cd cc) e) (fun _ s'' => L2N.CX P w outer H s E e s'') (fun e' s'' => L2N.CX P w outer H s E e' s'') s'
theorem lookup_zip : ∀ {ps : List Str} {us : List Value} {i : Nat} {x : Str} {u : Value}, ps.Nodup → ps[i]? = some x → us[i]? = some u → ps.length = us.length → (ps.zip us).reverse.lookup x = some u := by
  intro ps us i x u nd h1 h2 hl
  have key : ∀ {l : List (Str × Value)}, (l.map (·.1)).Nodup → (x, u) ∈ l → l.lookup x = some u := by
    intro l
    induction l with
    | nil => intro _ h; cases h
    | cons a l ih =>
      intro n h
      obtain ⟨y, v⟩ := a
      rw [List.map_cons, List.nodup_cons] at n
      rw [List.lookup_cons]
      rcases List.mem_cons.mp h with e | h
      · cases e; simp
      · have hne : x ≠ y := fun z => n.1 (List.mem_map.mpr ⟨(x, u), h, z⟩)
        have hb : (x == y) = false := by simp [hne]
        rw [hb]
        exact ih n.2 h
  refine key ?_ (List.mem_reverse.mpr ?_)
  · rw [List.map_reverse, List.map_fst_zip (by omega)]
    exact List.pairwise_reverse.mpr (nd.imp Ne.symm)
  · have : (ps.zip us)[i]? = some (x, u) := by rw [List.getElem?_zip_eq_some]; exact ⟨h1, h2⟩
    exact List.mem_of_getElem? this
theorem inv_startS {P : Program} {w : World} {K : PySem.W.Frag} {mg : Str → Option Value} {base : Heap} {N ps : List Str} {qual : Str} {scope : Scope} {f cc : Addr} {cd : Value} {A : Around} {outer : List Env} {s : Shared} {h1 : Heap} {tk : Nat} {H : Hp} {E : XK} {us : List Value} {vs : List V} {v0 : Option Value} {oc : Obj}
    (S : SScope N ps scope) (hd : A.handled = none) (e0 : Env0 P w K mg base A outer s H) (hl : vs.length = ps.length) (r : Vals vs us) (lcc : K.lookup cc = some oc) (dcc : oc.data = .cell v0)
    (hns : h1.Ns s.heap.objs.size (fun x => (ps.zip us).reverse.lookup x)) (hk : ∀ b o, s.heap.get? b = some o → h1.get? b = some o) :
    Inv (cxS P w K mg base N qual scope f cd cc A outer s H E) [] (L2.start N vs) H { s with heap := h1, toks := tk } := by
  have hpl : ps.length ≤ N.length := by have := congrArg List.length S.pre; rw [List.length_take] at this; omega
  have noA : ∀ b : Addr, b ∉ (cxS P w K mg base N qual scope f cd cc A outer s H E).ex := fun b z => absurd (show b ∈ ([] : List Addr) from z) (by simp)
  have bcc : base.get? cc = some oc := e0.mod.kin _ _ lcc
  have lk : ∀ {x : Str} {c : Addr}, ([("__class__", cc)] : List (Str × Addr)).lookup x = some c → x = "__class__" ∧ c = cc := fun {x c} h => by
    rw [List.lookup_cons] at h
    split at h
    · rename_i q; exact ⟨eq_of_beq q, (Option.some.inj h).symm⟩
    · cases h
  refine ⟨⟨e0.mod, S.kind, rfl, rfl, Nat.le_refl _, fun y z c h1 h2 => (lk h1).1.trans (lk h2).1.symm, fun y hy => ?_, fun y c hf h => ?_, fun _ => hd, Around.frames_deeper e0.frames, .inr ⟨rfl, rfl⟩, fun b z => absurd z (noA b), e0.bs, e0.bsz, fun b _ _ => noA b, fun b z => absurd z (noA b), e0.funs, e0.frf⟩,
    rfl, e0.bare, Un.kept hk, ⟨_, hns, fun i y v h1 h2 h3 => ?_⟩, fun y c h => ?_, e0.hok.fresh (Nat.le_refl _), fun y c h => ?_, fun p hp => absurd (show p ∈ ([] : List (Addr × Obj)) from hp) (by simp), e0.hok.kept hk, ?_⟩
  · have hy : scope.names.lookup y = some .cell ∨ scope.names.lookup y = some .free := hy
    rcases hy with hy | hy
    · exact absurd rfl (S.nocell _ (PySem.mem_of_lookup hy))
    · have := S.free _ (PySem.mem_of_lookup hy) rfl
      have this : y = "__class__" := this
      subst this
      exact ⟨cc, rfl⟩
  · rw [(lk h).1] at hf
    cases hf
  · have hi : i < vs.length := by
      unfold L2.start at h2
      by_cases hi : i < vs.length
      · exact hi
      · rw [List.getElem?_append_right (by simpa using hi)] at h2
        rw [List.getElem?_replicate] at h2
        split at h2 <;> cases h2
    have ha : vs[i]? = some v := by
      unfold L2.start at h2
      rw [List.getElem?_append_left (by simpa using hi), List.getElem?_map] at h2
      cases e : vs[i]? with
      | none => rw [e] at h2; cases h2
      | some a => rw [e] at h2; cases h2; rfl
    obtain ⟨u, hu, rv⟩ := r.get ha
    have hp : ps[i]? = some y := by
      rw [← S.pre, List.getElem?_take_of_lt (by omega)]; exact h1
    have ndP : ps.Nodup := by rw [← S.pre]; exact S.nd.sublist (List.take_sublist _ _)
    exact ⟨u, rv, .inl ⟨S.par y (List.mem_of_getElem? hp), lookup_zip ndP hp hu (by rw [← r.length, hl])⟩⟩
  · rw [(lk h).2]
    exact ⟨v0, oc, hk _ _ ((e0.bs _ _ bcc).1), dcc⟩
  · rw [(lk h).2]
    exact (e0.bs _ _ bcc).2
  · unfold L2.start
    show _ = N.length
    rw [List.length_append, List.length_map, List.length_replicate]
    omega

/-! ### judgements at the def's own code -/
structure PEA (X : Cx) (b0 : List Stmt) (e : Expr) (t : TE) : Prop where
  run : ∀ (pins : List (Addr × Obj)) (s : Shared) (σ : St) (H : Hp) (Q : VK), Inv X pins σ H s → t σ H Q → _root_.PySem.wpAt (model X.prog X.w) X.A (.func b0 X.env) (eval e X.env) (EP X pins σ Q) X.xe s
structure PSA (X : Cx) (b0 : List Stmt) (st : Stmt) (t : TS) : Prop where
  run : ∀ (pins : List (Addr × Obj)) (s : Shared) (σ : St) (H : Hp) (D : Ends), Inv X pins σ H s → t D σ H → _root_.PySem.wpAt (model X.prog X.w) X.A (.func b0 X.env) (exec st X.env) (SP X pins D) X.xe s
structure PSsA (X : Cx) (b0 : List Stmt) (st : List Stmt) (t : TS) : Prop where
  run : ∀ (pins : List (Addr × Obj)) (s : Shared) (σ : St) (H : Hp) (D : Ends), Inv X pins σ H s → t D σ H → _root_.PySem.wpAt (model X.prog X.w) X.A (.func b0 X.env) (execs st X.env) (SP X pins D) X.xe s
section
variable {X : Cx} {b0 : List Stmt} {e : Expr} {st : Stmt} {rest : List Stmt} {pos : Pos} {te : TE} {t u : TS}
end

/-! ### super().m(e, ..) -/
/-- what of the program is asked -/
structure SupP (P : Program) (file : Str) : Prop where
  file : ((P.main.file : Str) == file) = true
  top : (P.main.scope.names.lookup ("super" : Str)).isSome = false
/-- the def that says it -/
structure SupF (X : Cx) (N0 : Str) (D : Addr) : Prop where
  ex : ∃ (f cda cc : Addr) (fd : FuncData) (oc ccl cl : Value) (od cdd cld : Option Addr) (osl ccs csl : Array (Option Value)) (ar : Arg) (vs : Array Value) (file : Str) (tf : Tok) (cdD : ClassData),
    X.env.func = some f ∧ X.env.code = .ref cda ∧ X.K.lookup f = some ⟨oc, od, .func fd, osl⟩ ∧ (fd.params.posonlyargs ++ fd.params.args).head? = some ar ∧ ar.arg = N0 ∧ X.K.lookup cda = some ⟨ccl, cdd, .fields vs, ccs⟩ ∧ vs[2]? = some (.str file tf) ∧ SupP X.prog file ∧
      X.env.cells.lookup ("__class__" : Str) = some cc ∧ X.K.lookup cc = some ⟨cl, cld, .cell (some (.ref D)), csl⟩ ∧ PySem.W.clsIn X.K D = some cdD
  ks : X.env.kindOf "super" = some .globalImplicit
  kc : X.env.kindOf "__class__" = some .free
  n0 : X.N[0]? = some N0
  ka : X.env.scope.names.lookup N0 = some .local
  mg : X.mg "super" = none
  st : PySem.W.nsIn X.K cStatics "thirdparty.any" = some none
/-- what of the receiver's class -/
structure SupC (K : PySem.W.Frag) (C D : Addr) (m : Str) (g : Addr) : Prop where
  at_ : PySem.W.ks_superIn K C D m = some (some (.ref g))
  ty : PySem.W.typeIn K (.ref g) = some (.type "function")
  sub : PySem.W.mroIn K C (.ref D) = some true
  fi : PySem.W.fnIn K g = true
section
variable {X : Cx} {W : WX} {b0 : List Stmt} {e : Expr} {es : List Expr} {t : TA} {p0 p1 apos pos : Pos} {D : Addr} {N0 m : Str} {pl : Sem Bool}
end

/-! ### in the layer's terms -/
section
variable (T : Tab) (X : Cx) (np : Nat → Bool) (b0 : List Stmt)
def QSsA (st : List Stmt) (f : S) : Prop := ∀ pn xe W, Takes (X.tr pn xe) W → PassesOwn (model X.prog X.w) X.A X.env xe → PSsA (X.tr pn xe) b0 st (trS X.K T np f W)
end
section
variable {T : Tab} {X : Cx} {np : Nat → Bool} {b0 : List Stmt} {pos : Pos} {e : Expr} {st : Stmt} {rest : List Stmt} {f : M EV} {p q : S}
end
structure SupOK (NG : Prop) (T : Tab) (X : Cx) (D : Addr) (m : Str) (mt : Nat → Option (M EV)) : Prop where
  of : ∀ t g, mt t = some g → ∃ f k, SupC X.K (T.cls t) D m f ∧ RG NG k X.A ∧ FnQ NG T X k f g
section
variable {T : Tab} {X : Cx} {b0 : List Stmt} {e : Expr} {es : List Expr} {p0 p1 apos pos : Pos} {D : Addr} {N0 m : Str} {pl : Sem Bool} {mt : Nat → Option (M EV)} {fs : M (List AV)}
end

/-! ### the promise of such a def -/
section
variable {P : Program} {w : World} {K : PySem.W.Frag} {mg : Str → Option Value} {base : Heap} {T : Tab}
/-- a def that closes over __class__ (the class at D), without defaults -/
structure FxS (P : Program) (K : PySem.W.Frag) (x qual : Str) (st : Stmt) (f D : Addr) : Prop where
  ex : ∃ (oc : Value) (od : Option Addr) (dV kV doc pm : Value) (an : Option Addr) (cda cc : Addr) (ct : Value) (osl : Array (Option Value)) (ccl cl : Value) (cdd cld : Option Addr) (ccs csl : Array (Option Value)) (vs : Array Value) (file : Str) (tf : Tok) (cdD : ClassData),
    K.lookup f = some ⟨oc, od, .func (PySem.W.ksFn x qual (defArgs st) (defBody st) (defScope st) dV kV doc pm an (.ref cda) ct cc), osl⟩ ∧ PySem.W.codeIn K (.ref cda) qual = true ∧ K.lookup cda = some ⟨ccl, cdd, .fields vs, ccs⟩ ∧ vs[2]? = some (.str file tf) ∧ SupP P file ∧
      K.lookup cc = some ⟨cl, cld, .cell (some (.ref D)), csl⟩ ∧ PySem.W.clsIn K D = some cdD ∧ dV = .none
  kp : PySem.W.keepIn K (.ref f) = true
  st : PySem.W.nsIn K cStatics "thirdparty.any" = some none
theorem sp_bodyS {st : Stmt} {qual : Str} {f cc : Addr} {N ps : List Str} {body : S} {cdv : Value} {A : Around} {outer : List Env} {s : Shared} {H : Hp} {E : XK} {vs : List V} {Q : VK} (hpl : ps.length ≤ N.length)
    (q : QSsA T (cxS P w K mg base N qual (defScope st) f cdv cc A outer s H E) (lt ps.length) (defBody st) (defBody st) body) (hsp : spD K T (funD N.length ps.length body) vs H Q E) :
    ∃ t, PSsA (cxS P w K mg base N qual (defScope st) f cdv cc A outer s H E) (defBody st) (defBody st) t ∧ t { nx := fun _ H' => Q .non H', rt := Q } (L2.start N vs) H := by
  have q := q (cxS P w K mg base N qual (defScope st) f cdv cc A outer s H E).pn (cxS P w K mg base N qual (defScope st) f cdv cc A outer s H E).xe (fun c d _ H => E c d H) (takes_of rfl rfl rfl rfl) (passes_of rfl)
  refine ⟨_, q, ?_⟩
  obtain ⟨ex, args, g, r, e, o⟩ := hsp
  unfold funD at e
  by_cases hl : args.length = ps.length
  · rw [if_pos hl] at e
    refine ⟨ex, _, start_good hl hpl g, ?_⟩
    cases w : body (args ++ List.replicate (N.length - ps.length) .emp) with
    | none => rw [w] at e; cases e
    | some rb =>
      rw [w] at e
      refine ⟨rb, rfl, ?_⟩
      cases rb with
      | bk _ => cases e
      | ct _ => cases e
      | nx e1 =>
        cases e
        intro σ' H' s
        obtain ⟨s', _, _⟩ := end_step hl hpl g s
        exact o .non H' s' rfl
      | rt v e1 =>
        cases e
        intro u σ' H' s rr
        obtain ⟨s', exb, gm⟩ := end_step hl hpl g s
        refine o u H' s' ?_
        cases v with
        | v d => exact Rep.mono (fun a o n e => ⟨fun z => n (exb a z), e⟩) rr
        | o c =>
          obtain ⟨a, ev, na, no, hn, ro, gx⟩ := rr
          refine ⟨a, ev, ?_, ro.mono rfl fun b o n e => ⟨fun z => n (z.imp (exb b) id), e⟩, gm a gx⟩
          rcases hn with ⟨j, c', hj, e1, _⟩ | hn
          · rcases app_get e1 with ⟨h1, _⟩ | ⟨_, h⟩
            · have := of_decide_eq_false hj; omega
            · cases h
          · exact hn
      | exc x e1 =>
        cases e
        intro cls dd σ' H' s rx
        obtain ⟨s', exb, _⟩ := end_step hl hpl g s
        refine o cls dd H' s' ⟨rx.1, rx.2.imp id ?_⟩
        rintro ⟨a, ws, e1, e2, l, r⟩
        exact ⟨a, ws, e1, e2, l, r.mono fun a o n e => ⟨fun z => n (exb a z), e⟩⟩
  · rw [if_neg hl] at e; cases e
theorem run_sup {x qual : Str} {st : Stmt} {f cc cda : Addr} {N ps : List Str} {k : Nat} {body : S} {oc dV kV doc pm ct : Value} {od an : Option Addr} {osl : Array (Option Value)} {cob : Obj} {v0 : Option Value}
    (lf : K.lookup f = some ⟨oc, od, .func (PySem.W.ksFn x qual (defArgs st) (defBody st) (defScope st) dV kV doc pm an (.ref cda) ct cc), osl⟩) (hcd : PySem.W.codeIn K (.ref cda) qual = true) (lcc : K.lookup cc = some cob) (dcc : cob.data = .cell v0) (Sc : SScope N ps (defScope st))
    {A : Around} {outer : List Env} {s : Shared} {H : Hp} {args : Args} {us : List Value} {vs : List V} {Q : VK} {E : XK} (hr : RG NG (k + 1) A) (e0 : Env0 P w K mg base A outer s H)
    (hb2 : BindsTo s (PySem.W.ksFn x qual (defArgs st) (defBody st) (defScope st) dV kV doc pm an (.ref cda) ct cc) args (ps.zip us)) (r : Vals vs us) (hsp : spD K T (funD N.length ps.length body) vs H Q E)
    (hb : RG NG k (A.deeper (PySem.W.ksEnv qual (defScope st) s.heap.objs.size f (.ref cda) cc)) → QSsA T (cxS P w K mg base N qual (defScope st) f (.ref cda) cc A outer s H E) (lt ps.length) (defBody st) (defBody st) body) :
    codeAny (model P w) A (.call (.ref f) args) (CR (L2N.CX P w) outer P w H s Q E) s := by
  have hpl : ps.length ≤ N.length := by have := congrArg List.length Sc.pre; rw [List.length_take] at this; omega
  have hl : vs.length = ps.length := fun_len hsp
  have KX : K.In s.heap := e0.mod.kin.keeps fun b o e => (e0.bs b o e).1
  have lim : s.heap.NoLimit := e0.mod.nolimit.keeps fun b o e => (e0.bs b o e).1
  refine ks_codeAny_call_defAt (fd := PySem.W.ksFn x qual (defArgs st) (defBody st) (defScope st) dV kV doc pm an (.ref cda) ct cc) (body := defBody st) (binds := ps.zip us) hr.r.depth (KX _ _ lf) rfl lim (PySem.W.codeRec_of KX hcd) rfl hb2 Sc.nocell (fun y hy => Sc.par _ (List.of_mem_zip hy).1) (fun h₁ hns hk₁ => ?_) Sc.co Sc.gen Sc.kind
  obtain ⟨t, ht, hq⟩ := sp_bodyS hpl (hb (hr.deeper _)) hsp
  have I : Inv (cxS P w K mg base N qual (defScope st) f (.ref cda) cc A outer s H E) [] (L2.start N vs) H { s with heap := h₁, toks := s.toks + (ps.zip us).length } := inv_startS Sc hr.r.hd e0 hl r lcc dcc hns hk₁
  refine ks_wpAt_mono (ht.run [] _ (L2.start N vs) H _ I hq) (fun fl s' hs => ?_) fun e s' hs => hs
  have fin : ∀ {σ' : St} {H' : Hp} {v : V} {u : Value}, Inv (cxS P w K mg base N qual (defScope st) f (.ref cda) cc A outer s H E) [] σ' H' s' → RelV v u → Q v H' → CE outer P w H s Q u s' :=
    fun {σ' H' v u} J rv q => ⟨v, H', J.os, J.bare, J.base, J.hok, rv, q⟩
  cases fl with
  | ret u =>
    obtain ⟨v, σ', H', J, rv, q⟩ := hs
    exact fin J rv q
  | next =>
    obtain ⟨σ', H', J, q⟩ := hs
    exact fin (v := V.non) (u := Value.none) J rfl q
  | brk =>
    obtain ⟨_, _, _, q⟩ := hs
    exact False.elim q
  | cont =>
    obtain ⟨_, _, _, q⟩ := hs
    exact False.elim q
theorem FxS.q {x qual : Str} {st : Stmt} {f D : Addr} {N ps : List Str} {k : Nat} {body : S} {N0 : Str} (F : FxS P K x qual st f D) (Sc : SScope N ps (defScope st)) (hmg : mg "super" = none)
    (h0 : ((defArgs st).posonlyargs ++ (defArgs st).args).head?.map (·.arg) = some N0) (hN0 : N[0]? = some N0) (hl0 : (defScope st).names.lookup N0 = some .local)
    (bd : ∀ (kV doc pm : Value) (an : Option Addr) (cdv ct : Value) (cc : Addr) (us : List Value), us.length = ps.length → bindArgs (PySem.W.ksFn x qual (defArgs st) (defBody st) (defScope st) .none kV doc pm an cdv ct cc) ⟨us, []⟩ = pure (ps.zip us))
    (hb : ∀ (cda cc : Addr) (A : Around) (outer : List Env) (s : Shared) (H : Hp) (E : XK), RG NG k (A.deeper (PySem.W.ksEnv qual (defScope st) s.heap.objs.size f (.ref cda) cc)) → SupF (cxS P w K mg base N qual (defScope st) f (.ref cda) cc A outer s H E) N0 D →
      QSsA T (cxS P w K mg base N qual (defScope st) f (.ref cda) cc A outer s H E) (lt ps.length) (defBody st) (defBody st) body) :
    FnG NG P w K mg base (k + 1) f (spD K T (funD N.length ps.length body)) := by
  obtain ⟨oc, od, dV, kV, doc, pm, an, cda, cc, ct, osl, ccl, cl, cdd, cld, ccs, csl, vs0, file, tf, cdD, lf, hcd, lcd, hvs, hP, lcc, hD, rfl⟩ := F.ex
  intro A outer s H us vs Q E hr e0 r hsp
  have hl : vs.length = ps.length := fun_len hsp
  obtain ⟨ar, ha1, ha2⟩ := Option.map_eq_some_iff.mp h0
  refine run_sup lf hcd lcc rfl Sc hr e0 (.of_eq (bd kV doc pm an _ ct cc us (by rw [← r.length]; exact hl))) r hsp fun hr' => ?_
  refine hb cda cc A outer s H E hr' ⟨⟨f, cda, cc, _, oc, ccl, cl, od, cdd, cld, osl, ccs, csl, ar, vs0, file, tf, cdD, rfl, rfl, lf, ha1, ha2, lcd, hvs, hP, rfl, lcc, hD⟩, Sc.sup, Sc.cls, hN0, hl0, hmg, F.st⟩
end
end Dt
end
section
set_option maxRecDepth 100000
set_option maxHeartbeats 4000000
/-! RT0: f(.., **more): the keywords out of a dict (empty, or one entry). -/
namespace Dt
open PySem PySem.Spec
open L2 hiding passL ps_try_many HdsOk takes0 XE Takes CX takes_of passes_call PMk MkP ps_raise mk_of ps_try_as pmk_own
open L2N hiding St
open PyProof.Rows hiding St
section
variable {M : Model} {A : Around} {E : Value → Shared → Prop} {h : Heap} {g : Array GenState} {dr : Drawn} {t : Nat} {os : OsState}
end
end Dt
end
section
set_option maxRecDepth 100000
set_option maxHeartbeats 4000000
/-! RT: methods with defaults and **more that say super(); calls of classes with keywords. -/
namespace Dt
open PySem PySem.Spec
open L2 hiding passL ps_try_many HdsOk takes0 XE Takes CX takes_of passes_call PMk MkP ps_raise mk_of ps_try_as pmk_own
open L2N hiding St
open PyProof.Rows hiding St
open ClX (base_none met_new callwith_cm pin_at unpin)
variable {NG : Prop}
/-- the context of such a body; what stands at pn stays -/
abbrev cxP (pn : List (Addr × Obj)) (P : Program) (w : World) (K : PySem.W.Frag) (mg : Str → Option Value) (base : Heap) (N : List Str) (qual : Str) (scope : Scope) (f : Addr) (cd : Value) (cc : Addr) (A : Around) (outer : List Env) (s : Shared) (H : Hp) (E : XK) : Cx :=
  (cxS P w K mg base N qual scope f cd cc A outer s H E).tr pn (cxS P w K mg base N qual scope f cd cc A outer s H E).xe
/-! ### judgements at the def's entry -/
structure PEK (X : Cx) (b0 : List Stmt) (σ : L2.St) (e : Expr) (t : TE) : Prop where
  run : ∀ (pins : List (Addr × Obj)) (s : Shared) (H : Hp) (Q : VK), Inv X pins σ H s → t σ H Q → _root_.PySem.wpAt (model X.prog X.w) X.A (.func b0 X.env) (eval e X.env) (EP X pins σ Q) X.xe s
structure PSK (X : Cx) (b0 : List Stmt) (σ : L2.St) (st : Stmt) (t : TS) : Prop where
  run : ∀ (pins : List (Addr × Obj)) (s : Shared) (H : Hp) (D : Ends), Inv X pins σ H s → t D σ H → _root_.PySem.wpAt (model X.prog X.w) X.A (.func b0 X.env) (exec st X.env) (SP X pins D) X.xe s
structure PSsK (X : Cx) (b0 : List Stmt) (σ : L2.St) (st : List Stmt) (t : TS) : Prop where
  run : ∀ (pins : List (Addr × Obj)) (s : Shared) (H : Hp) (D : Ends), Inv X pins σ H s → t D σ H → _root_.PySem.wpAt (model X.prog X.w) X.A (.func b0 X.env) (execs st X.env) (SP X pins D) X.xe s
section
variable (T : Tab) (X : Cx) (np : Nat → Bool) (b0 : List Stmt) (σ : L2.St)
def QSsK (st : List Stmt) (f : S) : Prop := ∀ xe W, Takes (X.tr X.pn xe) W → PassesOwn (model X.prog X.w) X.A X.env xe → PSsK (X.tr X.pn xe) b0 σ st (trS X.K T np f W)
end
section
variable {T : Tab} {X : Cx} {np : Nat → Bool} {b0 : List Stmt} {σ0 : L2.St} {pos : Pos} {e : Expr} {st : Stmt} {rest : List Stmt} {f : M EV} {p q : S}
end
/-! ### super().m(e, .., **more), more an empty dict -/
structure MoreF (X : Cx) (σ0 : L2.St) (i : Nat) (x : Str) : Prop where
  ex : ∃ (a : Addr) (oa : Obj) (ea : Nat), σ0[i]? = some (some (.ref a)) ∧ (a, oa) ∈ X.pn ∧ oa.cls = .type "dict" ∧ oa.data = .dict #[] ea ∧ a ≠ sysModules
  n : X.N[i]? = some x
  l : X.env.scope.names.lookup x = some .local
section
variable {T : Tab} {X : Cx} {b0 : List Stmt} {σ0 : L2.St} {e : Expr} {es : List Expr} {p0 p1 p2 apos kpos pos : Pos} {D : Addr} {N0 m xm : Str} {i : Nat} {pl : Sem Bool} {mt : Nat → Option (M EV)} {fs : M (List AV)}
end
end Dt
end
section
set_option maxRecDepth 100000
set_option maxHeartbeats 4000000
/-! RU: defs with defaults and **more, their promise by the arguments that are written; calls of classes with keywords. -/
namespace Dt
open PySem PySem.Spec
open L2 hiding passL ps_try_many HdsOk takes0 XE Takes CX takes_of passes_call PMk MkP ps_raise mk_of ps_try_as pmk_own
open L2N hiding St
open PyProof.Rows hiding St
variable {NG : Prop}
/-- where a parameter behind self comes from: an argument that is written, a default, **more (empty) -/
inductive PSrc where
  | arg (i : Nat) | dfl (d : D) | emp
def srcS (r : Sl) : PSrc → Option Slot
  | .arg i => r[i]?
  | .dfl d => some (.val d)
  | .emp => some .emp
def fullS (r : Sl) : List PSrc → Option Sl
  | [] => some []
  | p :: ps => (srcS r p).bind fun s => (fullS r ps).map (s :: ·)
def noOwn : Sl → Bool
  | [] => true
  | .own _ :: _ => false
  | _ :: r => noOwn r
def valD : D → V
  | .bl b => .bl b
  | .int i => .int i
  | .str s => .str (mkS s)
  | _ => .non
def scaD : D → Bool
  | .non => true
  | .bl _ => true
  | .int _ => true
  | .str _ => true
  | _ => false
def scaP : List PSrc → Bool
  | [] => true
  | .dfl d :: r => scaD d && scaP r
  | _ :: r => scaP r
def srcV (vs : List V) (am : V) : PSrc → V
  | .arg i => vs.getD i .non
  | .dfl d => valD d
  | .emp => am
def funX (N m : Nat) (fl : List PSrc) (body : S) : M EV := fun args => match args with
  | [] => none
  | s0 :: r => if r.length = m ∧ noOwn r = true then (fullS r fl).bind fun sl => match funD N (fl.length + 1) body (s0 :: sl) with
      | some (.ok ev (o0 :: _)) => some (.ok ev (o0 :: r))
      | some (.exc x (o0 :: _)) => some (.exc x (o0 :: r))
      | _ => none
    else none
theorem noOwn_get : ∀ {r : Sl} {i : Nat} {c : OC}, noOwn r = true → r[i]? ≠ some (.own c)
  | [], i, c, _, h => by simp at h
  | s :: r, 0, c, n, h => by
    simp at h
    subst h
    cases n
  | s :: r, i + 1, c, n, h => by
    have n' : noOwn r = true := by cases s <;> first | exact n | cases n
    exact noOwn_get n' (by simpa using h)
theorem noOwn_of : ∀ {r : Sl}, (∀ (i : Nat) (c : OC), r[i]? ≠ some (Slot.own c)) → noOwn r = true
  | [], _ => rfl
  | s :: r, h => by
    have t := noOwn_of (r := r) fun i c e => h (i + 1) c (by simpa using e)
    cases s with
    | own c => exact absurd rfl (h 0 c)
    | _ => exact t
section
variable {K : PySem.W.Frag} {T : Tab} {ex : Addr → Prop} {v0 : Option V} {σ1 σ2 : L2.St} {H H' : Hp} {s0 o0 : Slot} {r1 r2 o2 : Sl}
theorem ownsX (n1 : noOwn r1 = true) {a : Addr} : Owns (v0 :: σ1) (s0 :: r1) a ↔ (∃ c, s0 = .own c) ∧ v0 = some (V.ref a) := by
  constructor
  · rintro ⟨i, c, e1, e2⟩
    cases i with
    | zero => simp at e1 e2; exact ⟨⟨c, e1⟩, e2⟩
    | succ i => exact absurd (by simpa using e1) (noOwn_get (i := i) (c := c) n1)
  · rintro ⟨⟨c, e1⟩, e2⟩
    exact ⟨0, c, by simp [e1], by simp [e2]⟩
theorem exOX (n1 : noOwn r1 = true) (n2 : noOwn r2 = true) : exO ex (v0 :: σ1) (s0 :: r1) = exO ex (v0 :: σ2) (s0 :: r2) :=
  funext fun a => propext (or_congr Iff.rfl ((ownsX n1).trans (ownsX n2).symm))
theorem goodX (g : Good K T ex (v0 :: σ1) H (s0 :: r1)) (n1 : noOwn r1 = true) (n2 : noOwn r2 = true) (hl : r2.length = σ2.length)
    (hv : ∀ (i : Nat) (d : D), r2[i]? = some (.val d) → ∃ v, σ2[i]? = some (some v) ∧ Rep K T (exO ex (v0 :: σ1) (s0 :: r1)) H d v) : Good K T ex (v0 :: σ2) H (s0 :: r2) := by
  have eo := exOX (ex := ex) (v0 := v0) (σ1 := σ1) (σ2 := σ2) (s0 := s0) n1 n2
  refine ⟨by simp [hl], fun i d e => ?_, fun i c e => ?_, fun i j a c c' e1 e2 _ _ => ?_, g.dom, g.tb⟩
  · cases i with
    | zero =>
      obtain ⟨v, q1, q2⟩ := g.val 0 d (by simpa using e)
      exact ⟨v, by simpa using q1, by rw [← eo]; exact q2⟩
    | succ i =>
      obtain ⟨v, q1, q2⟩ := hv i d (by simpa using e)
      exact ⟨v, by simpa using q1, by rw [← eo]; exact q2⟩
  · cases i with
    | zero =>
      obtain ⟨a, q1, q2, q3⟩ := g.own 0 c (by simpa using e)
      exact ⟨a, by simpa using q1, q2, by rw [← eo]; exact q3⟩
    | succ i => exact absurd (by simpa using e) (noOwn_get (i := i) (c := c) n2)
  · cases i with
    | zero => cases j with
      | zero => rfl
      | succ j => exact absurd (by simpa using e2) (noOwn_get (i := j) (c := c') n2)
    | succ i => exact absurd (by simpa using e1) (noOwn_get (i := i) (c := c) n2)
/-- back: the slots behind the first are as they were -/
theorem stepX (g0 : Good K T ex (v0 :: σ1) H (s0 :: r1)) (n1 : noOwn r1 = true) (n2 : noOwn r2 = true) (s : Step K T ex (v0 :: σ2) H (s0 :: r2) H' (o0 :: o2)) :
    Step K T ex (v0 :: σ1) H (s0 :: r1) H' (o0 :: r1) ∧ exO ex (v0 :: σ1) (o0 :: r1) = exO ex (v0 :: σ2) (o0 :: o2) ∧ ∀ x, H x = none → Good K T (fun b => ex b ∨ b = x) (v0 :: σ2) H' (o0 :: o2) → Good K T (fun b => ex b ∨ b = x) (v0 :: σ1) H' (o0 :: r1) := by
  have m2 : noOwn o2 = true := noOwn_of fun i c e => by
    obtain ⟨c', e'⟩ := s.sb (i + 1) c (by simpa using e)
    exact noOwn_get (i := i) (c := c') n2 (by simpa using e')
  have hl : r1.length = σ1.length := by have := g0.len; simpa using this
  have eo := exOX (ex := ex) (v0 := v0) (σ1 := σ1) (σ2 := σ2) (s0 := s0) n1 n2
  have eo' := exOX (ex := ex) (v0 := v0) (σ1 := σ1) (σ2 := σ2) (s0 := o0) n1 m2
  have gen : ∀ P : Addr → Prop, (∀ x, P x → H x = none) → Good K T (fun b => ex b ∨ P b) (v0 :: σ2) H' (o0 :: o2) → Good K T (fun b => ex b ∨ P b) (v0 :: σ1) H' (o0 :: r1) := fun P hP gd => by
    refine goodX gd m2 n1 hl fun i d e => ?_
    obtain ⟨v, q1, q2⟩ := g0.val (i + 1) d (by simpa using e)
    refine ⟨v, by simpa using q1, q2.monoT fun a o n q => ⟨fun z => ?_, s.fr a o q fun z => n (by rw [eo]; exact .inr z)⟩⟩
    have z' : exO ex (v0 :: σ2) (o0 :: o2) a ∨ P a := by
      rcases z with (z | z) | z
      · exact .inl (.inl z)
      · exact .inr z
      · exact .inl (.inr z)
    rcases z' with z | z
    · exact n (by rw [eo]; exact s.exO z)
    · rw [hP a z] at q; cases q
  have e0 : (fun b => ex b ∨ (fun _ : Addr => False) b) = ex := funext fun b => propext ⟨fun h => h.elim id False.elim, .inl⟩
  refine ⟨⟨fun b o q n => s.fr b o q fun z => n ((ownsX n1).mpr ((ownsX n2).mp z)), s.dm, fun i c e => ?_, ?_⟩, eo', fun x hx gx => gen (fun b => b = x) (fun y z => by rw [z]; exact hx) gx⟩
  · cases i with
    | zero =>
      obtain ⟨c', e'⟩ := s.sb 0 c (by simpa using e)
      exact ⟨c', by simpa using e'⟩
    | succ i => exact absurd (by simpa using e) (noOwn_get (i := i) (c := c) n1)
  · have q := gen (fun _ => False) (fun _ z => z.elim) (by rw [e0]; exact s.gd)
    rw [e0] at q
    exact q
theorem valD_rep {d : D} (h : scaD d = true) : Rep K T ex H d (valD d) := by
  cases d <;> first | rfl | cases h
theorem fullS_ok {vs : List V} {am : V} : ∀ {fl : List PSrc} {sl : Sl}, fullS r1 fl = some sl → noOwn r1 = true → scaP fl = true → r1.length = vs.length → (∀ (i : Nat) (d : D), r1[i]? = some (.val d) → ∃ v, vs[i]? = some v ∧ Rep K T ex H d v) →
    sl.length = fl.length ∧ noOwn sl = true ∧ ∀ (i : Nat) (d : D), sl[i]? = some (.val d) → ∃ v, (fl.map (srcV vs am))[i]? = some v ∧ Rep K T ex H d v
  | [], sl, e, _, _, _, _ => by cases e; exact ⟨rfl, rfl, fun i d e => by simp at e⟩
  | p :: fl, sl, e, n, sc, hl, hv => by
    obtain ⟨s, e1, e2⟩ := opt_bind e
    obtain ⟨t, e3, e4⟩ := Option.map_eq_some_iff.mp e2
    subst e4
    have sc' : scaP fl = true := by cases p <;> first | exact sc | exact (Bool.and_eq_true_iff.mp sc).2
    obtain ⟨h1, h2, h3⟩ := fullS_ok e3 n sc' hl hv
    refine ⟨by simp [h1], ?_, fun i d e => ?_⟩
    · cases s with
      | own c =>
        cases p with
        | arg i => exact absurd e1 (noOwn_get n)
        | dfl d => cases e1
        | emp => cases e1
      | _ => exact h2
    · cases i with
      | succ i => simpa using h3 i d (by simpa using e)
      | zero =>
        simp at e
        subst e
        cases p with
        | arg i =>
          obtain ⟨v, q1, q2⟩ := hv i d e1
          exact ⟨v, by simp [srcV, List.getD_eq_getElem?_getD, q1], q2⟩
        | dfl d' =>
          cases e1
          exact ⟨_, rfl, valD_rep (Bool.and_eq_true_iff.mp sc).1⟩
        | emp => cases e1
theorem spX {N m : Nat} {fl : List PSrc} {body : S} {w0 : V} {vs : List V} {am : V} {Q : VK} {E : XK} (sc : scaP fl = true) (h : spD K T (funX N m fl body) (w0 :: vs) H Q E) : vs.length = m ∧ spD K T (funD N (fl.length + 1) body) (w0 :: fl.map (srcV vs am)) H Q E := by
  obtain ⟨ex, env, g, r, e, o⟩ := h
  unfold funX at e
  cases env with
  | nil => cases e
  | cons s0 r1 =>
    dsimp only at e
    by_cases hc : r1.length = m ∧ noOwn r1 = true
    · rw [if_pos hc] at e
      obtain ⟨sl, e1, e⟩ := opt_bind e
      have gl : r1.length = vs.length := by have := g.len; simpa using this
      have g' : Good K T ex (some w0 :: vs.map some) H (s0 :: r1) := g
      obtain ⟨h1, h2, h3⟩ := fullS_ok (K := K) (T := T) (ex := exO ex (some w0 :: vs.map some) (s0 :: r1)) (H := H) (vs := vs) (am := am) e1 hc.2 sc gl fun i d q => by
        obtain ⟨v, q1, q2⟩ := g'.val (i + 1) d (by simpa using q)
        have q1 : (vs.map some)[i]? = some (some v) := by simpa using q1
        rw [List.getElem?_map] at q1
        obtain ⟨v', z1, z2⟩ := Option.map_eq_some_iff.mp q1
        cases z2
        exact ⟨v, z1, q2⟩
      have g2 : Good K T ex (some w0 :: (fl.map (srcV vs am)).map some) H (s0 :: sl) := goodX g' hc.2 h2 (by simp [h1]) fun i d q => by
        obtain ⟨v, z1, z2⟩ := h3 i d q
        exact ⟨v, by rw [List.getElem?_map, z1]; rfl, z2⟩
      refine ⟨gl.symm.trans hc.1, ex, s0 :: sl, g2, ?_⟩
      cases q : funD N (fl.length + 1) body (s0 :: sl) with
      | none => rw [q] at e; cases e
      | some rr =>
        rw [q] at e
        refine ⟨rr, rfl, ?_⟩
        cases rr with
        | exc x o' =>
          cases o' with
          | nil => cases e
          | cons o0 o2 =>
            cases e
            intro cls dd H' s rx
            obtain ⟨s', eo, _⟩ := stepX g' hc.2 h2 s
            refine o cls dd H' s' ⟨rx.1, rx.2.imp id ?_⟩
            rintro ⟨b, ws, z1, z2, z3, z4⟩
            exact ⟨b, ws, z1, z2, z3, by rw [show exO ex (List.map some (w0 :: vs)) (o0 :: r1) = exO ex (some w0 :: (fl.map (srcV vs am)).map some) (o0 :: o2) from eo]; exact z4⟩
        | ok ev o' =>
          cases o' with
          | nil => cases e
          | cons o0 o2 =>
            cases e
            intro u H' s ru
            obtain ⟨s', eo, gm⟩ := stepX g' hc.2 h2 s
            have eo' : exO ex (List.map some (w0 :: vs)) (o0 :: r1) = exO ex (some w0 :: (fl.map (srcV vs am)).map some) (o0 :: o2) := eo
            refine o u H' s' ?_
            cases ev with
            | v d => show Rep K T _ H' d u; rw [eo']; exact ru
            | o c =>
              obtain ⟨b, z1, z2, z3, z4⟩ := ru
              exact ⟨b, z1, z2, by rw [eo']; exact z3, gm b z2 z4⟩
    · rw [if_neg hc] at e; cases e
end
end Dt
end
section
set_option maxRecDepth 100000
set_option maxHeartbeats 4000000
/-! RV: the promise of a def with defaults and **more; a class called with keywords. -/
namespace Dt
open PySem PySem.Spec
open L2 hiding passL ps_try_many HdsOk takes0 XE Takes CX takes_of passes_call PMk MkP ps_raise mk_of ps_try_as pmk_own
open L2N hiding St
open PyProof.Rows hiding St
variable {NG : Prop}
section
variable {P : Program} {w : World} {K : PySem.W.Frag} {mg : Str → Option Value} {base : Heap} {T : Tab}
theorem env0_kept {A : Around} {outer : List Env} {s s2 : Shared} {H : Hp} (e0 : Env0 P w K mg base A outer s H) (kp : ∀ b x, s.heap.get? b = some x → s2.heap.get? b = some x) (hz : s.heap.objs.size ≤ s2.heap.objs.size) (hg : s2.gens = s.gens) : Env0 P w K mg base A outer s2 H :=
  ⟨e0.frames, e0.mod, fun b x e => ⟨kp b x (e0.bs b x e).1, (e0.bs b x e).2⟩, Nat.le_trans e0.bsz hz, Heap.FunFrames.of_keeps (fun b x e _ => ⟨x, kp b x e, rfl⟩) e0.funs, e0.frf, e0.hok.kept kp, by rw [hg]; exact e0.bare⟩
/-- a call by positional values and keywords (n, ks): the values in the order that they are written -/
def FnK (NG : Prop) (P : Program) (w : World) (K : PySem.W.Frag) (mg : Str → Option Value) (base : Heap) (k : Nat) (f : Addr) (n : Nat) (ks : List Str) (sp : Sp) : Prop :=
  ∀ (A : Around) (outer : List Env) (s : Shared) (H : Hp) (us ws : List Value) (vs zs : List V) (Q : VK) (E : XK), RG NG k A → Env0 P w K mg base A outer s H → Vals vs us → Vals zs ws → us.length = n → ws.length = ks.length → sp (vs ++ zs) H Q E →
    codeAny (model P w) A (.call (.ref f) ⟨us, ks.zip ws⟩) (CR (L2N.CX P w) outer P w H s Q E) s
theorem sp_bodyK {st : Stmt} {qual : Str} {f cc : Addr} {N ps : List Str} {body : S} {cdv : Value} {A : Around} {outer : List Env} {s : Shared} {H : Hp} {E : XK} {vs : List V} {Q : VK} {pn : List (Addr × Obj)} (hpl : ps.length ≤ N.length)
    (q : QSsK T (cxP pn P w K mg base N qual (defScope st) f cdv cc A outer s H E) (lt ps.length) (defBody st) (L2.start N vs) (defBody st) body) (hsp : spD K T (funD N.length ps.length body) vs H Q E) :
    ∃ t, PSsK (cxP pn P w K mg base N qual (defScope st) f cdv cc A outer s H E) (defBody st) (L2.start N vs) (defBody st) t ∧ t { nx := fun _ H' => Q .non H', rt := Q } (L2.start N vs) H := by
  have q := q (cxP pn P w K mg base N qual (defScope st) f cdv cc A outer s H E).xe (fun c d _ H => E c d H) (takes_of rfl rfl rfl rfl) (passes_of rfl)
  refine ⟨_, q, ?_⟩
  obtain ⟨ex, args, g, r, e, o⟩ := hsp
  unfold funD at e
  by_cases hl : args.length = ps.length
  · rw [if_pos hl] at e
    refine ⟨ex, _, start_good hl hpl g, ?_⟩
    cases w : body (args ++ List.replicate (N.length - ps.length) .emp) with
    | none => rw [w] at e; cases e
    | some rb =>
      rw [w] at e
      refine ⟨rb, rfl, ?_⟩
      cases rb with
      | bk _ => cases e
      | ct _ => cases e
      | nx e1 =>
        cases e
        intro σ' H' s
        obtain ⟨s', _, _⟩ := end_step hl hpl g s
        exact o .non H' s' rfl
      | rt v e1 =>
        cases e
        intro u σ' H' s rr
        obtain ⟨s', exb, gm⟩ := end_step hl hpl g s
        refine o u H' s' ?_
        cases v with
        | v d => exact Rep.mono (fun a o n e => ⟨fun z => n (exb a z), e⟩) rr
        | o c =>
          obtain ⟨a, ev, na, no, hn, ro, gx⟩ := rr
          refine ⟨a, ev, ?_, ro.mono rfl fun b o n e => ⟨fun z => n (z.imp (exb b) id), e⟩, gm a gx⟩
          rcases hn with ⟨j, c', hj, e1, _⟩ | hn
          · rcases app_get e1 with ⟨h1, _⟩ | ⟨_, h⟩
            · have := of_decide_eq_false hj; omega
            · cases h
          · exact hn
      | exc x e1 =>
        cases e
        intro cls dd σ' H' s rx
        obtain ⟨s', exb, _⟩ := end_step hl hpl g s
        refine o cls dd H' s' ⟨rx.1, rx.2.imp id ?_⟩
        rintro ⟨a, ws, e1, e2, l, r⟩
        exact ⟨a, ws, e1, e2, l, r.mono fun a o n e => ⟨fun z => n (exb a z), e⟩⟩
  · rw [if_neg hl] at e; cases e
theorem run_supB {x qual : Str} {st : Stmt} {f cc cda : Addr} {N ps : List Str} {k : Nat} {body : S} {oc dV kV doc pm ct : Value} {od an : Option Addr} {osl : Array (Option Value)} {cob : Obj} {v0 : Option Value} {pn : List (Addr × Obj)}
    (lf : K.lookup f = some ⟨oc, od, .func (PySem.W.ksFn x qual (defArgs st) (defBody st) (defScope st) dV kV doc pm an (.ref cda) ct cc), osl⟩) (hcd : PySem.W.codeIn K (.ref cda) qual = true) (lcc : K.lookup cc = some cob) (dcc : cob.data = .cell v0) (Sc : SScope N ps (defScope st))
    {A : Around} {outer : List Env} {s s2 : Shared} {H : Hp} {args : Args} {us : List Value} {vs : List V} {Q : VK} {E : XK} (hr : RG NG (k + 1) A) (e0 : Env0 P w K mg base A outer s H)
    (kp : ∀ b o, s.heap.get? b = some o → s2.heap.get? b = some o) (hz : s.heap.objs.size ≤ s2.heap.objs.size) (hg : s2.gens = s.gens) (hos : s2.os = s.os)
    (hb2 : ∀ {Q' : List (Str × Value) → Shared → Prop} {E' : Value → Shared → Prop}, Q' (ps.zip us) s2 → wpAny (model P w) A.in1 (bindArgs (PySem.W.ksFn x qual (defArgs st) (defBody st) (defScope st) dV kV doc pm an (.ref cda) ct cc) args) Q' E' s)
    (r : Vals vs us) (hsp : spD K T (funD N.length ps.length body) vs H Q E)
    (hpn : ∀ p ∈ pn, s2.heap.get? p.1 = some p.2 ∧ H p.1 = none ∧ p.1 ∉ frs outer ∧ ∀ v, p.2.data ≠ .cell v)
    (hb : RG NG k (A.deeper (PySem.W.ksEnv qual (defScope st) s2.heap.objs.size f (.ref cda) cc)) → QSsK T (cxP pn P w K mg base N qual (defScope st) f (.ref cda) cc A outer s2 H E) (lt ps.length) (defBody st) (L2.start N vs) (defBody st) body) :
    codeAny (model P w) A (.call (.ref f) args) (CR (L2N.CX P w) outer P w H s Q E) s := by
  have hpl : ps.length ≤ N.length := by have := congrArg List.length Sc.pre; rw [List.length_take] at this; omega
  have hl : vs.length = ps.length := fun_len hsp
  have e2 : Env0 P w K mg base A outer s2 H := env0_kept e0 kp hz hg
  have KX : K.In s.heap := e0.mod.kin.keeps fun b o e => (e0.bs b o e).1
  have lim2 : s2.heap.NoLimit := e0.mod.nolimit.keeps fun b o e => (e2.bs b o e).1
  have un : Un (frs outer) [] H H s.heap s2.heap := Un.kept kp
  refine codeAny_call_function (fd := PySem.W.ksFn x qual (defArgs st) (defBody st) (defScope st) dV kV doc pm an (.ref cda) ct cc) (body := defBody st) hr.r.depth (KX _ _ lf) rfl Sc.co Sc.gen rfl (PySem.W.codeRec_of KX hcd) (hb2 ?_)
  refine wpAny_newFunctionEnv Sc.nocell (fun y hy => Sc.par _ (List.of_mem_zip hy).1) (fun h₁ hns hsb => ⟨lim2.fresh _ hsb, ks_codeAny_funcAt ?_⟩) Sc.kind
  have hk₁ : ∀ b o, s2.heap.get? b = some o → h₁.get? b = some o := fun b o e => hsb.extBut b o (Nat.ne_of_lt (Heap.lt_size e)) (Heap.get?_push_of_some _ e)
  obtain ⟨t, ht, hq⟩ := sp_bodyK hpl (hb (hr.deeper _)) hsp
  have I0 : Inv (cxS P w K mg base N qual (defScope st) f (.ref cda) cc A outer s2 H E) [] (L2.start N vs) H { s2 with heap := h₁, toks := s2.toks + (ps.zip us).length } := inv_startS Sc hr.r.hd e2 hl r lcc dcc hns hk₁
  have I1 : Inv (cxS P w K mg base N qual (defScope st) f (.ref cda) cc A outer s2 H E) pn (L2.start N vs) H { s2 with heap := h₁, toks := s2.toks + (ps.zip us).length } := I0.pins_of fun p hp => by
    obtain ⟨p1, p2, p3, p4⟩ := hpn p hp
    exact ⟨hk₁ _ _ p1, p2, Nat.ne_of_lt (Heap.lt_size p1), p3, p4⟩
  have I : Inv (cxP pn P w K mg base N qual (defScope st) f (.ref cda) cc A outer s2 H E) [] (L2.start N vs) H { s2 with heap := h₁, toks := s2.toks + (ps.zip us).length } := I1.toTry _
  refine ks_wpAt_mono (ht.run [] _ H _ I hq) (fun fl s' hs => ?_) fun e s' hs => ?_
  · have fin : ∀ {σ' : L2.St} {H' : Hp} {v : V} {u : Value}, Inv (cxP pn P w K mg base N qual (defScope st) f (.ref cda) cc A outer s2 H E) [] σ' H' s' → RelV v u → Q v H' → CE outer P w H s Q u s' :=
      fun {σ' H' v u} J rv q => ⟨v, H', J.os.trans hos, J.bare, un.trans J.base, J.hok, rv, q⟩
    cases fl with
    | ret u =>
      obtain ⟨v, σ', H', J, rv, q⟩ := hs
      exact fin J rv q
    | next =>
      obtain ⟨σ', H', J, q⟩ := hs
      exact fin (v := V.non) (u := Value.none) J rfl q
    | brk =>
      obtain ⟨_, _, _, q⟩ := hs
      exact False.elim q
    | cont =>
      obtain ⟨_, _, _, q⟩ := hs
      exact False.elim q
  · exact wpAny_mono hs (fun _ s'' z => cxUp (P := P) (w := w) outer s H s2 H E e s'' un kp hos z) fun e' s'' z => cxUp (P := P) (w := w) outer s H s2 H E e' s'' un kp hos z
/-- a def that closes over __class__ (the class at D), with defaults -/
structure FxK (P : Program) (K : PySem.W.Frag) (x qual : Str) (st : Stmt) (f D : Addr) (dvs : List V) : Prop where
  ex : ∃ (oc : Value) (od : Option Addr) (T : Addr) (kV doc pm : Value) (an : Option Addr) (cda cc : Addr) (ct : Value) (osl : Array (Option Value)) (ccl cl : Value) (cdd cld : Option Addr) (ccs csl : Array (Option Value)) (vs : Array Value) (file : Str) (tf : Tok) (cdD : ClassData) (oT : Obj) (its : Array Value) (n : Nat),
    K.lookup f = some ⟨oc, od, .func (PySem.W.ksFn x qual (defArgs st) (defBody st) (defScope st) (.ref T) kV doc pm an (.ref cda) ct cc), osl⟩ ∧ PySem.W.codeIn K (.ref cda) qual = true ∧ K.lookup cda = some ⟨ccl, cdd, .fields vs, ccs⟩ ∧ vs[2]? = some (.str file tf) ∧ SupP P file ∧
      K.lookup cc = some ⟨cl, cld, .cell (some (.ref D)), csl⟩ ∧ PySem.W.clsIn K D = some cdD ∧ K.lookup T = some oT ∧ oT.data = .seq its n ∧ Vals dvs its.toList
  kp : PySem.W.keepIn K (.ref f) = true
  st : PySem.W.nsIn K cStatics "thirdparty.any" = some none
/-- .. that takes **more, called so that nothing is left for it -/
theorem FxK.q {x qual : Str} {st : Stmt} {f D : Addr} {N ps : List Str} {k n m iM : Nat} {body : S} {N0 xm : Str} {dvs : List V} {ks : List Str} {fl : List PSrc} {g : List Value → List Value → List Value → List Value} (F : FxK P K x qual st f D dvs) (Sc : SScope N ps (defScope st)) (hmg : mg "super" = none)
    (h0 : ((defArgs st).posonlyargs ++ (defArgs st).args).head?.map (·.arg) = some N0) (hN0 : N[0]? = some N0) (hl0 : (defScope st).names.lookup N0 = some .local) (hxm : N[iM]? = some xm) (hlm : (defScope st).names.lookup xm = some .local) (sc : scaP fl = true) (hfl : ps.length = fl.length + 1)
    (hmM : ∀ (v0 am : V) (rest : List V), rest.length = m → (L2.start N (v0 :: fl.map (srcV rest am)))[iM]? = some (some am))
    (hrel : ∀ (us its ws : List Value) (vs zs : List V) (am : V) (u : Value), us.length = n → its.length = dvs.length → ws.length = ks.length → Vals vs us → Vals dvs its → Vals zs ws → RelV am u → ∃ v0 rest, vs ++ zs = v0 :: rest ∧ Vals (v0 :: fl.map (srcV rest am)) (g us its ws ++ [u]))
    (bd : ∀ (Td : Addr) (kV doc pm : Value) (an : Option Addr) (cdv ct : Value) (cc : Addr) (us its ws : List Value), us.length = n → its.length = dvs.length → ws.length = ks.length → ∃ kk, bindArgs (PySem.W.ksFn x qual (defArgs st) (defBody st) (defScope st) (.ref Td) kV doc pm an cdv ct cc) ⟨us, ks.zip ws⟩ = seqItems? (.ref Td) >>= kk ∧
      kk (some its.toArray) = (alloc { cls := .type "dict", data := .dict #[] } >>= fun d => pure (ps.zip (g us its ws ++ [.ref d]))))
    (hb : ∀ (cda cc : Addr) (A : Around) (outer : List Env) (s : Shared) (H : Hp) (E : XK) (vs : List V) (pn : List (Addr × Obj)), RG NG k (A.deeper (PySem.W.ksEnv qual (defScope st) s.heap.objs.size f (.ref cda) cc)) → SupF (cxP pn P w K mg base N qual (defScope st) f (.ref cda) cc A outer s H E) N0 D →
      MoreF (cxP pn P w K mg base N qual (defScope st) f (.ref cda) cc A outer s H E) (L2.start N vs) iM xm → QSsK T (cxP pn P w K mg base N qual (defScope st) f (.ref cda) cc A outer s H E) (lt ps.length) (defBody st) (L2.start N vs) (defBody st) body) :
    FnK NG P w K mg base (k + 1) f n ks (spD K T (funX N.length m fl body)) := by
  obtain ⟨oc, od, Td, kV, doc, pm, an, cda, cc, ct, osl, ccl, cl, cdd, cld, ccs, csl, vs0, file, tf, cdD, oT, its, nT, lf, hcd, lcd, hvs, hP, lcc, hD, lT, oTd, rT⟩ := F.ex
  intro A outer s H us ws vs zs Q E hr e0 r rz l1 l2 hsp
  obtain ⟨ar, ha1, ha2⟩ := Option.map_eq_some_iff.mp h0
  have KX : K.In s.heap := e0.mod.kin.keeps fun b o e => (e0.bs b o e).1
  have li : its.toList.length = dvs.length := rT.length.symm
  obtain ⟨v0, rest, ev, rv⟩ := hrel us its.toList ws vs zs (.ref s.heap.objs.size) (.ref s.heap.objs.size) l1 li l2 r rT rz rfl
  rw [ev] at hsp
  obtain ⟨hm, hsp⟩ := spX (am := .ref s.heap.objs.size) sc hsp
  rw [← hfl] at hsp
  have hbig := StX.env0_big e0
  have hfresh : H s.heap.objs.size = none := e0.hok.fresh (Nat.le_refl _)
  have hpu : (s.heap.push ({ cls := .type "dict", data := .dict #[] } : Obj)).get? s.heap.objs.size = some { cls := .type "dict", data := .dict #[] } := Heap.get?_push_size _ rfl
  refine run_supB (s2 := { s with heap := s.heap.push { cls := .type "dict", data := .dict #[] } }) (pn := [(s.heap.objs.size, { cls := .type "dict", data := .dict #[] })]) lf hcd lcc rfl Sc hr e0 (fun b o e => Heap.get?_push_of_some _ e) (by rw [Heap.size_push]; exact Nat.le_succ _) rfl rfl (fun {Q' E'} hq => ?_) rv hsp (fun p hp => ?_) fun hr' => ?_
  · obtain ⟨kk, b1, b2⟩ := bd Td kV doc pm an (.ref cda) ct cc us its.toList ws l1 li l2
    rw [b1]
    rw [show its.toList.toArray = its from by simp] at b2
    refine wpAny_bind (wpAny_seqItems (KX _ _ lT) oTd ?_)
    rw [b2]
    exact wpAny_bind (wpAny_alloc (wpAny_pure hq))
  · rw [List.mem_singleton.mp hp]
    refine ⟨hpu, hfresh, fun hb => ?_, fun v z => by cases z⟩
    obtain ⟨_, o, ho, _⟩ := e0.funs.mem hb
    exact absurd (Heap.lt_size ho) (Nat.lt_irrefl _)
  · refine hb cda cc A outer _ H E _ _ hr' ⟨⟨f, cda, cc, _, oc, ccl, cl, od, cdd, cld, osl, ccs, csl, ar, vs0, file, tf, cdD, rfl, rfl, lf, ha1, ha2, lcd, hvs, hP, rfl, lcc, hD⟩, Sc.sup, Sc.cls, hN0, hl0, hmg, F.st⟩ ⟨⟨s.heap.objs.size, _, _, hmM _ _ _ hm, List.mem_singleton.mpr rfl, rfl, rfl, Nat.ne_of_gt hbig⟩, hxm, hlm⟩
end
end Dt
end
section
set_option maxRecDepth 100000
set_option maxHeartbeats 4000000
/-! RY: C(e, .., k = v, ..). -/
namespace Dt
open PySem PySem.Spec
open L2 hiding passL ps_try_many HdsOk takes0 XE Takes CX takes_of passes_call PMk MkP ps_raise mk_of ps_try_as pmk_own
open L2N hiding St
open PyProof.Rows hiding St
variable {NG : Prop}
theorem FnK.pos {P : Program} {w : World} {K : PySem.W.Frag} {mg : Str → Option Value} {base : Heap} {T : Tab} {k N m : Nat} {f : Addr} {fl : List PSrc} {body : S} (F : FnK NG P w K mg base k f (m + 1) [] (spD K T (funX N m fl body))) (sc : scaP fl = true) : FnG NG P w K mg base k f (spD K T (funX N m fl body)) := by
  intro A outer s H us vs Q E hr e0 r hsp
  have hl : us.length = m + 1 := by
    cases vs with
    | nil =>
      obtain ⟨ex, env, g, rr, e, _⟩ := hsp
      have : env = [] := by have := g.len; simpa using this
      subst this
      cases e
    | cons v vs =>
      rw [← r.length, List.length_cons, (spX (am := .non) sc hsp).1]
  exact F A outer s H us [] vs [] Q E hr e0 r .nil hl rfl (by rw [List.append_nil]; exact hsp)
section
variable {X : Cx} {W : WX} {k n : Nat} {f C : Addr} {sp : Sp} {x : Str} {p pos : Pos} {e : Expr} {es : List Expr} {kws : List Keyword} {ks : List Str} {t tk : TA}
end
section
variable (T : Tab) (X : Cx)
end
section
variable {T : Tab} {X : Cx} {k t n : Nat} {f : Addr} {g : M EV} {x nm : Str} {p pos kpos : Pos} {e : Expr} {es : List Expr} {kws : List Keyword} {ks : List Str} {fs gs : M (List AV)} {fe : M AV}
end
end Dt
end
section
set_option maxRecDepth 100000
set_option maxHeartbeats 4000000
/-! RZ: a, b = super().m(..), e; texts behind super().m(). -/
namespace Dt
open PySem PySem.Spec
open L2 hiding passL ps_try_many HdsOk takes0 XE Takes CX takes_of passes_call PMk MkP ps_raise mk_of ps_try_as pmk_own
open L2N hiding St
open PyProof.Rows hiding St
variable {NG : Prop}
section
variable {X : Cx} {b0 : List Stmt} {i j : Nat} {x y : Str} {a b : Expr} {ta tb : TE} {px py pt pos : Pos} {kt k2 : Nat} {pt2 : Pos}
end
section
variable {T : Tab} {X : Cx} {np : Nat → Bool} {b0 : List Stmt} {x y : Str} {a b : Expr} {px py pt pos : Pos} {kt k2 : Nat} {pt2 : Pos} {f g : M EV}
end
end Dt
end
section
set_option maxRecDepth 100000
set_option maxHeartbeats 4000000
/-! RT2: keywords: one that is left over for **more; **more of one entry; super().m(.., k = v). -/
namespace Dt
open PySem PySem.Spec
open L2 hiding passL ps_try_many HdsOk takes0 XE Takes CX takes_of passes_call PMk MkP ps_raise mk_of ps_try_as pmk_own
open L2N hiding St
open PyProof.Rows hiding St
variable {NG : Prop}
section
variable {M : Model} {A : Around} {E : Value → Shared → Prop} {h : Heap} {g : Array GenState} {dr : Drawn} {t : Nat} {os : OsState}
end
end Dt
end
section
set_option maxRecDepth 100000
set_option maxHeartbeats 4000000
/-! RT3: super().m(.., k = v), super().m(.., **more) with one entry. -/
namespace Dt
open PySem PySem.Spec
open L2 hiding passL ps_try_many HdsOk takes0 XE Takes CX takes_of passes_call PMk MkP ps_raise mk_of ps_try_as pmk_own
open L2N hiding St
open PyProof.Rows hiding St
open ClX (base_none met_new callwith_cm pin_at unpin)
variable {NG : Prop}
section
variable {X : Cx} {pins : List (Addr × Obj)} {σ : L2.St} {H : Hp} {s : Shared} {W : WX} {k n : Nat} {f : Addr} {sp : Sp} {Q : VK} {us ws : List Value} {vs zs : List V} {ks : List Str}
end
structure SupOKK (NG : Prop) (T : Tab) (X : Cx) (D : Addr) (m : Str) (n : Nat) (ks : List Str) (mt : Nat → Option (M EV)) : Prop where
  of : ∀ t g, mt t = some g → ∃ f k, SupC X.K (T.cls t) D m f ∧ RG NG k X.A ∧ FnK NG X.prog X.w X.K X.mg X.base k f (n + 1) ks (spD X.K T g)
section
variable {T : Tab} {X : Cx} {b0 : List Stmt} {σ0 : L2.St} {e : Expr} {es : List Expr} {kws : List Keyword} {p0 p1 p2 apos kpos pos : Pos} {D : Addr} {N0 m xm : Str} {i j n : Nat} {ks : List Str} {pl : Sem Bool} {mt : Nat → Option (M EV)} {fs gs : M (List AV)}
/-- more, a dict of one entry; its value stands at the slot j, too -/
structure MoreF1 (X : Cx) (σ0 : L2.St) (i j : Nat) (x key : Str) : Prop where
  ex : ∃ (a : Addr) (oa : Obj) (ea : Nat) (hh : Int) (tt : Tok) (u : Value) (z : V), σ0[i]? = some (some (.ref a)) ∧ σ0[j]? = some (some z) ∧ RelV z u ∧ (a, oa) ∈ X.pn ∧ oa.cls = .type "dict" ∧ oa.data = .dict #[⟨hh, .str key tt, u⟩] ea ∧ a ≠ sysModules
  n : X.N[i]? = some x
  l : X.env.scope.names.lookup x = some .local
end
end Dt
end
section
set_option maxRecDepth 100000
set_option maxHeartbeats 4000000
/-! RT4: defs with defaults that say super(), without **more; with one keyword that is left over for **more. -/
namespace Dt
open PySem PySem.Spec
open L2 hiding passL ps_try_many HdsOk takes0 XE Takes CX takes_of passes_call PMk MkP ps_raise mk_of ps_try_as pmk_own
open L2N hiding St
open PyProof.Rows hiding St
variable {NG : Prop}
section
variable {M : Model} {A : Around} {E : Value → Shared → Prop}
def nhash (M : Model) (name : Str) : Int := if name.cps.isEmpty = true then 0 else reduceHash (M.w.params.strHash name.cps)
theorem nsSetE {s : Shared} {a : Addr} {c : Value} {d : Option Addr} {ep : Nat} {sl : Array (Option Value)} {name : Str} {v : Value} {Q : Unit → Shared → Prop} (ho : s.heap.get? a = some ⟨c, d, .dict #[] ep, sl⟩)
    (hq : Q () { s with heap := s.heap.update a (Obj.putName name (nhash M name) (.str name s.toks) v), toks := s.toks + 1 }) : wpAny M A (nsSet a name v) Q E s := fun Γ p _ => by
  simp only [nsSet, strHash, Sem.wp_bind', Sem.wp_cmd_ask, Sem.wp_pure', Sem.wp_cmd_mkText]
  rw [Sem.wp_loadPart_of M Γ (fun e _ s' => E e s') p { s with toks := s.toks + 1 } _ ho]
  have hany : (#[] : Array DictEntry).any (·.refKey) = false := by simp
  simp only [aRefKeyMayBeTheName_eq, aRefKeyMayBeTheNameByArray, hany, Bool.and_false, Bool.false_eq_true, if_false, Sem.wp_cmd_updatePart]
  exact ⟨by rw [ho]; rfl, hq⟩
theorem put0_get {h : Heap} {a : Addr} {c : Value} {d : Option Addr} {ep : Nat} {sl : Array (Option Value)} {name : Str} {hh : Int} {k v : Value} (ho : h.get? a = some ⟨c, d, .dict #[] ep, sl⟩) : (h.update a (Obj.putName name hh k v)).get? a = some ⟨c, d, .dict #[⟨hh, k, v⟩] (ep + 1), sl⟩ :=
  (Heap.get?_update_self _ ho (by simp only [Obj.putName_eq, Obj.putNameByArray, Array.findIdx?_empty]; rfl)).trans (by simp only [Obj.putName_eq, Obj.putNameByArray, Array.findIdx?_empty]; rfl)
end
section
variable {P : Program} {w : World} {K : PySem.W.Frag} {mg : Str → Option Value} {base : Heap} {T : Tab}
theorem start_full {N : List Str} {vs : List V} (h : N.length = vs.length) : L2.start N vs = vs.map some := by
  unfold L2.start
  rw [h, Nat.sub_self, List.replicate_zero, List.append_nil]
theorem inv_more {qual : Str} {scope : Scope} {f cc : Addr} {cd : Value} {A : Around} {outer : List Env} {s s' : Shared} {H H' : Hp} {E : XK} {N : List Str} {vs : List V} {x : Str} {z : V} {pins : List (Addr × Obj)} (hl : N.length = vs.length) (hx : scope.names.lookup x = none)
    (I : Inv (cxS P w K mg base N qual scope f cd cc A outer s H E) pins (L2.start N vs) H' s') : Inv (cxS P w K mg base (N ++ [x]) qual scope f cd cc A outer s H E) pins (L2.start (N ++ [x]) (vs ++ [z])) H' s' := by
  have e1 := start_full hl
  have e2 : L2.start (N ++ [x]) (vs ++ [z]) = vs.map some ++ [some z] := by rw [start_full (by simp [hl])]; simp
  rw [e1] at I
  rw [e2]
  have ok := I.ok
  refine ⟨⟨ok.mod, ok.kind, ok.glob, ok.blt, ok.above, ok.inj, ok.has, ok.cab, ok.hd, ok.frames, ok.stk, ok.exf, ok.bs, ok.bsz, ok.noex, ok.exfs, ok.funs, ok.frf⟩, I.os, I.bare, I.base, ?_, I.cell, I.free, I.freeC, I.pin, I.hok, by show _ = (N ++ [x]).length; simp [hl]⟩
  obtain ⟨m, h1, h2⟩ := I.loc
  refine ⟨m, h1, fun i y v q1 q2 vis => ?_⟩
  have q1 : (N ++ [x])[i]? = some y := q1
  by_cases hi : i < N.length
  · rw [List.getElem?_append_left hi] at q1
    rw [List.getElem?_append_left (by simp; omega)] at q2
    exact h2 i y v q1 q2 vis
  · rw [List.getElem?_append_right (by omega)] at q1
    have : i - N.length = 0 := by
      have := (List.getElem?_eq_some_iff.mp q1).1
      simp at this
      omega
    rw [this] at q1
    cases q1
    rcases vis with z | z | z
    all_goals
      have z' : scope.names.lookup x = _ := z
      rw [hx] at z'
      cases z'
theorem run_supB1 {x xz qual : Str} {st : Stmt} {f cc cda : Addr} {ps : List Str} {k : Nat} {body : S} {oc dV kV doc pm ct : Value} {od an : Option Addr} {osl : Array (Option Value)} {cob : Obj} {v0 : Option Value} {pn : List (Addr × Obj)}
    (lf : K.lookup f = some ⟨oc, od, .func (PySem.W.ksFn x qual (defArgs st) (defBody st) (defScope st) dV kV doc pm an (.ref cda) ct cc), osl⟩) (hcd : PySem.W.codeIn K (.ref cda) qual = true) (lcc : K.lookup cc = some cob) (dcc : cob.data = .cell v0) (Sc : SScope ps ps (defScope st)) (hx : (defScope st).names.lookup xz = none)
    {A : Around} {outer : List Env} {s s2 : Shared} {H : Hp} {args : Args} {us : List Value} {vs : List V} {z : V} {Q : VK} {E : XK} (hr : RG NG (k + 1) A) (e0 : Env0 P w K mg base A outer s H)
    (kp : ∀ b o, s.heap.get? b = some o → s2.heap.get? b = some o) (hz : s.heap.objs.size ≤ s2.heap.objs.size) (hg : s2.gens = s.gens) (hos : s2.os = s.os)
    (hb2 : ∀ {Q' : List (Str × Value) → Shared → Prop} {E' : Value → Shared → Prop}, Q' (ps.zip us) s2 → wpAny (model P w) A.in1 (bindArgs (PySem.W.ksFn x qual (defArgs st) (defBody st) (defScope st) dV kV doc pm an (.ref cda) ct cc) args) Q' E' s)
    (hl : vs.length = ps.length) (r : Vals vs us) (hsp : spD K T (funD (ps ++ [xz]).length (ps ++ [xz]).length body) (vs ++ [z]) H Q E)
    (hpn : ∀ p ∈ pn, s2.heap.get? p.1 = some p.2 ∧ H p.1 = none ∧ p.1 ∉ frs outer ∧ ∀ v, p.2.data ≠ .cell v)
    (hb : RG NG k (A.deeper (PySem.W.ksEnv qual (defScope st) s2.heap.objs.size f (.ref cda) cc)) → QSsK T (cxP pn P w K mg base (ps ++ [xz]) qual (defScope st) f (.ref cda) cc A outer s2 H E) (lt (ps ++ [xz]).length) (defBody st) (L2.start (ps ++ [xz]) (vs ++ [z])) (defBody st) body) :
    codeAny (model P w) A (.call (.ref f) args) (CR (L2N.CX P w) outer P w H s Q E) s := by
  have e2 : Env0 P w K mg base A outer s2 H := env0_kept e0 kp hz hg
  have KX : K.In s.heap := e0.mod.kin.keeps fun b o e => (e0.bs b o e).1
  have lim2 : s2.heap.NoLimit := e0.mod.nolimit.keeps fun b o e => (e2.bs b o e).1
  have un : Un (frs outer) [] H H s.heap s2.heap := Un.kept kp
  refine codeAny_call_function (fd := PySem.W.ksFn x qual (defArgs st) (defBody st) (defScope st) dV kV doc pm an (.ref cda) ct cc) (body := defBody st) hr.r.depth (KX _ _ lf) rfl Sc.co Sc.gen rfl (PySem.W.codeRec_of KX hcd) (hb2 ?_)
  refine wpAny_newFunctionEnv Sc.nocell (fun y hy => Sc.par _ (List.of_mem_zip hy).1) (fun h₁ hns hsb => ⟨lim2.fresh _ hsb, ks_codeAny_funcAt ?_⟩) Sc.kind
  have hk₁ : ∀ b o, s2.heap.get? b = some o → h₁.get? b = some o := fun b o e => hsb.extBut b o (Nat.ne_of_lt (Heap.lt_size e)) (Heap.get?_push_of_some _ e)
  obtain ⟨t, ht, hq⟩ := sp_bodyK (Nat.le_refl _) (hb (hr.deeper _)) hsp
  have I00 : Inv (cxS P w K mg base ps qual (defScope st) f (.ref cda) cc A outer s2 H E) [] (L2.start ps vs) H { s2 with heap := h₁, toks := s2.toks + (ps.zip us).length } := inv_startS Sc hr.r.hd e2 hl r lcc dcc hns hk₁
  have I0 := inv_more (x := xz) (z := z) hl.symm hx I00
  have I1 : Inv (cxS P w K mg base (ps ++ [xz]) qual (defScope st) f (.ref cda) cc A outer s2 H E) pn (L2.start (ps ++ [xz]) (vs ++ [z])) H { s2 with heap := h₁, toks := s2.toks + (ps.zip us).length } := I0.pins_of fun p hp => by
    obtain ⟨p1, p2, p3, p4⟩ := hpn p hp
    exact ⟨hk₁ _ _ p1, p2, Nat.ne_of_lt (Heap.lt_size p1), p3, p4⟩
  have I : Inv (cxP pn P w K mg base (ps ++ [xz]) qual (defScope st) f (.ref cda) cc A outer s2 H E) [] (L2.start (ps ++ [xz]) (vs ++ [z])) H { s2 with heap := h₁, toks := s2.toks + (ps.zip us).length } := I1.toTry _
  refine ks_wpAt_mono (ht.run [] _ H _ I hq) (fun fl s' hs => ?_) fun e s' hs => ?_
  · have fin : ∀ {σ' : L2.St} {H' : Hp} {v : V} {u : Value}, Inv (cxP pn P w K mg base (ps ++ [xz]) qual (defScope st) f (.ref cda) cc A outer s2 H E) [] σ' H' s' → RelV v u → Q v H' → CE outer P w H s Q u s' :=
      fun {σ' H' v u} J rv q => ⟨v, H', J.os.trans hos, J.bare, un.trans J.base, J.hok, rv, q⟩
    cases fl with
    | ret u =>
      obtain ⟨v, σ', H', J, rv, q⟩ := hs
      exact fin J rv q
    | next =>
      obtain ⟨σ', H', J, q⟩ := hs
      exact fin (v := V.non) (u := Value.none) J rfl q
    | brk =>
      obtain ⟨_, _, _, q⟩ := hs
      exact False.elim q
    | cont =>
      obtain ⟨_, _, _, q⟩ := hs
      exact False.elim q
  · exact wpAny_mono hs (fun _ s'' z => cxUp (P := P) (w := w) outer s H s2 H E e s'' un kp hos z) fun e' s'' z => cxUp (P := P) (w := w) outer s H s2 H E e' s'' un kp hos z
/-- .. that takes **more, called so that one keyword is left for it -/
theorem FxK.q1 {x xz qual key : Str} {st : Stmt} {f D : Addr} {ps : List Str} {k n m iM qi : Nat} {body : S} {N0 xm : Str} {dvs : List V} {ks : List Str} {fl : List PSrc} {g : List Value → List Value → List Value → List Value} {lv : List Value → List Value → Value} (F : FxK P K x qual st f D dvs) (Sc : SScope ps ps (defScope st)) (hmg : mg "super" = none)
    (h0 : ((defArgs st).posonlyargs ++ (defArgs st).args).head?.map (·.arg) = some N0) (hN0 : (ps ++ [xz])[0]? = some N0) (hl0 : (defScope st).names.lookup N0 = some .local) (hxm : (ps ++ [xz])[iM]? = some xm) (hlm : (defScope st).names.lookup xm = some .local) (hx : (defScope st).names.lookup xz = none) (sc : scaP fl = true) (hfl : ps.length = fl.length + 1)
    (hmM : ∀ (v0 am z : V) (rest : List V), rest.length = m → (L2.start (ps ++ [xz]) ((v0 :: fl.map (srcV rest am)) ++ [z]))[iM]? = some (some am))
    (hrel : ∀ (us its ws : List Value) (vs zs : List V) (am : V) (u : Value), us.length = n → its.length = dvs.length → ws.length = ks.length → Vals vs us → Vals dvs its → Vals zs ws → RelV am u → ∃ v0 rest, vs ++ zs = v0 :: rest ∧ Vals (v0 :: fl.map (srcV rest am)) (g us its ws ++ [u]) ∧ RelV (rest.getD qi .non) (lv us ws))
    (bd : ∀ (Td : Addr) (kV doc pm : Value) (an : Option Addr) (cdv ct : Value) (cc : Addr) (us its ws : List Value), us.length = n → its.length = dvs.length → ws.length = ks.length → ∃ kk, bindArgs (PySem.W.ksFn x qual (defArgs st) (defBody st) (defScope st) (.ref Td) kV doc pm an cdv ct cc) ⟨us, ks.zip ws⟩ = seqItems? (.ref Td) >>= kk ∧
      kk (some its.toArray) = (alloc { cls := .type "dict", data := .dict #[] } >>= fun d => forIn [(key, lv us ws)] PUnit.unit (fun p _ => do nsSet d p.1 p.2; pure (ForInStep.yield PUnit.unit)) >>= fun _ => pure (ps.zip (g us its ws ++ [.ref d]))))
    (hb : ∀ (cda cc : Addr) (A : Around) (outer : List Env) (s : Shared) (H : Hp) (E : XK) (vs : List V) (pn : List (Addr × Obj)), RG NG k (A.deeper (PySem.W.ksEnv qual (defScope st) s.heap.objs.size f (.ref cda) cc)) → SupF (cxP pn P w K mg base (ps ++ [xz]) qual (defScope st) f (.ref cda) cc A outer s H E) N0 D →
      MoreF1 (cxP pn P w K mg base (ps ++ [xz]) qual (defScope st) f (.ref cda) cc A outer s H E) (L2.start (ps ++ [xz]) vs) iM ps.length xm key → QSsK T (cxP pn P w K mg base (ps ++ [xz]) qual (defScope st) f (.ref cda) cc A outer s H E) (lt (ps ++ [xz]).length) (defBody st) (L2.start (ps ++ [xz]) vs) (defBody st) body) :
    FnK NG P w K mg base (k + 1) f n ks (spD K T (funX (ps ++ [xz]).length m (fl ++ [.arg qi]) body)) := by
  obtain ⟨oc, od, Td, kV, doc, pm, an, cda, cc, ct, osl, ccl, cl, cdd, cld, ccs, csl, vs0, file, tf, cdD, oT, its, nT, lf, hcd, lcd, hvs, hP, lcc, hD, lT, oTd, rT⟩ := F.ex
  intro A outer s H us ws vs zs Q E hr e0 r rz l1 l2 hsp
  obtain ⟨ar, ha1, ha2⟩ := Option.map_eq_some_iff.mp h0
  have KX : K.In s.heap := e0.mod.kin.keeps fun b o e => (e0.bs b o e).1
  have li : its.toList.length = dvs.length := rT.length.symm
  obtain ⟨v0, rest, ev, rv, rl⟩ := hrel us its.toList ws vs zs (.ref s.heap.objs.size) (.ref s.heap.objs.size) l1 li l2 r rT rz rfl
  rw [ev] at hsp
  have sc2 : ∀ {fl : List PSrc}, scaP fl = true → scaP (fl ++ [.arg qi]) = true := by
    intro fl
    induction fl with
    | nil => intro _; rfl
    | cons p fl ih =>
      intro h
      cases p with
      | dfl d => exact Bool.and_eq_true_iff.mpr ⟨(Bool.and_eq_true_iff.mp h).1, ih (Bool.and_eq_true_iff.mp h).2⟩
      | _ => exact ih h
  obtain ⟨hm, hsp⟩ := spX (am := .ref s.heap.objs.size) (sc2 sc) hsp
  have efl : (fl ++ [PSrc.arg qi]).length + 1 = (ps ++ [xz]).length := by simp [hfl]
  rw [efl, List.map_append] at hsp
  have hsp : spD K T (funD (ps ++ [xz]).length (ps ++ [xz]).length body) ((v0 :: fl.map (srcV rest (.ref s.heap.objs.size))) ++ [rest.getD qi .non]) H Q E := hsp
  have hbig := StX.env0_big e0
  have hfresh : H s.heap.objs.size = none := e0.hok.fresh (Nat.le_refl _)
  have hpu : (s.heap.push ({ cls := .type "dict", data := .dict #[] } : Obj)).get? s.heap.objs.size = some { cls := .type "dict", data := .dict #[] } := Heap.get?_push_size _ rfl
  have hput := put0_get (name := key) (hh := nhash (model P w) key) (k := .str key s.toks) (v := lv us ws) hpu
  refine run_supB1 (s2 := { s with heap := (s.heap.push { cls := .type "dict", data := .dict #[] }).update s.heap.objs.size (Obj.putName key (nhash (model P w) key) (.str key s.toks) (lv us ws)), toks := s.toks + 1 }) (z := rest.getD qi .non) (pn := [(s.heap.objs.size, ⟨.type "dict", none, .dict #[⟨nhash (model P w) key, .str key s.toks, lv us ws⟩] (0 + 1), #[]⟩)]) lf hcd lcc rfl Sc hx hr e0 (fun b o e => ?_) ?_ rfl rfl (fun {Q' E'} hq => ?_) (by simp [hfl]) rv hsp (fun p hp => ?_) fun hr' => ?_
  · show ((s.heap.push _).update _ _).get? b = some o
    rw [Heap.get?_update_ne _ _ _ _ (Nat.ne_of_lt (Heap.lt_size e))]
    exact Heap.get?_push_of_some _ e
  · show s.heap.objs.size ≤ ((s.heap.push _).update _ _).objs.size
    rw [Heap.size_update, Heap.size_push]; exact Nat.le_succ _
  · obtain ⟨kk, b1, b2⟩ := bd Td kV doc pm an (.ref cda) ct cc us its.toList ws l1 li l2
    rw [b1]
    rw [show its.toList.toArray = its from by simp] at b2
    refine wpAny_bind (wpAny_seqItems (KX _ _ lT) oTd ?_)
    rw [b2]
    refine wpAny_bind (wpAny_alloc (wpAny_bind ?_))
    rw [List.forIn_cons]
    refine wpAny_bind (wpAny_bind (nsSetE hpu (wpAny_pure ?_)))
    dsimp only
    rw [List.forIn_nil]
    exact wpAny_pure (wpAny_pure hq)
  · rw [List.mem_singleton.mp hp]
    refine ⟨hput, hfresh, fun hb => ?_, fun v z => by cases z⟩
    obtain ⟨_, o, ho, _⟩ := e0.funs.mem hb
    exact absurd (Heap.lt_size ho) (Nat.lt_irrefl _)
  · refine hb cda cc A outer _ H E _ _ hr' ⟨⟨f, cda, cc, _, oc, ccl, cl, od, cdd, cld, osl, ccs, csl, ar, vs0, file, tf, cdD, rfl, rfl, lf, ha1, ha2, lcd, hvs, hP, rfl, lcc, hD⟩, Sc.sup, Sc.cls, hN0, hl0, hmg, F.st⟩ ⟨⟨s.heap.objs.size, _, _, _, _, _, rest.getD qi .non, hmM _ _ _ _ (by simpa using hm), ?_, rl, List.mem_singleton.mpr rfl, rfl, rfl, Nat.ne_of_gt hbig⟩, hxm, hlm⟩
    rw [start_full (by simp [hfl])]
    simp [hfl]
end
end Dt
end
section
set_option maxRecDepth 100000
set_option maxHeartbeats 4000000
/-! RS2: return c + super().m(); methods and isinstance of objects of several classes. -/
namespace Dt
open PySem PySem.Spec
open L2 hiding passL ps_try_many HdsOk takes0 XE Takes CX takes_of passes_call PMk MkP ps_raise mk_of ps_try_as pmk_own
open L2N hiding St
open PyProof.Rows hiding St
open ClX (base_none met_new callwith_cm pin_at unpin)
variable {NG : Prop}
section
variable {T : Tab} {X : Cx} {b0 : List Stmt} {p0 p1 apos pos : Pos} {D : Addr} {N0 m : Str} {pl : Sem Bool} {mt : Nat → Option (M EV)} {a b : Expr} {fa fb : M AV} {f : M EV} {ta tb : TE}
end
end Dt
end
section
set_option maxRecDepth 100000
set_option maxHeartbeats 4000000
/-! RS3: a class's plain value read through an instance; an instance is equal to itself. -/
namespace Dt
open PySem PySem.Spec
open L2 hiding passL ps_try_many HdsOk takes0 XE Takes CX takes_of passes_call PMk MkP ps_raise mk_of ps_try_as pmk_own
open L2N hiding St
open PyProof.Rows hiding St
section
variable {T : Tab} {X : Cx} {e : Expr} {f : Str} {pos : Pos} {fa : M AV} {ci : Nat → Option D}
end
/-! ### e == e, one object -/
/-- a class whose instances are compared as object does -/
structure EqObj (K : PySem.W.Frag) (C : Addr) : Prop where
  mro : PySem.W.mroIn K C (.type "object") = some true
  eq : PySem.W.findIn K (.ref C) "__eq__" = some (some (.builtin "object.__eq__"))
section
variable {M : Model} {prog : Program} {w : World} {A : Around} {E : Value → Shared → Prop} {s : Shared} {K : PySem.W.Frag} {x C : Addr} {ox : Obj} {od : Option Obj}
end
end Dt
end
section
set_option maxRecDepth 100000
set_option maxHeartbeats 4000000
/-! RS4: repr of data that has dicts and lists. -/
namespace Dt
open PySem PySem.Spec
open L2 hiding passL ps_try_many HdsOk takes0 XE Takes CX takes_of passes_call PMk MkP ps_raise mk_of ps_try_as pmk_own
open L2N hiding St
open PyProof.Rows hiding St
mutual
def toZ : D → Option PyData
  | .non => some .none
  | .bl b => some (.bool b)
  | .int i => some (.int i)
  | .str s => some (.str (mkS s))
  | .tup xs => (toZL xs).map .tuple
  | .lst xs => (toZL xs).map .list
  | .dic ks xs => if ks.length = xs.length then (toZL xs).map fun ps => .dict ((ks.map keyP).zip ps) else none
  | _ => none
def toZL : List D → Option (List PyData)
  | [] => some []
  | d :: ds => (toZ d).bind fun p => (toZL ds).map (p :: ·)
end
section
variable {X : Cx} {T : Tab} {pins : List (Addr × Obj)} {σ : L2.St} {H : Hp} {s : Shared} {ex : Addr → Prop}
end
/-! ### xs == [] , whatever xs has -/
section
variable {X : Cx} {T : Tab}
end
/-! ### the law's own head, where the modules' dict is asked for -/
section
variable {NG : Prop}
end
end Dt
end
section
set_option maxRecDepth 100000
set_option maxHeartbeats 4000000
/-! RLd: the readings of raise C(a, b) and of a suite that compares the fields (no rules: for both worlds). -/
namespace Dt
open PySem PySem.Spec
open L2 hiding passL ps_try_many HdsOk takes0 XE Takes CX takes_of passes_call PMk MkP ps_raise mk_of ps_try_as pmk_own
open L2N hiding St
open PyProof.Rows hiding St
end Dt
end
section
set_option maxRecDepth 100000
set_option maxHeartbeats 4000000
/-! RL1: exceptions with fields: C.__init__(self, ..), o.f among the targets, raise C(a, b). (Over L2N.) -/
namespace Dt
open PySem PySem.Spec
open L2 hiding passL ps_try_many HdsOk takes0 XE Takes CX takes_of passes_call PMk MkP ps_raise mk_of ps_try_as pmk_own
open L2N hiding St
open PyProof.Rows hiding St
section
variable {X : Cx} {o e : Expr} {es : List Expr} {to te : TE} {ta : TA} {f : Str} {p p' p1 p2 pos : Pos}
end
end Dt
end
section
set_option maxRecDepth 100000
set_option maxHeartbeats 4000000
/-! RL2: an exception's own __init__(self, a, b) that keeps two fields; raise C(a, b). (Over L2N.) -/
namespace Dt
open PySem PySem.Spec
open L2 hiding passL ps_try_many HdsOk takes0 XE Takes CX takes_of passes_call PMk MkP ps_raise mk_of ps_try_as pmk_own
open L2N hiding St
open PyProof.Rows hiding St
/-- nothing is let out -/
def CX0 : CXT := fun _ _ _ _ _ _ => False
section
variable {X : Cx} {x m f1 f2 n0 n1 n2 : Str} {B C : Addr} {j k1 k2 : Nat} {p1 p2 p3 p4 p5 p6 p7 p8 p9 p10 p11 p12 p13 p14 p15 : Pos}
end
end Dt
end
section
set_option maxRecDepth 100000
set_option maxHeartbeats 4000000
/-! RL3: raise C(a, b). (Over L2N.) -/
namespace Dt
open PySem PySem.Spec
open L2 hiding passL ps_try_many HdsOk takes0 XE Takes CX takes_of passes_call PMk MkP ps_raise mk_of ps_try_as pmk_own
open L2N hiding St
open PyProof.Rows hiding St
section
variable {X : Cx} {x f1 f2 : Str} {e : Expr} {es : List Expr} {ta : TA} {C fI : Addr} {k : Nat} {fd : FuncData} {ps : List Str} {p pos : Pos}
end
section
variable {T : Tab} {X : Cx} {np : Nat → Bool} {x f1 f2 : Str} {e1 e2 : Expr} {fI : Addr} {k t : Nat} {fd : FuncData} {ps : List Str} {p pos pos' : Pos} {fs : M (List AV)}
end
end Dt
end
section
set_option maxRecDepth 100000
set_option maxHeartbeats 4000000
/-! RL4: defs called while an exception is handled: with room for repr; a product by a loop, texts compared. (Over L2N.) -/
namespace Dt
open PySem PySem.Spec
open L2 hiding passL ps_try_many HdsOk takes0 XE Takes CX takes_of passes_call PMk MkP ps_raise mk_of ps_try_as pmk_own
open L2N hiding St
open L2H hiding St
open PyProof.Rows hiding St
structure RGH (k : Nat) (A : Around) : Prop where
  r : RoomH k A
  g : A.guards = some []
theorem RGH.mono {j k : Nat} {A : Around} (h : RGH k A) (l : j ≤ k) : RGH j A := ⟨h.r.mono l, h.g⟩
theorem RGH.deeper {k : Nat} {A : Around} (h : RGH (k + 1) A) (env : Env) : RGH k (A.deeper env) := ⟨h.r.deeper env, h.g⟩
theorem RGH.u64 {k : Nat} {A : Around} (h : RGH k A) : A.units + 64 < cLine := by have := h.r.un; omega
/-- the promise of a def, called while p's exception is handled; it raises nothing -/
def FnHG (P : Program) (w : World) (K : PySem.W.Frag) (mg : Str → Option Value) (base : Heap) (k : Nat) (f : Addr) (sp : Sp) : Prop :=
  ∀ (A : Around) (outer : List Env) (s : Shared) (H : Hp) (us : List Value) (vs : List V) (Q : VK) (E : XK) (p : Addr × Obj), RGH k A → Hot1 A p → PinOk outer H s p → Env0 P w K mg base A outer s H → Vals vs us → sp vs H Q E →
    codeAny (model P w) A (.call (.ref f) ⟨us, []⟩) (CR CX0 outer P w H s Q E) s
section
variable {P : Program} {w : World} {K : PySem.W.Frag} {mg : Str → Option Value} {base : Heap}
end
section
variable {X : Cx} {k : Nat} {f : Addr} {sp : Sp} {x : Str} {q pos : Pos} {e : Expr} {es : List Expr} {t : TA}
theorem pe_callHG (F : FnHG X.prog X.w X.K X.mg X.base k f sp) (hr : RGH k X.A) (hc : HotC X) (hg : Gl X x) (hm : X.mg x = some (.ref f)) (hk : PySem.W.keepIn X.K (.ref f) = true) (ha : PA X (e :: es) t)
    (hdb : (x == ("__debug__" : Str)) = false := by decide) (he : starEach (e :: es) X.env = (false, eval e X.env) :: starEach es X.env := by rfl) (hpl : (backTo pos (starEach es X.env)).any (·.1) = false := by rfl) :
    PE X (.Call (.Name x q) (e :: es) [] pos) (fun σ H Q => t σ H fun vs H1 => sp vs H1 Q fun _ _ _ => False) := by
  refine ⟨fun pins s σ H Q I h => ?_⟩
  refine wpAny_Call_Name_kw (ld_glob I hg hm ?_ hdb)
  refine PySem.W.callWith_K (h₀ := X.base) I.ok.mod.kin hk (thn (ha.run pos pins s σ H _ I h) fun us s1 ⟨vs, H1, I1, r, q⟩ => ⟨I1.kIn, ?_⟩) he hpl
  obtain ⟨p, hot, hp⟩ := hc
  have P1 := I1.pin p (List.mem_append_left _ hp)
  have hpin : PinOk X.stack H1 s1 p := ⟨P1.1, P1.2.1, fun hm => (List.mem_cons.mp (I1.stkSub p.1 hm)).elim P1.2.2.1 P1.2.2.2.1, P1.2.2.2.2⟩
  refine wpAny_call (codeAny_mono (F X.A X.stack s1 H1 us vs Q _ p hr hot hpin I1.env0 r q) fun r s' hq => ?_)
  cases r with
  | error e => exact False.elim hq
  | ok fl =>
    cases fl with
    | ret u => exact I1.after hq
    | next => exact False.elim hq
    | brk => exact False.elim hq
    | cont => exact False.elim hq
end
section
variable {X : Cx} {n0 n1 n2 n3 : Str} {j0 : Nat} {p1 p2 p3 p4 p5 p6 p7 p8 p9 p10 p11 p12 p13 p14 p15 : Pos}
end
end Dt
end
section
set_option maxRecDepth 100000
set_option maxHeartbeats 4000000
/-! RL5: try .. except X as e: what the exception bears is known in the suite; the suite that compares its fields. (Over L2N.) -/
namespace Dt
open PySem PySem.Spec
open L2 hiding passL ps_try_many HdsOk takes0 XE Takes CX takes_of passes_call PMk MkP ps_raise mk_of ps_try_as pmk_own
open L2N hiding St
open L2H hiding St
open PyProof.Rows hiding St
section
variable {T : Tab} {X : Cx} {np : Nat → Bool} {pos pos' np' : Pos}
end
section
variable {X : Cx} {n0 n1 : Str} {p1 p2 p3 p4 p5 p6 p7 p8 : Pos}
end
/-! ### the suite -/
section
variable {T : Tab} {X : Cx} {np : Nat → Bool} {n m en fe fa f1 f2 : Str} {i ni mi j0 t0 k : Nat} {ae aa : Addr} {p1 p2 p3 p4 p5 p6 p7 p8 p9 p10 p11 p12 p13 p14 p15 : Pos}
end
end Dt
end
section
set_option maxRecDepth 100000
set_option maxHeartbeats 4000000
/-! RL6: the promises of LimitError.__init__, of the product by a loop and of the comparison, from their texts. (Over L2N.) -/
namespace Dt
open PySem PySem.Spec
open L2 hiding passL ps_try_many HdsOk takes0 XE Takes CX takes_of passes_call PMk MkP ps_raise mk_of ps_try_as pmk_own
open L2N hiding St
open L2H hiding St
open PyProof.Rows hiding St
section
variable {P : Program} {w : World} {K : PySem.W.Frag} {mg : Str → Option Value} {base : Heap} {x qual : Str} {st : Stmt} {f : Addr} {fd : FuncData} {k : Nat}
end
section
variable {T : Tab} {X : Cx} {np : Nat → Bool} {x f1 f2 : Str} {e1 e2 : Expr} {fI : Addr} {k t : Nat} {p pos pos' : Pos} {fs : M (List AV)}
end
end Dt
end
section
set_option maxRecDepth 100000
set_option maxHeartbeats 4000000
/-! RHd: lists alone: walked, sorted (rules that hold while an exception is handled, too); a suite that asks whether a def gives None. -/
namespace Dt
open PySem PySem.Spec L2
open PyProof.Rows hiding St
def iLst (f : M EV) : M (List D) := M.bind f fun ev => match frz ev with | some (.lst ds) => M.ret ds | _ => M.stuck
theorem qi_lsts {T : Tab} {X : Cx} {tg e : Expr} {f : M EV} (h : QE T X e f) : QI T X tg e (iLst f) := qi_lst h
def sortLs : List D → Option EV
  | [.lst ds] => sortD [.lst ds]
  | _ => none
section
variable {X : Cx} {T : Tab}
theorem cr_sortedLs (hu : X.A.units + 64 < cLine) : CallR X (.builtin "sorted") (rB X.K T sortLs) := by
  intro pins s σ H xs us Q I rvs ⟨ex, ds, ev, dm, r1, e, k⟩
  unfold sortLs at e
  split at e
  · rename_i d
    unfold sortD at e
    dsimp only at e
    obtain ⟨v, rfl, rd⟩ := one_of r1
    obtain ⟨u, rfl, rv⟩ := vals1 rvs
    obtain ⟨ys, e1, e⟩ := opt_bind e
    obtain ⟨ps, e2, e⟩ := opt_bind e
    split at e
    · rename_i h
      cases e
      unfold sortItems at e1
      cases e1
      obtain ⟨a, vs, rfl, h1, h2⟩ := rd
      cases rv
      obtain ⟨its, r', pl, hz⟩ := I.list (SqL.of h1)
      obtain ⟨o, ho, hcl, n, hd⟩ := pl.isList
      have hlen := r'.length
      exact sorted_run hu I dm h2 e2 h.1 h.2 (fun R hR => wpAny_collect_seq a (.inl rfl) ho hcl hd (fun h' hk => hR h' s.toks its hk r') (by simp only [List.size_toArray]; omega)) k
    · cases e
  · cases e
end
end Dt
end
section
set_option maxRecDepth 100000
set_option maxHeartbeats 4000000
/-! RH1: lists and ranges walked while an exception is handled. (Over L2N.) -/
namespace Dt
open PySem PySem.Spec
open L2 hiding passL ps_try_many HdsOk takes0 XE Takes CX takes_of passes_call PMk MkP ps_raise mk_of ps_try_as pmk_own
open L2N hiding St
open L2H hiding St
open PyProof.Rows hiding St
open HotX
section
variable {prog : Program} {w : World} {A : Around} {E : Value → Shared → Prop} {s : Shared}
/-- the end of a list, while an exception is handled -/
theorem next_list_hot {it l x1 : Addr} {i : Nat} {items : Array Value} {Q : Option Value → Shared → Prop} (hot : HotAt A x1 s.heap) (hne : x1 ≠ it) (hit : s.heap.IsListIter it l i) (hl : s.heap.IsList l items) (hx : items[i]? = none)
    (hQ : ∀ h', Heap.ExtBut it s.heap h' → Q none { s with heap := h' }) : wpAny (model prog w) A (pyNext (.ref it)) Q E s := by
  obtain ⟨hh, o1, vs1, h1, d1, c1⟩ := hot
  obtain ⟨o, ho, hc, hd⟩ := id hit
  obtain ⟨ol, hol, _, nl, hdl⟩ := hl
  unfold pyNext
  refine wpAny_bind (wpAny_attempt (wpAny_callSpecial?_slot (name := Str.ofString "__next__") hit.typeIs slot_listiter_next
    (wpAny_call_entry slot_listiter_next hit.typeIs entry_listiter_next ?_ (args_listiter_next _))))
  show wpAny _ _ (field (.ref it) 0 >>= _) _ _ s
  refine wpAny_bind (wpAny_field ho hd (x := .ref l) rfl ?_)
  show wpAny _ _ (if (Value.ref l == Value.none) = true then _ else _) _ _ s
  rw [if_neg (show ¬ ((Value.ref l == Value.none) = true) from Bool.false_ne_true)]
  show wpAny _ _ (field (.ref it) 1 >>= _) _ _ s
  refine wpAny_bind (wpAny_field ho hd (x := .int i 0) rfl ?_)
  show wpAny _ _ (seqItems? (.ref l) >>= _) _ _ s
  refine wpAny_bind (wpAny_seqItems hol hdl ?_)
  simp only [Int.toNat_natCast, hx]
  refine wpAny_bind (wpAny_rule (wpAny_bind (wpAny_setField ho hd (by simp) ?_)))
  show wpAny _ _ (newExc (.type "StopIteration") [] >>= _) _ _ _
  refine wpAny_bind ?_
  simp only [newExc, newTuple]
  have h2 := (Heap.get?_update_other s.heap (Obj.mapFields (·.setIfInBounds 0 .none)) (Ne.symm hne)).trans h1
  refine wpAny_bind (wpAny_newObj_type ?_ (by size_fits))
  refine wpAny_bind (m := firstArgMember _ _) (wpAny_of_eq (a := Value.none) (by first | rfl | (simp only [firstArgMember]; rfl)) ?_)
  refine wpAny_newObj_type ?_ (by size_fits)
  refine raiseNew_hot ⟨hh, o1, vs1, Heap.get?_push_of_some _ (Heap.get?_push_of_some _ h2), d1, c1⟩ (Nat.ne_of_lt (Heap.lt_size (Heap.get?_push_of_some _ h2))) (Heap.get?_push_size _ rfl) rfl (by first | (simp; done) | (simp; omega) | (simp only [Array.size_append]; simp; omega)) ?_
  refine wpAny_bind (wpAny_isInstance (T := "StopIteration") (b := true) ⟨_, Heap.get?_update_self _ (Heap.get?_push_size _ rfl) rfl, rfl⟩ isSubtype_stop ?_)
  refine wpAny_pure (hQ _ fun b o hb e => ?_)
  rw [Heap.get?_update_other _ _ (Nat.ne_of_gt (Heap.lt_size (Heap.get?_push_of_some _ ((Heap.get?_update_other _ _ (Ne.symm hb)).trans e))))]
  exact Heap.get?_push_of_some _ (Heap.get?_push_of_some _ ((Heap.get?_update_other _ _ (Ne.symm hb)).trans e))
end
/-- the exception that is handled stands in the entry's heap, out of reach -/
def HotX (X : Cx) : Prop := ∃ p : Addr × Obj, Hot1 X.A p ∧ X.s_0.heap.get? p.1 = some p.2 ∧ X.H_0 p.1 = none ∧ p.1 ∉ X.fs ∧ p.1 ∉ X.ex
theorem HotX.tr {X : Cx} (h : HotX X) (pn : List (Addr × Obj)) (xe : Value → Shared → Prop) : HotX (X.tr pn xe) := h
theorem HotX.at {X : Cx} {pins : List (Addr × Obj)} {σ : St} {H : Hp} {s : Shared} (h : HotX X) (I : Inv X pins σ H s) : ∃ x1, HotAt X.A x1 s.heap ∧ x1 ∉ X.ex ∧ x1 < X.s_0.heap.objs.size := by
  obtain ⟨p, ⟨hh, v1, e1, c1⟩, h1, h2, h3, h4⟩ := h
  exact ⟨p.1, ⟨hh, p.2, v1, I.base.keep _ _ h1 h2 h3 h4, e1, c1⟩, h4, Heap.lt_size h1⟩
theorem hotX_of {CX : CXT} {P : Program} {w : World} {K : PySem.W.Frag} {mg : Str → Option Value} {base : Heap} {N : List Str} {qual : Str} {scope : Scope} {f : Addr} {cd : Value} {A : Around} {outer : List Env} {s : Shared} {H : Hp} {E : XK} {p : Addr × Obj} (h : Hot1 A p) (hp : PinOk outer H s p) : HotX (cxH CX P w K mg base N qual scope f cd A outer s H E p) :=
  ⟨p, ⟨h.1, h.2⟩, hp.get, hp.free, hp.nofs, fun z => absurd (show p.1 ∈ ([] : List Addr) from z) (by simp)⟩
/-- an iterator's turns, while an exception is handled -/
structure TurnX (P : Program) (w : World) (K : PySem.W.Frag) (tg : Expr) (J : It) (fp : List Addr) (it : Addr) (tn : Nat → Heap → Prop) : Prop where
  mem : it ∈ fp
  obj : ∀ i h, tn i h → ∀ b ∈ fp, ∃ o, h.get? b = some o ∧ ∀ v, o.data ≠ .cell v
  keep : ∀ i h h', tn i h → (∀ b ∈ fp, ∀ o, h.get? b = some o → h'.get? b = some o) → tn i h'
  item : ∀ (X : Cx), X.prog = P → X.w = w → X.K = K → ∀ (i : Nat) (pins : List (Addr × Obj)) (s : Shared) (σ : St) (H : Hp) (E : Value → Shared → Prop), Inv X pins σ H s → (∀ b ∈ fp, FpOk X pins H b) → tn i s.heap → J.go i H →
    wpAny (model P w) X.A (pyNext (.ref it)) (fun r s1 => ∃ u, r = some u ∧
      wpAny (model P w) X.A (letOwnedTupleGo tg (.ref it) u) (fun _ s2 => ∃ x H', Inv X pins σ H' s2 ∧ RelV x u ∧ J.yld i H x H' ∧ tn (i + 1) s2.heap ∧ ∀ b ∈ fp, H' b = none) E s1) E s
  done : ∀ (X : Cx), X.prog = P → X.w = w → X.K = K → ∀ (i : Nat) (pins : List (Addr × Obj)) (s : Shared) (σ : St) (H : Hp) (E : Value → Shared → Prop), Inv X pins σ H s → (∀ b ∈ fp, FpOk X pins H b) → tn i s.heap → J.stop i H → (∃ x1, HotAt X.A x1 s.heap ∧ x1 ∉ fp) →
    wpAny (model P w) X.A (pyNext (.ref it)) (fun r s1 => r = none ∧ Inv X pins σ H s1) E s
  self : ∀ (A : Around) (i : Nat) (s : Shared) (Q : Value → Shared → Prop) (E : Value → Shared → Prop), tn i s.heap → Q (.ref it) s → wpAny (model P w) A (pyIter (.ref it)) Q E s
theorem turn_listX {P : Program} {w : World} {K : PySem.W.Frag} {tg : Expr} (a it : Addr) : TurnX P w K tg (Itl K a) [it] it (fun i h => h.IsListIter it a i) where
  mem := by simp
  obj := fun i h st b hb => by
    have e : b = it := by simpa using hb
    subst e
    obtain ⟨o, e, c, d⟩ := st
    exact ⟨o, e, fun v z => by rw [d] at z; cases z⟩
  keep := fun i h h' st k => st.at fun o e => k it (by simp) o e
  item := by
    intro X hP hw hK i pins s σ H E I hf st hg
    subst hP hw hK
    obtain ⟨xs, x, hq, hx⟩ := hg
    obtain ⟨its, rv, p, hz⟩ := I.list hq
    obtain ⟨u, hu, ru⟩ := rv.get hx
    obtain ⟨f0, f1, f2, f3, f4, f5⟩ := hf it (by simp)
    refine wpAny_pyNext_list_item st p.isList (x := u) (by simpa using hu) fun h' st' sb => ?_
    have I1 : Inv X pins σ H { s with heap := h' } := I.turned (t' := s.toks) (fun b o hb e => (sb.2 b hb).trans e) f0 f1 f3 f4 f5
    obtain ⟨o, e, c, d⟩ := id st'
    exact ⟨u, rfl, go_of (s := { s with heap := h' }) e c d (by decide) ⟨x, H, I1, ru, ⟨rfl, fun ys hy => by rw [I.list_inj hy hq]; exact hx⟩, st', fun b hb => (hf b hb).1⟩⟩
  done := by
    intro X hP hw hK i pins s σ H E I hf st hg ⟨x1, hot, hne⟩
    subst hP hw hK
    obtain ⟨xs, hq, hx⟩ := hg
    obtain ⟨its, rv, p, hz⟩ := I.list hq
    obtain ⟨f0, f1, f2, f3, f4, f5⟩ := hf it (by simp)
    have hl := rv.length
    exact next_list_hot hot (by simpa using hne) st p.isList (by simp; omega) fun h' eb => ⟨rfl, I.turned (t' := s.toks) (fun b o hb e => eb b o hb e) f0 f1 f3 f4 f5⟩
  self := fun _ _ _ _ _ st h => wpAny_pyIter_listiter st h
theorem turn_rangeX {P : Program} {w : World} {K : PySem.W.Frag} {tg : Expr} (it : Addr) (lo : Int) (n : Nat) : TurnX P w K tg (Itr lo n) [it] it (fun i h => IsRangeIter h it (lo + (i : Nat) * 1) ((n : Int) - (i : Nat)) 1) where
  mem := by simp
  obj := fun i h st b hb => by
    have e : b = it := by simpa using hb
    subst e
    exact ⟨_, st, fun v z => by
      have z' : Data.fields _ = Data.cell v := z
      cases z'⟩
  keep := fun i h h' st k => k it (by simp) _ st
  item := by
    intro X hP hw hK i pins s σ H E I hf st hg
    subst hP hw hK
    obtain ⟨f0, f1, f2, f3, f4, f5⟩ := hf it (by simp)
    have hlt : i < n := hg
    refine wpAny_pyNext_range_item st (by omega) fun h' st' sb => ?_
    have st2 : IsRangeIter h' it (lo + ((i + 1 : Nat) : Int) * 1) ((n : Int) - ((i + 1 : Nat) : Int)) 1 := by
      have e1 : lo + ((i : Nat) : Int) * 1 + 1 = lo + ((i + 1 : Nat) : Int) * 1 := by omega
      have e2 : (n : Int) - ((i : Nat) : Int) - 1 = (n : Int) - ((i + 1 : Nat) : Int) := by omega
      rw [← e1, ← e2]
      exact st'
    have I1 : Inv X pins σ H { s with heap := h', toks := s.toks + 1 } := I.turned (fun b o hb e => (sb.2 b hb).trans e) f0 f1 f3 f4 f5
    refine ⟨_, rfl, go_of (s := { s with heap := h', toks := s.toks + 1 }) (n := "range_iterator") st2 rfl rfl (by decide) ⟨.int (lo + i), H, I1, ⟨s.toks, ?_⟩, ⟨rfl, rfl⟩, st2, fun b hb => (hf b hb).1⟩⟩
    rw [Int.mul_one]
  done := by
    intro X hP hw hK i pins s σ H E I hf st hg ⟨x1, hot, _⟩
    subst hP hw hK
    obtain ⟨f0, f1, f2, f3, f4, f5⟩ := hf it (by simp)
    exact pyNext_range_end_hot hot st (by have : n ≤ i := hg; omega) fun h' eb => ⟨rfl, I.turned (t' := s.toks) (fun b o _ e => eb b o e) f0 f1 f3 f4 f5⟩
  self := fun _ _ _ _ _ st h => wpAny_pyIter_rangeiter st h
def PIEX (X : Cx) (pins : List (Addr × Obj)) (σ : St) (tg : Expr) (R : It → Hp → Prop) (itv : Value) (s2 : Shared) : Prop :=
  ∃ (it : Addr) (fp : List Addr) (tn : Nat → Heap → Prop) (J : It) (H' : Hp), itv = .ref it ∧ Inv X pins σ H' s2 ∧ TurnX X.prog X.w X.K tg J fp it tn ∧ tn 0 s2.heap ∧ (∀ b ∈ fp, FpOk X pins H' b) ∧ R J H'
structure PIX (X : Cx) (tg iter : Expr) (wi : TI) : Prop where
  run : ∀ (pins : List (Addr × Obj)) (s : Shared) (σ : St) (H : Hp) (R : It → Hp → Prop), Inv X pins σ H s → wi σ H R →
    wpAny (model X.prog X.w) X.A (eval iter X.env) (fun v s1 => wpAny (model X.prog X.w) X.A (pyIter v) (PIEX X pins σ tg R) X.xe s1) X.xe s
section
variable {X : Cx} {tg : Expr}
theorem pi_listX {l : Expr} {tl : TE} (hl : PE X l tl) : PIX X tg l (iListL X.K tl) := by
  refine ⟨fun pins s σ H R I h => ?_⟩
  refine thn (hl.run pins s σ H _ I h) fun v s1 ⟨x, H1, I1, r1, q1⟩ => ?_
  obtain ⟨a, xs, e, hq, q⟩ := q1
  subst e
  cases r1
  obtain ⟨its, rv, p, hz⟩ := I1.list hq
  refine wpAny_pyIter_list p.isList ?_
  refine ⟨s1.heap.objs.size, [s1.heap.objs.size], _, _, H1, rfl, I1.kept (t' := s1.toks) fun b o e => Heap.get?_push_of_some _ e, turn_listX a _, ⟨_, Heap.get?_push_size _ rfl, rfl, rfl⟩, fun b hb => ?_, q hz⟩
  have e : b = s1.heap.objs.size := by simpa using hb
  subst e
  exact I1.fpOk (Nat.le_refl _) (I1.hok.fresh (Nat.le_refl _))
theorem range_itX {pins : List (Addr × Obj)} {σ : St} {H : Hp} {s : Shared} {R : It → Hp → Prop} {E : Value → Shared → Prop} {lo hi : Int} {t u v : Tok} {tk : Nat} (I : Inv X pins σ H s) (h1 : -(2 ^ 62) ≤ lo) (h2 : lo < 2 ^ 62) (h3 : -(2 ^ 62) ≤ hi) (h4 : hi < 2 ^ 62)
    (q : R (Itr lo (hi - lo).toNat) H) : wpAny (model X.prog X.w) X.A (pyIter (.ref s.heap.objs.size)) (PIEX X pins σ tg R) E { s with heap := s.heap.push { cls := .type "range", data := .fields #[.int lo t, .int hi u, .int 1 v] }, toks := tk } := by
  refine wpAny_pyIter_range (IsRange.new ..) (small_one h1 h2 h3 h4) ?_
  have I1 : Inv X pins σ H { s with heap := s.heap.push { cls := .type "range", data := .fields #[.int lo t, .int hi u, .int 1 v] }, toks := tk } := I.kept fun b o e => Heap.get?_push_of_some _ e
  refine ⟨(s.heap.push { cls := .type "range", data := .fields #[.int lo t, .int hi u, .int 1 v] }).objs.size, [(s.heap.push { cls := .type "range", data := .fields #[.int lo t, .int hi u, .int 1 v] }).objs.size], _, _, H, rfl,
    I1.kept (t' := tk) fun b o e => Heap.get?_push_of_some _ e, turn_rangeX _ lo (hi - lo).toNat, ?_, fun b hb => ?_, q⟩
  · have e1 : lo + ((0 : Nat) : Int) * 1 = lo := by simp
    have e2 : (((hi - lo).toNat : Nat) : Int) - ((0 : Nat) : Int) = Builtin.Range.rangeSize lo hi 1 := by rw [rangeSize_one]; split <;> omega
    show IsRangeIter _ _ (lo + ((0 : Nat) : Int) * 1) ((((hi - lo).toNat : Nat) : Int) - ((0 : Nat) : Int)) 1
    rw [e1, e2]
    exact Heap.get?_push_size _ rfl
  · have e : b = (s.heap.push { cls := .type "range", data := .fields #[.int lo t, .int hi u, .int 1 v] }).objs.size := by simpa using hb
    subst e
    exact I1.fpOk (Nat.le_refl _) (I1.hok.fresh (Nat.le_refl _))
theorem pi_range1X {a : Expr} {ta : TA} {p pos : Pos} (hg : Gl X "range") (hm : X.mg "range" = none) (ha : PA X [a] ta) (hs : starEach [a] X.env = [(false, eval a X.env)] := by rfl) : PIX X tg (.Call (.Name "range" p) [a] [] pos) (iRng1 ta) := by
  refine ⟨fun pins s σ H R I h => ?_⟩
  refine Call_ (ld_blt I hg hm boot_range (PyProof.Rows.callWith_type1 (thn (ha.run pos pins s σ H _ I h) fun us s1 ⟨vs, H1, I1, r1, q1⟩ => ?_) hs rfl))
  obtain ⟨j, e, q1, q2, q⟩ := q1
  subst e
  cases r1 with
  | cons r rr =>
    cases rr
    obtain ⟨t, rfl⟩ := r
    exact call_range_1 (range_itX I1 (by omega) (by omega) q1 q2 (by simpa using q))
end
end Dt
end
section
set_option maxRecDepth 100000
set_option maxHeartbeats 4000000
/-! RH2: list comprehensions while an exception is handled. (Over L2N.) -/
namespace Dt
open PySem PySem.Spec
open L2 hiding passL ps_try_many HdsOk takes0 XE Takes CX takes_of passes_call PMk MkP ps_raise mk_of ps_try_as pmk_own
open L2N hiding St
open L2H hiding St
open PyProof.Rows hiding St
open HotX
section
variable {X : Cx}
theorem lc_coreX {pins : List (Addr × Obj)} {s : Shared} {σ : St} {H : Hp} {Q : VK} {elt tg iter : Expr} {ifs : List Expr} {scope : Scope} {own : List (Str × Nat)} {pos pos' : Pos} {wi : TI} {g : TG} {tt : TT} {te : TE} {use : Option (Value → Sem Unit)} {Qf : Value → Shared → Prop}
    (hX : HotX X) (hN : X.N.Nodup) (I : Inv X pins σ H s) (hi : PIX X tg iter wi) (ok : BlkOk X.N X.env.scope scope own)
    (hg : ∀ (s : Shared) (H : Hp) (C : Addr) (cl : List (Str × Addr)) (fp : List Addr), PG (X.blk s H scope (compEnvC scope cl C X.env) fp) tg g) (ht : ∀ (s : Shared) (H : Hp) (C : Addr) (cl : List (Str × Addr)) (fp : List Addr), PTs (X.blk s H scope (compEnvC scope cl C X.env) fp) ifs tt)
    (he : ∀ (s : Shared) (H : Hp) (C : Addr) (cl : List (Str × Addr)) (fp : List Addr), PE (X.blk s H scope (compEnvC scope cl C X.env) fp) elt te) (hs : ∀ x, foldedSetIterable iter X.env x = pure x)
    (h : tLc wi g tt te (own.map (·.2)) σ H Q)
    (hRR : ∀ D C s' m H', Inv X pins σ H' s' → Q (.ref D) H' → s'.heap.Ns C m → FpOk X pins H' C → compPost (model X.prog X.w) X.A X.xe use Qf (.ref D) C (.ok .next) s') :
    wpAny (model X.prog X.w) X.A (comprehension (.ListComp elt [⟨tg, iter, ifs, 0⟩] scope pos) scope X.env pos' (newList []) false (eval iter X.env) use) Qf X.xe s := by
  have hfree : ∀ y ∈ scope.names, y.2 = .free → ∃ c, X.env.cells.lookup y.1 = some c := fun y hy e => by
    rcases ok.free y hy e with k | k
    · exact I.ok.has _ (.inl k)
    · exact I.ok.has _ (.inr k)
  refine wpAny_comprehension_free (use := use) rfl hs (closure_ok hfree) ok.kind (fun y hy e => by rw [ok.uniq y hy, e])
    (thn (hi.run pins s σ H _ I h) fun xv s1 hx => thn hx fun itv s2 h2 => ?_)
  obtain ⟨it, fp, tn, J, H2, e, I2, T, st2, f2, q⟩ := h2
  subst e
  refine wpAny_newObj_type (newEnv_comp ?_) (by show 0 ≤ sizeLine; decide)
  generalize hD : s2.heap.objs.size = D
  have hDn : H2 D = none := I2.hok.fresh (Nat.le_of_eq hD)
  obtain ⟨W, ⟨m0, w0⟩, turn⟩ := q D hDn
  -- the new list
  generalize hs3 : ({ s2 with heap := s2.heap.push { cls := .type "list", data := .seq ([] : List Value).toArray } } : Shared) = s3
  have I3 : Inv X pins σ (upd H2 D (.lst [])) s3 := by
    rw [← hs3]
    refine I2.laid (t' := s2.toks) (fun b o e => Heap.get?_push_of_some _ e) (Nat.le_of_eq hD) ⟨Nat.zero_le _, [], 0, .nil, ?_⟩
    rw [← hD]
    exact Heap.get?_push_size _ rfl
  have h3 : s3.heap = s2.heap.push { cls := .type "list", data := .seq ([] : List Value).toArray } := by rw [← hs3]
  have sz : ∀ b ∈ fp, b < s2.heap.objs.size := fun b hb => by
    obtain ⟨o, e, _⟩ := T.obj _ _ st2 b hb
    exact Heap.lt_size e
  have f3 : ∀ b ∈ fp, FpOk X pins (upd H2 D (.lst [])) b ∧ b < s3.heap.objs.size := fun b hb => by
    have hlt := sz b hb
    refine ⟨⟨?_, (f2 b hb).2⟩, by rw [h3, Heap.size_push]; exact Nat.lt_succ_of_lt hlt⟩
    rw [upd_ne (by rw [← hD]; exact Nat.ne_of_lt hlt)]
    exact (f2 b hb).1
  have st3 : tn 0 s3.heap := T.keep _ _ _ st2 fun b _ o e => by rw [h3]; exact Heap.get?_push_of_some _ e
  have I4 := block_start I3 ok hN f3
  have pg := hg s3 (upd H2 D (.lst [])) s3.heap.objs.size (cellsFrom (s3.heap.objs.size + 1) scope.names (cloFrom X.env.cells scope.names [])) fp
  have pt := ht s3 (upd H2 D (.lst [])) s3.heap.objs.size (cellsFrom (s3.heap.objs.size + 1) scope.names (cloFrom X.env.cells scope.names [])) fp
  have pe := he s3 (upd H2 D (.lst [])) s3.heap.objs.size (cellsFrom (s3.heap.objs.size + 1) scope.names (cloFrom X.env.cells scope.names [])) fp
  show codeAny _ _ (.compStart (.ListComp elt [⟨tg, iter, ifs, 0⟩] scope pos) 0 (.ref it) (.ref D) (compEnvC scope (cellsFrom (s3.heap.objs.size + 1) scope.names (cloFrom X.env.cells scope.names [])) s3.heap.objs.size X.env)) (compPost (model X.prog X.w) X.A X.xe use Qf (.ref D) s3.heap.objs.size) { s3 with heap := pushCells (s3.heap.push { cls := .type "dict", data := .dict #[] }) scope.names }
  have nfp : ∀ b ∈ fp, (upd H2 D (.lst [])) b = none := fun b hb => (f3 b hb).1.1
  generalize hce : compEnvC scope (cellsFrom (s3.heap.objs.size + 1) scope.names (cloFrom X.env.cells scope.names [])) s3.heap.objs.size X.env = ce at I4 pg pt pe ⊢
  have cL : ce.locals = s3.heap.objs.size := by subst hce; rfl
  generalize hH3 : upd H2 D (.lst []) = H3 at I3 I4 pg pt pe w0 nfp f3
  generalize hs4 : ({ s3 with heap := pushCells (s3.heap.push { cls := .type "dict", data := .dict #[] }) scope.names } : Shared) = s4 at I4 ⊢
  have st4 : tn 0 s4.heap := T.keep _ _ _ st3 fun b _ o e => by rw [← hs4]; exact pushCells_keeps _ _ _ _ (Heap.get?_push_of_some _ e)
  have stat : ∀ {σ' : St} {H' : Hp} {s' : Shared}, Inv (X.blk s3 H3 scope ce fp) [] σ' H' s' → (∀ b ∈ fp, H' b = none) → ∀ b ∈ fp, FpOk (X.blk s3 H3 scope ce fp) [] H' b := fun {σ' H' s'} I' hn b hb =>
    ⟨hn b hb, (I'.ok.exf b hb).1, I'.ok.exfs b hb, .inl hb, fun x c e => (I'.ok.exf b hb).2 x c e, fun p hp => absurd (show p ∈ ([] : List (Addr × Obj)) ++ [] from hp) (by simp)⟩
  -- back in the def's context
  have out : ∀ {H' : Hp} {s' : Shared} {τ : St}, Inv (X.blk s3 H3 scope ce fp) [] τ H' s' → Inv X pins σ H' s' := fun {H' s' τ} I6 =>
    I3.call' (ch := fp) I6.os I6.base I6.hok I6.bare fun b hb => ⟨(f3 b hb).1.2.2.2.1, (f3 b hb).1.2.1, (f3 b hb).1.2.2.2.2.1, (f3 b hb).1.2.2.2.2.2⟩
  have loop : codeAny (model X.prog X.w) X.A (.compLoop (.ListComp elt [⟨tg, iter, ifs, 0⟩] scope pos) 0 (.ref it) (.ref D) ce) (compPost (model X.prog X.w) X.A X.xe use Qf (.ref D) s3.heap.objs.size) s4 := by
    refine compLoop_any (fun n s' => ∃ i H', Inv (X.blk s3 H3 scope ce fp) [] (wipe σ (own.map (·.2))) H' s' ∧ tn i s'.heap ∧ (∀ b ∈ fp, H' b = none) ∧ W i n H') ?_ m0 ⟨0, H3, I4, st4, nfp, w0⟩
    rintro n s5 ⟨i, H5, I5, st5, n5, w5⟩
    rcases turn i n H5 w5 with ⟨stop, qq⟩ | ⟨go, Nx, hNx, step⟩
    · obtain ⟨x1, hot, hex, hlt⟩ := hX.at (out I5)
      have hne : x1 ∉ fp := fun z => by
        rcases (f2 x1 z).2.2.2.1 with y | y
        · exact hex y
        · exact absurd hlt (Nat.not_lt.mpr y)
      have td := T.done (X.blk s3 H3 scope ce fp) rfl rfl rfl i [] s5 _ H5 (fun _ _ => False) I5 (stat I5 n5) st5 stop ⟨x1, hot, hne⟩
      refine thnF td fun r s6 ⟨hr, I6⟩ => ?_
      subst hr
      have I7 : Inv X pins σ H5 s6 := out I6
      have nC : H5 s3.heap.objs.size = none := by
        have z : H5 ce.locals = none := I6.free
        rw [cL] at z
        exact z
      obtain ⟨m, hn, _⟩ := I6.loc
      have hn : s6.heap.Ns ce.locals m := hn
      rw [cL] at hn
      exact hRR D s3.heap.objs.size s6 m H5 I7 qq hn (I3.fpOk (Nat.le_refl _) nC)
    · have ti := T.item (X.blk s3 H3 scope ce fp) rfl rfl rfl i [] s5 _ H5 (fun _ _ => False) I5 (stat I5 n5) st5 go
      refine thnF ti fun r s6 ⟨u, hr, h6⟩ => ?_
      subst hr
      refine thnF h6 fun _ s7 ⟨x, H7, I7, r7, y7, st7, n7⟩ => ?_
      have I7' := I7.pinned (stat I7 n7) (T.obj _ _ st7)
      refine thnF (pg.run _ s7 _ H7 x u _ I7' r7 (step x H7 y7)) fun _ s8 ⟨σ8, H8, I8, hw8, q8⟩ => ?_
      refine thnF (pt.run _ s8 σ8 H8 _ I8 q8) fun b s9 ⟨H9, I9, q9⟩ => ?_
      -- the turn's end
      have fin : ∀ {s' : Shared} {H' : Hp}, Inv (X.blk s3 H3 scope ce fp) ([] ++ pinsAt fp s7.heap) σ8 H' s' → Nx H' → ∃ m, m < n ∧ ∃ i H', Inv (X.blk s3 H3 scope ce fp) [] (wipe σ (own.map (·.2))) H' s' ∧ tn i s'.heap ∧ (∀ b ∈ fp, H' b = none) ∧ W i m H' := fun {s' H'} I' nx => by
        obtain ⟨m', hm, w'⟩ := hNx H' nx
        have pin' : ∀ b ∈ fp, ∀ o, s7.heap.get? b = some o → s'.heap.get? b = some o ∧ H' b = none := fun b hb o e =>
          let z := I'.pin (b, o) (List.mem_append_right _ (List.mem_append_right _ (mem_pinsAt hb e)))
          ⟨z.1, z.2.1⟩
        have hl : (wipe σ (own.map (·.2))).length = σ8.length := by rw [← hw8, wipe_length]
        refine ⟨m', hm, i + 1, H', (I'.unpinned (pins := [])).weak hl (fun j v e => ?_), T.keep _ _ _ st7 fun b hb o e => (pin' b hb o e).1, fun b hb => ?_, w'⟩
        · rw [← hw8] at e
          exact (wipe_some e).1
        · obtain ⟨o, e, _⟩ := T.obj _ _ st7 b hb
          exact (pin' b hb o e).2
      cases b with
      | false =>
        simp only [Bool.false_eq_true, if_false] at q9 ⊢
        exact fin I9 q9
      | true =>
        simp only [if_true] at q9 ⊢
        refine thnF (pe.run _ s9 σ8 H9 _ I9 q9) fun z s10 ⟨yv, H10, I10, r10, acc, hD10, hz10, nx⟩ => ?_
        exact app_ok (X := X.blk s3 H3 scope ce fp) I10 hD10 hz10 r10 fun s11 I11 => fin I11 nx
  exact codeAny_compStart_list loop (T.self X.A 0 _ _ _ st4 loop)
theorem pe_lcX {elt tg iter : Expr} {ifs : List Expr} {scope : Scope} {own : List (Str × Nat)} {pos : Pos} {wi : TI} {g : TG} {tt : TT} {te : TE} (hx : HotX X) (hN : X.N.Nodup) (hi : PIX X tg iter wi) (ok : BlkOk X.N X.env.scope scope own)
    (hg : ∀ (s : Shared) (H : Hp) (C : Addr) (cl : List (Str × Addr)) (fp : List Addr), PG (X.blk s H scope (compEnvC scope cl C X.env) fp) tg g) (ht : ∀ (s : Shared) (H : Hp) (C : Addr) (cl : List (Str × Addr)) (fp : List Addr), PTs (X.blk s H scope (compEnvC scope cl C X.env) fp) ifs tt)
    (he : ∀ (s : Shared) (H : Hp) (C : Addr) (cl : List (Str × Addr)) (fp : List Addr), PE (X.blk s H scope (compEnvC scope cl C X.env) fp) elt te) (hs : ∀ x, foldedSetIterable iter X.env x = pure x := by intro _; rfl) :
    PE X (.ListComp elt [⟨tg, iter, ifs, 0⟩] scope pos) (tLc wi g tt te (own.map (·.2))) := by
  refine ⟨fun pins s σ H Q I h => ?_⟩
  rw [eval_ListComp]
  refine lc_coreX hx hN I hi ok hg ht he hs h fun D C s' m H' I' q hn f => ⟨m, hn, fun h'' sb => ?_⟩
  obtain ⟨f0, f1, f2, f3, f4, f5⟩ := f
  exact ⟨.ref D, H', I'.turned (t' := s'.toks) (fun b o hb e => (sb.2 b hb).trans e) f0 f1 f3 f4 f5, rfl, q⟩
end
/-! ### readings -/
def QIX (T : Tab) (X : Cx) (tg iter : Expr) (f : M (List D)) : Prop := ∀ pn xe W, Takes (X.tr pn xe) W → PassesOwn (model X.prog X.w) X.A X.env xe → PIX (X.tr pn xe) tg iter (tr X.K T (relI X.K T) f W)
section
variable {T : Tab} {X : Cx} {tg e a : Expr} {f : M EV} {fs : M (List AV)} {p pos : Pos}
theorem impIX {X : Cx} {tg e : Expr} {t t' : TI} (h : PIX X tg e t) (k : ∀ σ H Q, t' σ H Q → t σ H Q) : PIX X tg e t' := ⟨fun pins s σ H Q I q => h.run pins s σ H Q I (k σ H Q q)⟩
theorem qi_lstX (h : QE T X e f) : QIX T X tg e (iLst f) := fun pn xe W tk hp => impIX (pi_listX (h pn xe W tk hp)) fun σ H Q ⟨ex, env, q⟩ => by
  have g0 := q.1
  refine ⟨ex, env, (trx_bind (relE X.K T) rmI q).mono fun v H1 ⟨ev, env1, s, r, q⟩ => ?_⟩
  have stuck : ∀ {f : M (List D)}, f = M.stuck → trx X.K T (relI X.K T) ex f env1 W σ H1 Q → False := fun e ⟨_, _, q, _⟩ => by rw [e] at q; cases q
  cases w : frz ev with
  | none => rw [w] at q; exact (stuck rfl q).elim
  | some d =>
    rw [w] at q
    have rd := RepE.frz g0 s r w
    cases d with
    | lst ds =>
      obtain ⟨g, k⟩ := trx_ret q
      obtain ⟨a, vs, e1, h0, h1, h2⟩ := rd
      exact ⟨a, vs, e1, SqL.of h1, fun hz => k _ H1 (Step.refl g) (itok_list hz ⟨h0, h1⟩ h2)⟩
    | _ => exact (stuck rfl q).elim
theorem qi_range1X (hg : Gl X "range") (hm : X.mg "range" = none) (h : QAs T X [a] fs) (hs : starEach [a] X.env = [(false, eval a X.env)] := by rfl) : QIX T X tg (.Call (.Name "range" p) [a] [] pos) (iRange1 fs) := fun pn xe W tk hp => impIX (pi_range1X (X := X.tr pn xe) hg hm (h pn xe W tk hp) hs) fun σ H Q ⟨ex, env, q⟩ => by
  refine ⟨ex, env, (trx_bind (relAs X.K T) rmI q).mono fun vs H1 ⟨as, env1, s, r, q⟩ => ?_⟩
  have stuck : ∀ {f : M (List D)}, f = M.stuck → trx X.K T (relI X.K T) ex f env1 W σ H1 Q → False := fun e ⟨_, _, q, _⟩ => by rw [e] at q; cases q
  split at q
  · rename_i j
    by_cases hj : small62 j = true
    · rw [if_pos hj] at q
      obtain ⟨g, k⟩ := trx_ret q
      have hj' := of_decide_eq_true hj
      cases r with
      | cons r1 r2 =>
        cases r2
        have e := int_of r1
        subst e
        refine ⟨j, rfl, by omega, by omega, k _ H1 (Step.refl g) ?_⟩
        have : ItOK X.K T (exO ex σ env1) H1 (Itr 0 j.toNat) ((List.range j.toNat).map fun (i : Nat) => D.int (0 + (i : Int))) := itok_range (by omega)
        unfold relI rangeD
        rw [Int.sub_zero]
        exact this
    · rw [if_neg hj] at q; exact (stuck rfl q).elim
  · exact (stuck rfl q).elim
end
section
variable {T : Tab} {X : Cx} {elt tg iter : Expr} {ifs : List Expr} {scope : Scope} {own : List (Str × Nat)} {pos : Pos} {fi : M (List D)} {t : D → Sl → Option Sl} {c : M Bool} {f : M EV}
theorem qe_compX (hx : HotX X) (hN : X.N.Nodup) (hi : QIX T X tg iter fi) (ok : BlkOk X.N X.env.scope scope own)
    (hg : Blk X scope fun Y => QG T Y (but (own.map (·.2))) tg t) (ht : Blk X scope fun Y => QTs T Y ifs c) (he : Blk X scope fun Y => QE T Y elt f) (hs : ∀ x, foldedSetIterable iter X.env x = pure x := by intro _; rfl) :
    QE T X (.ListComp elt [⟨tg, iter, ifs, 0⟩] scope pos) (eComp (own.map (·.2)) fi t c f) := fun pn xe W tk hp => by
  refine impE (pe_lcX (X := X.tr pn xe) (g := trG X.K T (but (own.map (·.2))) t) (tt := tr X.K T relT c W0) (te := tr X.K T (relE X.K T) f W0) (hx.tr pn xe) hN (hi pn xe W tk hp) ok (fun s H C cl fp => hg s H C cl fp [] fun _ _ => False) (fun s H C cl fp => ht s H C cl fp [] (fun _ _ => False) W0 takes0 .never)
    (fun s H C cl fp => he s H C cl fp [] (fun _ _ => False) W0 takes0 .never) hs) fun σ H Q q => ?_
  obtain ⟨ex, env, q⟩ := q
  have g0 := q.1
  refine ⟨ex, env, (trx_bind (relI X.K T) rmE q).mono fun J H1 ⟨items, env1, s0, it, q⟩ D hD => ?_⟩
  obtain ⟨g1, r, er, o⟩ := q
  dsimp only at er
  cases w : compL (own.map (·.2)) t c f items [] (wipeE env1 (own.map (·.2))) with
  | none => rw [w] at er; cases er
  | some p =>
    obtain ⟨acc, envF⟩ := p
    rw [w] at er
    cases er
    exact comp_turns (Qd := fun H' => Q (.ref D) H') g0 s0 it w hD fun H' vacc s gD eD ra => o (.ref D) H' s ⟨D, rfl, hD, ⟨vacc, eD, ra⟩, gD⟩
end
end Dt
end
section
set_option maxRecDepth 100000
set_option maxHeartbeats 4000000
/-! RH3: all(list) while an exception is handled. (Over L2N.) -/
namespace Dt
open PySem PySem.Spec
open L2 hiding passL ps_try_many HdsOk takes0 XE Takes CX takes_of passes_call PMk MkP ps_raise mk_of ps_try_as pmk_own
open L2N hiding St
open L2H hiding St
open PyProof.Rows hiding St
open _root_.HotX
theorem hot_keep {A : Around} {x1 : Addr} {h h' : Heap} (k : ∀ o, h.get? x1 = some o → h'.get? x1 = some o) (t : HotAt A x1 h) : HotAt A x1 h' := let ⟨a, o, vs, b, c, d⟩ := t; ⟨a, o, vs, k _ b, c, d⟩
theorem walks_hot {prog : Program} {w : World} {A : Around} {x1 : Addr} (I ax : Addr) (hne : ax ≠ I) (hx : x1 ≠ I) (items : Array Value) :
    Walks prog w A I [I, ax, x1] [I] items.size (fun i v => items[i]? = some v) (fun i h => (h.IsListIter I ax i ∧ h.IsList ax items) ∧ HotAt A x1 h) where
  sub := fun b hb => by simp at hb; simp [hb]
  frame := fun _ _ _ st hk => ⟨⟨st.1.1.at fun o e => hk I (by simp) o e, st.1.2.at fun o e => hk ax (by simp) o e⟩, hot_keep (fun o e => hk x1 (by simp) o e) st.2⟩
  item := fun i s Q E hi st hQ => by
    refine wpAny_pyNext_list_item st.1.1 st.1.2 (x := items[i]) (by simp [hi]) fun h' hit' hs' => ?_
    exact hQ _ h' s.toks (by simp [hi]) ⟨⟨hit', st.1.2.extBut hs'.extBut hne⟩, hot_keep (fun o e => hs'.extBut x1 o hx e) st.2⟩ fun b o hb e => hs'.extBut b o (fun h => hb (by simp [h])) e
  done := fun s Q E st hQ => next_list_hot st.2 hx st.1.1 st.1.2 (by simp) fun h' he' => hQ h' s.toks fun b o hb e => he' b o (fun h => hb (by simp [h])) e
  self := fun _ _ _ _ st hQ => wpAny_pyIter_listiter st.1.1 hQ
section
variable {X : Cx} {T : Tab}
theorem cr_allX (hX : HotX X) : CallR X (.builtin "all") (rAll X.K) := by
  intro pins s σ H vs us Q I r h
  obtain ⟨a, bs, rfl, hs, q⟩ := h
  obtain ⟨its, rv, hl, _⟩ := I.list hs
  obtain ⟨x1, hot, _, _⟩ := hX.at I
  rw [Vals.ref1 r]
  have hb := rv.bls
  have hlt : x1 < s.heap.objs.size := by obtain ⟨_, o, _, e, _⟩ := hot; exact Heap.lt_size e
  refine call_all_walk (iter_any hl.isList fun s₂ e2 st hne => ?_)
  subst e2
  refine ⟨_, _, _, _, _, _, _, rfl, walks_hot (A := X.A.in1) (x1 := x1) _ a hne (Nat.ne_of_lt hlt) its.toArray, ⟨st, hot_keep (fun o e => Heap.get?_push_of_some _ e) hot⟩, truth_bools hb, fun h' tk hk => ?_⟩
  refine ⟨.bl _, H, I.kept fun b o eo => hk b o (fun hmem => ?_) (Heap.get?_push_of_some _ eo), ?_, q⟩
  · rcases List.mem_cons.mp hmem with e1 | hmem
    · exact absurd (e1 ▸ Heap.lt_size eo) (Nat.lt_irrefl _)
    · cases hmem
  · show Value.bool _ = Value.bool _
    rw [← L2.all_range, hb, List.size_toArray, List.length_map]
theorem cr_allQX (hX : HotX X) : CallR X (.builtin "all") (rB X.K T allD) := cr_of (cr_allX hX) fun xs H Q ⟨ex, ds, ev, dm, r, e, k⟩ => by
  unfold allD at e
  split at e
  · obtain ⟨bs, e1, rfl⟩ := Option.map_eq_some_iff.mp e
    obtain ⟨v, rfl, a, vs, rfl, h1, h2⟩ := one_of r
    cases bls_rep e1 h2
    exact ⟨a, bs, rfl, .of h1, k _ _ ext_refl rfl⟩
  · cases e
end
end Dt
end
section
set_option maxRecDepth 100000
set_option maxHeartbeats 4000000
/-! RH4: a def's reading as its promise while an exception is handled; a suite that asks whether a def gives None. (Over L2N.) -/
namespace Dt
open PySem PySem.Spec
open L2 hiding passL ps_try_many HdsOk takes0 XE Takes CX takes_of passes_call PMk MkP ps_raise mk_of ps_try_as pmk_own
open L2N hiding St
open L2H hiding St
open PyProof.Rows hiding St
def spD0 (K : PySem.W.Frag) (T : Tab) (g : M EV) : Sp := fun vs H Q _ => spD K T g vs H Q fun _ _ _ => False
section
variable {P : Program} {w : World} {K : PySem.W.Frag} {mg : Str → Option Value} {base : Heap} {T : Tab}
theorem spD_trS {N ps : List Str} {body : S} {H : Hp} {E : XK} {vs : List V} {Q : VK} (hpl : ps.length ≤ N.length) (hsp : spD K T (funD N.length ps.length body) vs H Q E) : trS K T (lt ps.length) body (fun c d _ H => E c d H) { nx := fun _ H' => Q .non H', rt := Q } (start N vs) H := by
  obtain ⟨ex, args, g, r, e, o⟩ := hsp
  unfold funD at e
  by_cases hl : args.length = ps.length
  · rw [if_pos hl] at e
    refine ⟨ex, _, start_good hl hpl g, ?_⟩
    cases w : body (args ++ List.replicate (N.length - ps.length) .emp) with
    | none => rw [w] at e; cases e
    | some rb =>
      rw [w] at e
      refine ⟨rb, rfl, ?_⟩
      cases rb with
      | bk _ => cases e
      | ct _ => cases e
      | nx e1 =>
        cases e
        intro σ' H' s
        obtain ⟨s', _, _⟩ := end_step hl hpl g s
        exact o .non H' s' rfl
      | rt v e1 =>
        cases e
        intro u σ' H' s rr
        obtain ⟨s', exb, gm⟩ := end_step hl hpl g s
        refine o u H' s' ?_
        cases v with
        | v d => exact Rep.mono (fun a o n e => ⟨fun z => n (exb a z), e⟩) rr
        | o c =>
          obtain ⟨a, ev, na, no, hn, ro, gx⟩ := rr
          refine ⟨a, ev, ?_, ro.mono rfl fun b o n e => ⟨fun z => n (z.imp (exb b) id), e⟩, gm a gx⟩
          rcases hn with ⟨j, c', hj, e1, _⟩ | hn
          · rcases app_get e1 with ⟨h1, _⟩ | ⟨_, h⟩
            · have := of_decide_eq_false hj; omega
            · cases h
          · exact hn
      | exc x e1 =>
        cases e
        intro cls dd σ' H' s rx
        obtain ⟨s', exb, _⟩ := end_step hl hpl g s
        refine o cls dd H' s' ⟨rx.1, rx.2.imp id ?_⟩
        rintro ⟨a, ws, e1, e2, l, r⟩
        exact ⟨a, ws, e1, e2, l, r.mono fun a o n e => ⟨fun z => n (exb a z), e⟩⟩
  · rw [if_neg hl] at e; cases e
theorem fnHG_ofP {x qual : Str} {st : Stmt} {f : Addr} {fd : FuncData} {N ps : List Str} {k : Nat} {sp : Sp} (F : Fun K x qual st f fd) (Sc : FnScope N ps (defScope st)) (bd : Binds K fd ps []) (len : ∀ vs H Q E, sp vs H Q E → vs.length = ps.length)
    (hb : ∀ (cdv : Value) (A : Around) (outer : List Env) (s : Shared) (H : Hp) (vs : List V) (Q : VK) (E : XK) (p : Addr × Obj), Hot1 A p → PinOk outer H s p → RGH k (A.deeper (envOfC qual (defScope st) s.heap.objs.size f cdv)) → sp vs H Q E →
      ∃ t, PSs (cxH CX0 P w K mg base N qual (defScope st) f cdv A outer s H E p) (defBody st) t ∧ t { nx := fun _ H' => Q .non H', rt := Q } (start N vs) H) :
    FnHG P w K mg base (k + 1) f sp := by
  obtain ⟨oc, od, kV, doc, pm, an, cdv, ct, osl, rfl, lk, hcd⟩ := F.ex
  intro A outer s H us vs Q E p hr hot hpin e0 r hsp
  have hl : vs.length = ps.length := len _ _ _ _ hsp
  have KX : K.In s.heap := e0.mod.kin.keeps fun b o e => (e0.bs b o e).1
  have lim : s.heap.NoLimit := e0.mod.nolimit.keeps fun b o e => (e0.bs b o e).1
  have hb2 := bd s us KX (by rw [List.append_nil, ← r.length]; exact hl)
  rw [List.append_nil] at hb2
  have hkind : ∀ y ∈ ps.zip us, (defScope st).names.lookup y.1 = some .local ∨ ((defScope st).names.lookup y.1 = some .cell ∧ ((cellsFrom (s.heap.objs.size + 1) (defScope st).names []).lookup y.1).isSome = true) := fun ⟨n, v⟩ hy => by
    rcases Sc.par n (List.of_mem_zip hy).1 with q | q
    · exact .inl q
    · exact .inr ⟨q, PySem.W.cellsFrom_some _ _ _ (.inl q)⟩
  refine codeAny_call_function hr.r.depth (KX _ _ lk) rfl Sc.co Sc.gen rfl (PySem.W.codeRec_of KX hcd) (hb2 _ _ _ _ ?_)
  refine wpAny_newFunctionEnv_cells Sc.kind hkind fun env he s1 x => ?_
  subst he
  refine ⟨lim.keeps x.toInCall.keep, codeAny_func ?_⟩
  obtain ⟨t, ht, hq⟩ := hb cdv A outer s H vs Q E p hot hpin (hr.deeper _) hsp
  have I : Inv (cxH CX0 P w K mg base N qual (defScope st) f cdv A outer s H E p) [] (start N vs) H s1 := inv_startH Sc hpin e0 hl r x
  refine wpAny_mono (ht.run [] s1 (start N vs) H _ I hq) (fun fl s' hs => ?_) fun e s' hs => hs
  have fin : ∀ {σ' : St} {H' : Hp} {v : V} {u : Value}, Inv (cxH CX0 P w K mg base N qual (defScope st) f cdv A outer s H E p) [] σ' H' s' → RelV v u → Q v H' → CE outer P w H s Q u s' :=
    fun {σ' H' v u} J rv q => ⟨v, H', J.os, J.bare, J.base, J.hok, rv, q⟩
  cases fl with
  | ret u =>
    obtain ⟨v, σ', H', J, rv, q⟩ := hs
    exact fin J rv q
  | next =>
    obtain ⟨σ', H', J, q⟩ := hs
    exact fin (v := V.non) (u := Value.none) J rfl q
  | brk =>
    obtain ⟨_, _, _, q⟩ := hs
    exact False.elim q
  | cont =>
    obtain ⟨_, _, _, q⟩ := hs
    exact False.elim q
theorem Fun.qH {x qual : Str} {st : Stmt} {f : Addr} {fd : FuncData} {N ps : List Str} {k : Nat} {body : S} (F : Fun K x qual st f fd) (Sc : FnScope N ps (defScope st)) (bd : Binds K fd ps [])
    (hb : ∀ (cdv : Value) (A : Around) (outer : List Env) (s : Shared) (H : Hp) (E : XK) (p : Addr × Obj), HotX (cxH CX0 P w K mg base N qual (defScope st) f cdv A outer s H E p) → RGH k (A.deeper (envOfC qual (defScope st) s.heap.objs.size f cdv)) →
      QSs T (cxH CX0 P w K mg base N qual (defScope st) f cdv A outer s H E p) (lt ps.length) (defBody st) body) :
    FnHG P w K mg base (k + 1) f (spD0 K T (funD N.length ps.length body)) := by
  have hpl : ps.length ≤ N.length := by have := congrArg List.length Sc.pre; rw [List.length_take] at this; omega
  refine fnHG_ofP F Sc bd (fun vs H Q E h => fun_len h) fun cdv A outer s H vs Q E p hot hpin hr hsp => ?_
  have q := hb cdv A outer s H E p (hotX_of hot hpin) hr (cxH CX0 P w K mg base N qual (defScope st) f cdv A outer s H E p).pn (cxH CX0 P w K mg base N qual (defScope st) f cdv A outer s H E p).xe (fun _ _ _ _ => False) takes0 (passes_of rfl)
  exact ⟨_, q, spD_trS hpl hsp⟩
end
section
variable {T : Tab} {X : Cx} {np : Nat → Bool}
theorem qs_tryN {body suite : List Stmt} {b₀ : Stmt} {cn : Str} {c : Value} {fb fs : S} {sb : Nat → Option Bool} {pos pos' np' : Pos} (hs : X.stack = X.env :: X.outer) (hf : X.env.frame = some X.env.locals) (hc : Names X cn c)
    (hb : QSs T X np body fb) (hsb : ∀ t b, sb t = some b → PySem.W.exmOne X.K (.ref (T.cls t)) c = some b)
    (hsu : ∀ (a : Addr) (oe : Obj) (pn : List (Addr × Obj)), HotC (X.suite a ((a, oe) :: pn)) → PSs (X.suite a ((a, oe) :: pn)) (b₀ :: suite) (trS X.K T np fs W0)) :
    QS T X np (.Try body [.ExceptHandler (some (.Name cn np')) none (b₀ :: suite) pos'] [] [] pos) (sTry fb sb fs) := fun pn xe W tk hp => by
  refine impS (L2N.ps_try_many (X := X.tr pn xe) (tb := fun W => trS X.K T np fb W) (l := [(c, fun _ _ _ => trS X.K T np fs W0)]) hs hf tk (fun W' pn' xe' tk' hp' => hb pn' xe' W' tk' hp') (.cons hc (fun a oe cls d pn' hz hfl => hsu a oe pn' (by
    obtain ⟨vs0, hvs⟩ := hfl
    exact ⟨(a, oe), ⟨rfl, vs0, hvs, hz.2.2 vs0 hvs⟩, List.mem_cons_self⟩)) .nil)) fun D σ H ⟨ex, env, g, r, er, o⟩ => ?_
  unfold sTry at er
  refine ⟨ex, env, g, ?_⟩
  cases q : fb env with
  | none => rw [q] at er; cases er
  | some rb =>
    rw [q] at er
    refine ⟨rb, rfl, ?_⟩
    cases rb with
    | exc z e =>
      dsimp only at er
      intro cls dd σ' H' s rx
      cases w : sb z.t with
      | none => rw [w] at er; cases er
      | some b =>
        rw [w] at er
        refine ⟨b, by rw [rx.1]; exact hsb _ _ w, fun hb a ha => ?_, fun hb => ?_⟩
        · subst hb
          dsimp only at er
          split at er
          · cases er
          · rename_i hne
            refine ⟨ex, e, s.gd, r, er, ?_⟩
            have o' := o.back s
            cases r with
            | exc z2 e2 => exact absurd er (hne z2 e2)
            | _ => exact o'
        · subst hb
          cases er
          exact o cls dd σ' H' s rx
    | _ => cases er; exact o
theorem tr_toA {K : PySem.W.Frag} {T : Tab} {W : WX} {σ : St} {H : Hp} {Q : VK} {f : M EV} (q : tr K T (relA K T) (toA f) W σ H Q) : tr K T (relE K T) f W σ H Q := by
  obtain ⟨ex, env, q⟩ := q
  refine ⟨ex, env, (trx_bind (relE K T) rmA q).mono fun v H1 ⟨ev, env1, s, r, q⟩ => ?_⟩
  cases f : frz ev with
  | none => rw [f] at q; obtain ⟨_, _, e, _⟩ := q; cases e
  | some d =>
    rw [f] at q
    obtain ⟨g, k⟩ := trx_ret q
    obtain ⟨g0, _⟩ : Good K T ex σ H env ∧ True := ⟨by rename_i q0 _; exact q0.1, trivial⟩
    exact k v H1 (Step.refl g) (RepE.frz g0 s r f)
/-- return f(x) is None -/
theorem hsu_isnon {dn n : Str} {f : Addr} {g : M EV} {i k j : Nat} {p1 p2 p3 p4 p5 p6 : Pos} (F : FnHG X.prog X.w X.K X.mg X.base k f (spD0 X.K T g)) (hr : RG False k X.A) (hg : Gl X dn) (hm : X.mg dn = some (.ref f)) (hk : PySem.W.keepIn X.K (.ref f) = true)
    (hi : X.N[i]? = some n := by rfl) (hv : Vis X.env.scope n := by first | exact Or.inl rfl | exact Or.inr (Or.inl rfl) | exact Or.inr (Or.inr rfl)) (hd : (n == ("__debug__" : Str)) = false := by decide) (hcd : (n == ("__classdict__" : Str)) = false := by decide) (de : (dn == ("__debug__" : Str)) = false := by decide) :
    ∀ (a : Addr) (oe : Obj) (pn : List (Addr × Obj)), HotC (X.suite a ((a, oe) :: pn)) →
      PSs (X.suite a ((a, oe) :: pn)) [.Return (some (.Compare (.Call (.Name dn p1) [.Name n p2] [] p3) [.Is] [.Constant .none j p4] p5)) p6] (trS X.K T np (sRet (eOp (isD false) (toA (eCall g (asCons (oName i) asNil))) (toA (eC .non)))) W0) := by
  intro a oe pn hot
  have hgd : X.A.guards = some [] := hr.g.elim id False.elim
  have rh : RGH k (X.suite a ((a, oe) :: pn)).A := ⟨⟨hr.r.dp, hr.r.un⟩, hgd⟩
  have as1 : PA (X.suite a ((a, oe) :: pn)) [.Name n p2] (tr X.K T (relAs X.K T) (asCons (oName i) asNil) W0) := (qas_cons (qo_name (X := X.suite a ((a, oe) :: pn)) (T := T) (pos := p2) i hi hv hd hcd) qas_nil) ((a, oe) :: pn) (fun _ _ => False) W0 takes0 .never
  have ca := pe_callHG (X := X.suite a ((a, oe) :: pn)) (q := p1) (pos := p3) F rh hot hg hm hk as1 de
  have ce : PE (X.suite a ((a, oe) :: pn)) (.Call (.Name dn p1) [.Name n p2] [] p3) (tr X.K T (relE X.K T) (eCall g (asCons (oName i) asNil)) W0) := impE ca fun σ H Q q => tr_call q
  have co : PE (X.suite a ((a, oe) :: pn)) (.Call (.Name dn p1) [.Name n p2] [] p3) (tr X.K T (relA X.K T) (toA (eCall g (asCons (oName i) asNil))) W0) := impE ce fun σ H Q q => tr_toA q
  have cn := (qo_of (T := T) (X := X.suite a ((a, oe) :: pn)) (qe_non (pos := p4) (j := j))) ((a, oe) :: pn) (fun _ _ => False) W0 takes0 .never
  have cc : PE (X.suite a ((a, oe) :: pn)) (.Compare (.Call (.Name dn p1) [.Name n p2] [] p3) [.Is] [.Constant .none j p4] p5) (tr X.K T (relE X.K T) (eOp (isD false) (toA (eCall g (asCons (oName i) asNil))) (toA (eC .non))) W0) := impE (pe_cmpR (op_isNon (T := T) (X := X.suite a ((a, oe) :: pn))) co cn (by first | exact nomark _ (by decide) (by decide) | rfl | with_unfolding_all rfl)) fun σ H Q h => tr_op h
  refine pss_one (impS (ps_ret cc) fun D σ H q => ?_)
  obtain ⟨ex, env, z⟩ := trS_expr q (relE X.K T)
  refine ⟨ex, env, z.mono fun v H1 ⟨ex, env, H0, env1, a, g, s, ra, _, r, e, o⟩ => ?_⟩
  cases e
  exact o v σ H1 s.s (RepE.r g s ra)
end
end Dt
end
section
set_option maxRecDepth 100000
set_option maxHeartbeats 4000000
/-! the readings of the defs: printed by gen2.py. -/
namespace Pg
open PySem PySem.Spec L2 Dt
open PyProof.Rows hiding St
/- _law_source: 0:_law_cell_here -/
def bd__law_source : S := (sRet (eLst (asCons (toA (eB maxI (asCons (toA (eC (.int 0))) (asCons (toA (eOp subD (oName 0) (toA (eOp powD (toA (eC (.int 10))) (toA (eC (.int 18))))))) asNil)))) (asCons (toA (eOp addD (toA (eOp modD (oName 0) (toA (eC (.int 2147483629))))) (toA (eC (.int 1))))) (asCons (toA (eC (.int 0))) asNil)))))
def sem__law_source : M EV := funD 1 1 (bd__law_source)
/- _law_cell: 0:_law_script 1:_law_index -/
def bd__law_cell : S := (sSeq (sIf (toB (eOp ltD (oName 1) (toA (eB lenD (asCons (oName 0) asNil))))) (sRet (eOp ixD (oName 0) (oName 1))) sNil)
    (sRet (eC (.int 0))))
def sem__law_cell : M EV := funD 2 2 (bd__law_cell)
/- _law_draw: 0:_law_source_here 1:_law_many 2:_law_found 3:_law_mixed -/
def bd__law_draw : S := (sSeq (sIf (toB (eOp gtI (toA (eOp ixD (oName 0) (toA (eC (.int 0))))) (toA (eC (.int 0))))) (sSeq (sSet 2 (eOp modD (toA (eOp ixD (oName 0) (toA (eC (.int 0))))) (oName 1)))
    (sSeq (sSetL 0 (toA (eOp divD (toA (eOp ixD (oName 0) (toA (eC (.int 0))))) (oName 1))) (toA (eC (.int 0))))
    (sRetV (lt 2) 2))) sNil)
    (sSeq (sSetL 0 (toA (eOp addD (toA (eOp ixD (oName 0) (toA (eC (.int 2))))) (toA (eC (.int 1))))) (toA (eC (.int 2))))
    (sSeq (sSetL 0 (toA (eOp modD (toA (eOp addD (toA (eOp addD (toA (eOp mulX (toA (eOp ixD (oName 0) (toA (eC (.int 1))))) (toA (eC (.int 48271))))) (toA (eOp mulX (toA (eC (.int 1009))) (toA (eOp ixD (oName 0) (toA (eC (.int 2))))))))) (toA (eC (.int 7))))) (toA (eC (.int 2147483647))))) (toA (eC (.int 1))))
    (sSeq (sSet 3 (eOp modD (toA (eOp addD (toA (eOp addD (toA (eOp mulX (toA (eOp ixD (oName 0) (toA (eC (.int 1))))) (toA (eOp ixD (oName 0) (toA (eC (.int 1))))))) (toA (eOp mulX (toA (eC (.int 69621))) (toA (eOp ixD (oName 0) (toA (eC (.int 1))))))))) (toA (eC (.int 11))))) (toA (eC (.int 2147483629)))))
    (sSeq (sSet 3 (eOp modD (toA (eOp addD (toA (eOp mulX (oName 3) (oName 3))) (toA (eOp mulX (toA (eC (.int 40014))) (oName 3))))) (toA (eC (.int 2147483587)))))
    (sRet (eOp modD (toA (eOp divD (oName 3) (toA (eC (.int 16))))) (oName 1))))))))
def sem__law_draw : M EV := funD 4 2 (bd__law_draw)
/- _law_all: 0:_law_many 1:_law_found 2:_law_turn 3:_law_longer 4:_law_text -/
def lp__law_all_0 : S := (sExpr (mutM opExtend 3 (asCons (toA (eLst (asCons (toA (eOp addD (oName 4) (toA (eC (.str [48]))))) (asCons (toA (eOp addD (oName 4) (toA (eC (.str [49]))))) asNil)))) asNil)))
def lp__law_all_1 : S := (sSeq (sSet 3 (eLst asNil))
    (sSeq (sFor (iOf (eName 1)) (gN 4) lp__law_all_0)
    (sSet 1 (eName 3))))
def bd__law_all : S := (sSeq (sSet 1 (eLst (asCons (toA (eC (.str []))) asNil)))
    (sSeq (sFor (iRange1 (asCons (oName 0) asNil)) (gN 2) lp__law_all_1)
    (sRetV (lt 1) 1)))
def sem__law_all : M EV := funD 5 1 (bd__law_all)
/- _law_choose: 0:_law_source_here 1:_law_values -/
def bd__law_choose : S := (sRet (eOp ixD (oName 1) (toA (eCall sem__law_draw (asCons (oName 0) (asCons (toA (eB lenD (asCons (oName 1) asNil))) asNil))))))
def sem__law_choose : M EV := funD 2 2 (bd__law_choose)
/- is_answers: 0:thing 1:many 2:sign -/
def lp_is_answers_0 : M EV := (eOp inX (oName 2) (toA (eC (.str [48, 49]))))
def bd_is_answers : S := (sRet (eAnd (eIsi isStr (oName 0)) (eAnd (eOp eqD (toA (eB lenD (asCons (oName 0) asNil))) (oName 1)) (eB allD (asCons (toA (eComp [2] (iOf (eName 0)) (gN 2) bYes lp_is_answers_0)) asNil)))))
def sem_is_answers : M EV := funD 3 2 (bd_is_answers)
/- are_rows: 0:rows 1:row -/
def lp_are_rows_0 : M EV := (eCall sem_is_answers (asCons (oName 1) (asCons (toA (eB lenD (asCons (toA (eOp ixD (oName 0) (toA (eC (.int 0))))) asNil))) asNil)))
def bd_are_rows : S := (sSeq (sIf (bOr (toB (eOp eqD (toA (eB lenD (asCons (oName 0) asNil))) (toA (eC (.int 0))))) (bOr (bNot (toB (eIsi isStr (toA (eOp ixD (oName 0) (toA (eC (.int 0)))))))) (bNot (toB (eChain leD leD (toA (eC (.int 1))) (toA (eB lenD (asCons (toA (eOp ixD (oName 0) (toA (eC (.int 0))))) asNil))) (toA (eC (.int 6)))))))) (sRet (eC (.bl false))) sNil)
    (sSeq (sIf (bNot (toB (eB allD (asCons (toA (eComp [1] (iOf (eName 0)) (gN 1) bYes lp_are_rows_0)) asNil)))) (sRet (eC (.bl false))) sNil)
    (sRet (eOp eqD (toA (eB lenSetD (asCons (oName 0) asNil))) (toA (eB lenD (asCons (oName 0) asNil)))))))
def sem_are_rows : M EV := funD 2 1 (bd_are_rows)
/- Board___init__: 0:self 1:rows -/
def bd_Board___init__ : S := (sSeq (sIf (bNot (toB (eCall sem_are_rows (asCons (oName 1) asNil)))) (sRaise 21) sNil)
    (sSetF 0 (one 0 0) (toA (eB tupD (asCons (toA (eB sortD (asCons (oName 1) asNil))) asNil)))))
def sem_Board___init__ : M EV := funV 2 (bd_Board___init__)
/- Board_read: 0:cls 1:text 2:rows -/
def bd_Board_read (C0 : Addr) : S := (sSeq (sIf (bNot (toB (eIsi isStr (oName 1)))) (sRaise 22) sNil)
    (sSeq (sSet 2 (eBM isStrD splitD (oName 1) (asCons (toA (eC (.str [32]))) asNil)))
    (sSeq (sIf (bNot (toB (eCall sem_are_rows (asCons (oName 2) asNil)))) (sRaise 22) sNil)
    (sRet (eMakeSL 0 C0 0 sem_Board___init__ (oName 2))))))
def sem_Board_read (C0 : Addr) : M EV := funD 3 2 (bd_Board_read C0)
/- _law_is_equal: 0:_law_actual 1:_law_expected -/
def bd__law_is_equal : S := (sRet (eOp eqD (toA (eB reprX (asCons (oName 0) asNil))) (toA (eB reprX (asCons (oName 1) asNil)))))
def sem__law_is_equal : M EV := funD 2 2 (bd__law_is_equal)
/- need_board: 0:thing -/
def bd_need_board : S := (sIf (bNot (toB (eIsi is_Board (oName 0)))) (sRaise 23) sNil)
def sem_need_board : M EV := funD 1 1 (bd_need_board)
/- is_integer: 0:thing -/
def bd_is_integer : S := (sRet (eAnd (eIsi isInt (oName 0)) (eNot (eIsi isBool (oName 0)))))
def sem_is_integer : M EV := funD 1 1 (bd_is_integer)
/- need_voters: 0:thing -/
def bd_need_voters : S := (sIf (bOr (bNot (toB (eCall sem_is_integer (asCons (oName 0) asNil)))) (bNot (toB (eChain leD leD (toA (eC (.int 1))) (oName 0) (toA (eC (.int 30))))))) (sRaise 25) sNil)
def sem_need_voters : M EV := funD 1 1 (bd_need_voters)
/- Board_issues: 0:self -/
def bd_Board_issues : S := (sRet (eB lenD (asCons (toA (eOp ixD (toA (eFld (one 0 0) (oName 0))) (toA (eC (.int 0))))) asNil)))
def sem_Board_issues : M EV := funD 1 1 (bd_Board_issues)
/- is_quotas: 0:board 1:n 2:thing 3:quota -/
def lp_is_quotas_0 : M EV := (eAnd (eCall sem_is_integer (asCons (oName 3) asNil)) (eChain leD leD (toA (eC (.int 1))) (oName 3) (oName 1)))
def bd_is_quotas : S := (sSeq (sIf (bOr (bNot (toB (eIsi isTup (oName 2)))) (toB (eOp neD (toA (eB lenD (asCons (oName 2) asNil))) (toA (eProp (one 0 sem_Board_issues) (oName 0)))))) (sRet (eC (.bl false))) sNil)
    (sRet (eB allD (asCons (toA (eComp [3] (iOf (eName 2)) (gN 3) bYes lp_is_quotas_0)) asNil))))
def sem_is_quotas : M EV := funD 4 3 (bd_is_quotas)
/- need_quotas: 0:board 1:n 2:thing -/
def bd_need_quotas : S := (sIf (bNot (toB (eCall sem_is_quotas (asCons (oName 0) (asCons (oName 1) (asCons (oName 2) asNil)))))) (sRaise 26) sNil)
def sem_need_quotas : M EV := funD 3 3 (bd_need_quotas)
/- answered: 0:part 1:issue 2:sign -/
def lp_answered_0 : M Bool := (toB (eOp neD (oName 2) (toA (eC (.str [45])))))
def lp_answered_1 : M EV := (eName 1)
def bd_answered : S := (sRet (eComp [1, 2] (iEnum1 (asCons (toA (eName 0)) asNil)) (gT (gsCons (gN 1) (gsCons (gN 2) gsNil))) lp_answered_0 lp_answered_1))
def sem_answered : M EV := funD 3 1 (bd_answered)
/- room: 0:n 1:quota 2:answer -/
def bd_room : S := (sRet (eIf (toB (eOp eqD (oName 2) (toA (eC (.str [49]))))) (eOp subD (oName 0) (oName 1)) (eOp subD (oName 1) (toA (eC (.int 1))))))
def sem_room : M EV := funD 3 3 (bd_room)
/- rooms: 0:n 1:quotas 2:clash 3:issue -/
def lp_rooms_0 : M EV := (eCall sem_room (asCons (oName 0) (asCons (toA (eOp ixD (oName 1) (oName 3))) (asCons (toA (eOp ixD (oName 2) (oName 3))) asNil))))
def bd_rooms : S := (sRet (eComp [3] (iOf (eCall sem_answered (asCons (oName 2) asNil))) (gN 3) bYes lp_rooms_0))
def sem_rooms : M EV := funD 4 3 (bd_rooms)
/- first_strained: 0:known 1:n 2:quotas 3:clash -/
def lp_first_strained_0 : S := (sIf (toB (eOp geD (toA (eB sumD (asCons (toA (eCall sem_rooms (asCons (oName 1) (asCons (oName 2) (asCons (oName 3) asNil))))) asNil))) (oName 1))) (sRetV (lt 3) 3) sNil)
def bd_first_strained : S := (sSeq (sFor (iOf (eName 0)) (gN 3) lp_first_strained_0)
    (sRet (eC .non)))
def sem_first_strained : M EV := funD 4 3 (bd_first_strained)
/- Board_rows: 0:self -/
def bd_Board_rows : S := (sRet (eFld (one 0 0) (oName 0)))
def sem_Board_rows : M EV := funD 1 1 (bd_Board_rows)
/- held_parts: 0:board 1:held 2:row 3:found 4:sign 5:part 6:own -/
def lp_held_parts_0 : M EV := (eOp addD (oName 5) (oName 6))
def lp_held_parts_1 : S := (sSet 3 (eComp2 [5, 6] [6] (iOf (eName 3)) (gN 5) bYes (iOf (eTup (asCons (toA (eC (.str [45]))) (asCons (oName 4) asNil)))) (gN 6) bYes lp_held_parts_0))
def lp_held_parts_2 : S := (sSetD 1 (toA (eC (.bl true))) (oName 5))
def lp_held_parts_3 : S := (sSeq (sSet 3 (eLst (asCons (toA (eC (.str []))) asNil)))
    (sSeq (sFor (iOf (eName 2)) (gN 4) lp_held_parts_1)
    (sFor (iOf (eName 3)) (gN 5) lp_held_parts_2)))
def bd_held_parts : S := (sSeq (sSet 1 eDict0)
    (sSeq (sFor (iOf (eProp (one 0 sem_Board_rows) (oName 0))) (gN 2) lp_held_parts_3)
    (sRetV (lt 1) 1)))
def sem_held_parts : M EV := funD 7 1 (bd_held_parts)
/- parts: 0:many 1:found 2:issue 3:part 4:sign -/
def lp_parts_0 : M EV := (eOp addD (oName 3) (oName 4))
def lp_parts_1 : S := (sSet 1 (eComp2 [3, 4] [4] (iOf (eName 1)) (gN 3) bYes (iOf (eC (.str [45, 48, 49]))) (gN 4) bYes lp_parts_0))
def bd_parts : S := (sSeq (sSet 1 (eLst (asCons (toA (eC (.str []))) asNil)))
    (sSeq (sFor (iRange1 (asCons (oName 0) asNil)) (gN 2) lp_parts_1)
    (sRetV (lt 1) 1)))
def sem_parts : M EV := funD 5 1 (bd_parts)
/- without: 0:part 1:issue -/
def bd_without : S := (sRet (eOp addD (toA (eOp addD (toA (eSlice (oName 0) pNo (pYes (oName 1)))) (toA (eC (.str [45]))))) (toA (eSlice (oName 0) (pYes (toA (eOp addD (oName 1) (toA (eC (.int 1)))))) pNo))))
def sem_without : M EV := funD 2 2 (bd_without)
/- all_clashes: 0:board 1:held 2:found 3:part 4:size 5:issue -/
def lp_all_clashes_0 : M EV := (eOp inX (toA (eCall sem_without (asCons (oName 3) (asCons (oName 5) asNil)))) (oName 1))
def lp_all_clashes_1 : S := (sIf (bAnd (toB (eOp ninX (oName 3) (oName 1))) (toB (eB allD (asCons (toA (eComp [5] (iOf (eCall sem_answered (asCons (oName 3) asNil))) (gN 5) bYes lp_all_clashes_0)) asNil)))) (sExpr (mutM opAppend 2 (asCons (toA (eTup (asCons (toA (eB lenD (asCons (toA (eCall sem_answered (asCons (oName 3) asNil))) asNil))) (asCons (oName 3) asNil)))) asNil))) sNil)
def lp_all_clashes_2 : M EV := (eName 3)
def bd_all_clashes : S := (sSeq (parL [(1, (eCall sem_held_parts (asCons (oName 0) asNil))), (2, (eLst asNil))])
    (sSeq (sFor (iOf (eCall sem_parts (asCons (toA (eProp (one 0 sem_Board_issues) (oName 0))) asNil))) (gN 3) lp_all_clashes_1)
    (sRet (eComp [4, 3] (iOf (eB sortD (asCons (oName 2) asNil))) (gT (gsCons (gN 4) (gsCons (gN 3) gsNil))) bYes lp_all_clashes_2))))
def sem_all_clashes : M EV := funD 6 1 (bd_all_clashes)
/- holds: 0:board 1:n 2:quotas -/
def bd_holds : S := (sSeq (sExpr (eCall sem_need_board (asCons (oName 0) asNil)))
    (sSeq (sExpr (eCall sem_need_voters (asCons (oName 1) asNil)))
    (sSeq (sExpr (eCall sem_need_quotas (asCons (oName 0) (asCons (oName 1) (asCons (oName 2) asNil)))))
    (sRet (eOp (isD false) (toA (eCall sem_first_strained (asCons (toA (eCall sem_all_clashes (asCons (oName 0) asNil))) (asCons (oName 1) (asCons (oName 2) asNil))))) (toA (eC .non)))))))
def sem_holds : M EV := funD 3 3 (bd_holds)
end Pg
end
section
set_option maxRecDepth 100000
set_option maxHeartbeats 4000000
/-! the readings of the defs: printed by gen2.py. -/
namespace Pg
open PySem PySem.Spec L2 Dt
open PyProof.Rows hiding St
end Pg
end
section
set_option maxRecDepth 100000
set_option maxHeartbeats 4000000
/-! the readings of the defs: printed by gen2.py. -/
namespace Pg
open PySem PySem.Spec L2 Dt
open PyProof.Rows hiding St
end Pg
end
section
set_option maxRecDepth 100000
set_option maxHeartbeats 4000000
/-! the readings of the defs: printed by gen2.py. -/
namespace Pg
open PySem PySem.Spec L2 Dt
open PyProof.Rows hiding St
end Pg
end
section
set_option maxRecDepth 100000
set_option maxHeartbeats 4000000
/-! the readings of the defs: printed by gen2.py. -/
namespace Pg
open PySem PySem.Spec L2 Dt
open PyProof.Rows hiding St
end Pg
end
section
set_option maxRecDepth 100000
set_option maxHeartbeats 4000000
/-! the readings of the defs: printed by gen2.py. -/
namespace Pg
open PySem PySem.Spec L2 Dt
open PyProof.Rows hiding St
end Pg
end
section
set_option maxRecDepth 100000
set_option maxHeartbeats 4000000
/-! the readings of the defs: printed by gen2.py. -/
namespace Pg
open PySem PySem.Spec L2 Dt
open PyProof.Rows hiding St
end Pg
end
section
set_option maxRecDepth 100000
set_option maxHeartbeats 4000000
/-! the readings of the defs: printed by gen2.py. -/
namespace Pg
open PySem PySem.Spec L2 Dt
open PyProof.Rows hiding St
end Pg
end
section
set_option maxRecDepth 100000
set_option maxHeartbeats 4000000
/-! the readings of the defs: printed by gen2.py. -/
namespace Pg
open PySem PySem.Spec L2 Dt
open PyProof.Rows hiding St
end Pg
end
section
set_option maxRecDepth 100000
set_option maxHeartbeats 4000000
/-! the readings of the defs: printed by gen2.py. -/
namespace Pg
open PySem PySem.Spec L2 Dt
open PyProof.Rows hiding St
end Pg
end
section
set_option maxRecDepth 100000
set_option maxHeartbeats 4000000
/-! the readings of the defs: printed by gen2.py. -/
namespace Pg
open PySem PySem.Spec L2 Dt
open PyProof.Rows hiding St
end Pg
end
section
set_option maxRecDepth 100000
set_option maxHeartbeats 4000000
/-! the readings of the defs: printed by gen2.py. -/
namespace Pg
open PySem PySem.Spec L2 Dt
open PyProof.Rows hiding St
end Pg
end
section
set_option maxRecDepth 100000
set_option maxHeartbeats 4000000
/-! the readings of the defs: printed by gen2.py. -/
namespace Pg
open PySem PySem.Spec L2 Dt
open PyProof.Rows hiding St
/- _law_mixed: 0:_law_source_here 1:_law_values 2:_law_left 3:_law_found 4:_law_lap -/
def lp__law_mixed_0 : S := (sExpr (mutM opAppend 3 (asCons (toA (mutM opPop 2 (asCons (toA (eCall sem__law_draw (asCons (oName 0) (asCons (toA (eB lenD (asCons (oName 2) asNil))) asNil)))) asNil))) asNil)))
def bd__law_mixed : S := (sSeq (sPar 2 3 (eB listD (asCons (oName 1) asNil)) (eLst asNil))
    (sSeq (sFor (iRange1 (asCons (toA (eB lenD (asCons (oName 1) asNil))) asNil)) (gN 4) lp__law_mixed_0)
    (sRetV (lt 2) 3)))
def sem__law_mixed : M EV := funD 5 2 (bd__law_mixed)
/- _law_rows: 0:_law_source_here 1:_law_most 2:_law_many 3:_law_way 4:_law_every 5:_law_found 6:_law_share 7:_law_kept 8:_law_row 9:_law_lap -/
def lp__law_rows_0 : M Bool := (toB (eOp eqD (toA (eOp modD (toA (eBM isStrD countD (oName 8) (asCons (toA (eC (.str [49]))) asNil))) (toA (eC (.int 2))))) (toA (eC (.int 0)))))
def lp__law_rows_1 : M EV := (eName 8)
def lp__law_rows_2 : M Bool := (toB (eOp eqD (toA (eOp eqD (toA (eOp ixD (oName 8) (toA (eNeg (toA (eC (.int 1))))))) (toA (eC (.str [49]))))) (toA (eOp ninX (toA (eC (.str [48]))) (toA (eSlice (oName 8) pNo (pYes (toA (eNeg (toA (eC (.int 1))))))))))))
def lp__law_rows_3 : M EV := (eName 8)
def lp__law_rows_4 : M EV := (eCall sem__law_choose (asCons (oName 0) (asCons (oName 4) asNil)))
def lp__law_rows_5 : M Bool := (toB (eOp ltD (toA (eCall sem__law_draw (asCons (oName 0) (asCons (toA (eC (.int 5))) asNil)))) (oName 6)))
def lp__law_rows_6 : M EV := (eName 8)
def lp__law_rows_7 : M EV := (eTup (asCons (oName 8) (asCons (toA (eC (.bl true))) asNil)))
def bd__law_rows : S := (sSeq (sPar 2 3 (eOp addD (toA (eC (.int 1))) (toA (eCall sem__law_draw (asCons (oName 0) (asCons (oName 1) asNil))))) (eCall sem__law_draw (asCons (oName 0) (asCons (toA (eC (.int 6))) asNil))))
    (sSeq (sSet 4 (eCall sem__law_all (asCons (oName 2) asNil)))
    (sSeq (sSet 5 (eLst (asCons (toA (eLst (asCons (toA (eCall sem__law_choose (asCons (oName 0) (asCons (oName 4) asNil)))) asNil))) (asCons (oName 4) (asCons (toA (eComp [8] (iOf (eName 4)) (gN 8) lp__law_rows_0 lp__law_rows_1)) asNil)))))
    (sSeq (sExpr (mutM opAppend 5 (asCons (toA (eComp [8] (iOf (eName 4)) (gN 8) lp__law_rows_2 lp__law_rows_3)) asNil)))
    (sSeq (sExpr (mutM opAppend 5 (asCons (toA (eComp [9] (iRange1 (asCons (toA (eOp addD (toA (eC (.int 1))) (toA (eCall sem__law_draw (asCons (oName 0) (asCons (toA (eC (.int 5))) asNil)))))) asNil)) (gN 9) bYes lp__law_rows_4)) asNil)))
    (sSeq (sSet 6 (eOp addD (toA (eC (.int 1))) (toA (eCall sem__law_draw (asCons (oName 0) (asCons (toA (eC (.int 4))) asNil))))))
    (sSeq (sExpr (mutM opAppend 5 (asCons (toA (eOp addD (toA (eComp [8] (iOf (eName 4)) (gN 8) lp__law_rows_5 lp__law_rows_6)) (toA (eLst (asCons (toA (eCall sem__law_choose (asCons (oName 0) (asCons (oName 4) asNil)))) asNil))))) asNil)))
    (sSeq (sSet 7 (eB sortD (asCons (toA (eB dictD (asCons (toA (eComp [8] (iOf (eOp ixD (oName 5) (oName 3))) (gN 8) bYes lp__law_rows_7)) asNil))) asNil)))
    (sRet (eCall sem__law_mixed (asCons (oName 0) (asCons (oName 7) asNil))))))))))))
def sem__law_rows : M EV := funD 10 2 (bd__law_rows)
/- _law_bent_v2: 0:_law_source_here 1:_law_text 2:_law_at 3:_law_sign 4:_law_rows_here 5:_law_spot 6:_law_found -/
def bd__law_bent_v2 : S := (sSeq (sPar 2 3 (eCall sem__law_draw (asCons (oName 0) (asCons (toA (eOp addD (toA (eB lenD (asCons (oName 1) asNil))) (toA (eC (.int 1))))) asNil))) (eCall sem__law_choose (asCons (oName 0) (asCons (toA (eB listX (asCons (toA (eC (.str [48, 48, 49, 49, 32, 45, 50, 44, 46]))) asNil))) asNil))))
    (sSeq (sSet 4 (eBM isStrD splitD (oName 1) (asCons (toA (eC (.str [32]))) asNil)))
    (sSeq (sSet 5 (eCall sem__law_draw (asCons (oName 0) (asCons (toA (eB lenD (asCons (oName 4) asNil))) asNil))))
    (sSeq (sSet 6 (eLst (asCons (toA (eOp addD (toA (eOp addD (toA (eSlice (oName 1) pNo (pYes (oName 2)))) (oName 3))) (toA (eSlice (oName 1) (pYes (oName 2)) pNo)))) (asCons (toA (eOp addD (toA (eOp addD (toA (eSlice (oName 1) pNo (pYes (oName 2)))) (oName 3))) (toA (eSlice (oName 1) (pYes (toA (eOp addD (oName 2) (toA (eC (.int 1)))))) pNo)))) (asCons (toA (eOp addD (toA (eSlice (oName 1) pNo (pYes (oName 2)))) (toA (eSlice (oName 1) (pYes (toA (eOp addD (oName 2) (toA (eC (.int 1)))))) pNo)))) (asCons (toA (eOp addD (oName 1) (toA (eC (.str [32]))))) asNil))))))
    (sSeq (sSet 6 (eOp addD (oName 6) (toA (eLst (asCons (toA (eBM isStrD joinD (toA (eC (.str [32]))) (asCons (toA (eOp addD (toA (eSlice (oName 4) pNo (pYes (oName 5)))) (toA (eSlice (oName 4) (pYes (toA (eB maxI (asCons (toA (eC (.int 0))) (asCons (toA (eOp subD (oName 5) (toA (eC (.int 1))))) asNil))))) pNo)))) asNil))) (asCons (toA (eOp addD (toA (eC (.str [32]))) (oName 1))) (asCons (toA (eRepl [32] [32, 32] (oName 1))) (asCons (toA (eC (.str []))) asNil))))))))
    (sRet (eCall sem__law_choose (asCons (oName 0) (asCons (oName 6) asNil)))))))))
def sem__law_bent_v2 : M EV := funD 7 2 (bd__law_bent_v2)
/- Board_text: 0:self -/
def bd_Board_text : S := (sRet (eBM isStrD joinD (toA (eC (.str [32]))) (asCons (toA (eFld (one 0 0) (oName 0))) asNil)))
def sem_Board_text : M EV := funD 1 1 (bd_Board_text)
end Pg
end
section
set_option maxRecDepth 100000
set_option maxHeartbeats 4000000
/-! the readings of the defs: printed by gen2.py. -/
namespace Pg
open PySem PySem.Spec L2 Dt
open PyProof.Rows hiding St
end Pg
end
section
set_option maxRecDepth 100000
set_option maxHeartbeats 4000000
/-! the readings of the defs: printed by gen2.py. -/
namespace Pg
open PySem PySem.Spec L2 Dt
open PyProof.Rows hiding St
end Pg
end
section
set_option maxRecDepth 100000
set_option maxHeartbeats 4000000
/-! the readings of the defs: printed by gen2.py. -/
namespace Pg
open PySem PySem.Spec L2 Dt
open PyProof.Rows hiding St
end Pg
end
section
set_option maxRecDepth 100000
set_option maxHeartbeats 4000000
/-! the readings of the defs: printed by gen2.py. -/
namespace Pg
open PySem PySem.Spec L2 Dt
open PyProof.Rows hiding St
end Pg
end
section
set_option maxRecDepth 100000
set_option maxHeartbeats 4000000
/-! the readings of the defs: printed by gen2.py. -/
namespace Pg
open PySem PySem.Spec L2 Dt
open PyProof.Rows hiding St
end Pg
end
section
set_option maxRecDepth 100000
set_option maxHeartbeats 4000000
/-! the readings of the defs: printed by gen2.py. -/
namespace Pg
open PySem PySem.Spec L2 Dt
open PyProof.Rows hiding St
end Pg
end
section
set_option maxRecDepth 100000
set_option maxHeartbeats 4000000
/-! the readings of the defs: printed by gen2.py. -/
namespace Pg
open PySem PySem.Spec L2 Dt
open PyProof.Rows hiding St
end Pg
end
section
set_option maxRecDepth 100000
set_option maxHeartbeats 4000000
/-! the readings of the defs: printed by gen2.py. -/
namespace Pg
open PySem PySem.Spec L2 Dt
open PyProof.Rows hiding St
end Pg
end
section
set_option maxRecDepth 100000
set_option maxHeartbeats 4000000
/-! the readings of the defs: printed by gen2.py. -/
namespace Pg
open PySem PySem.Spec L2 Dt
open PyProof.Rows hiding St
end Pg
end
section
set_option maxRecDepth 100000
set_option maxHeartbeats 4000000
/-! the readings of the defs: printed by gen2.py. -/
namespace Pg
open PySem PySem.Spec L2 Dt
open PyProof.Rows hiding St
end Pg
end
section
set_option maxRecDepth 100000
set_option maxHeartbeats 4000000
/-! the readings of the defs: printed by gen2.py. -/
namespace Pg
open PySem PySem.Spec L2 Dt
open PyProof.Rows hiding St
end Pg
end
section
set_option maxRecDepth 100000
set_option maxHeartbeats 4000000
/-! the readings of the defs: printed by gen2.py. -/
namespace Pg
open PySem PySem.Spec L2 Dt
open PyProof.Rows hiding St
end Pg
end
section
set_option maxRecDepth 100000
set_option maxHeartbeats 4000000
/-! the readings of the defs: printed by gen2.py. -/
namespace Pg
open PySem PySem.Spec L2 Dt
open PyProof.Rows hiding St
end Pg
end
section
set_option maxRecDepth 100000
set_option maxHeartbeats 4000000
/-! the readings of the defs: printed by gen2.py. -/
namespace Pg
open PySem PySem.Spec L2 Dt
open PyProof.Rows hiding St
end Pg
end
section
set_option maxRecDepth 100000
set_option maxHeartbeats 4000000
/-! the readings of the defs: printed by gen2.py. -/
namespace Pg
open PySem PySem.Spec L2 Dt
open PyProof.Rows hiding St
end Pg
end
section
set_option maxRecDepth 100000
set_option maxHeartbeats 4000000
/-! the readings of the defs: printed by gen2.py. -/
namespace Pg
open PySem PySem.Spec L2 Dt
open PyProof.Rows hiding St
/- _law_due_v9: 0:_law_text 1:_law_rows_here 2:_law_kept 3:_law_row 4:_law_at -/
def lp__law_due_v9_0 : M EV := (eOp eqD (toA (eB lenD (asCons (oName 3) asNil))) (toA (eB lenD (asCons (toA (eOp ixD (oName 1) (toA (eC (.int 0))))) asNil))))
def lp__law_due_v9_1 : M EV := (eOp eqD (toA (eOp addD (toA (eBM isStrD countD (oName 3) (asCons (toA (eC (.str [48]))) asNil))) (toA (eBM isStrD countD (oName 3) (asCons (toA (eC (.str [49]))) asNil))))) (toA (eB lenD (asCons (oName 3) asNil))))
def lp__law_due_v9_2 : M EV := (eOp ltD (toA (eOp ixD (oName 2) (oName 4))) (toA (eOp ixD (oName 2) (toA (eOp addD (oName 4) (toA (eC (.int 1))))))))
def bd__law_due_v9 : S := (sSeq (sIf (bNot (toB (eIsi isStr (oName 0)))) (sRet (eC .non)) sNil)
    (sSeq (sSet 1 (eBM isStrD splitD (oName 0) (asCons (toA (eC (.str [32]))) asNil)))
    (sSeq (sIf (bOr (bNot (toB (eChain leD leD (toA (eC (.int 1))) (toA (eB lenD (asCons (toA (eOp ixD (oName 1) (toA (eC (.int 0))))) asNil))) (toA (eC (.int 6)))))) (bNot (toB (eB allD (asCons (toA (eComp [3] (iLst (eName 1)) (gN 3) bYes lp__law_due_v9_0)) asNil))))) (sRet (eC .non)) sNil)
    (sSeq (sIf (bNot (toB (eB allD (asCons (toA (eComp [3] (iLst (eName 1)) (gN 3) bYes lp__law_due_v9_1)) asNil)))) (sRet (eC .non)) sNil)
    (sSeq (sSet 2 (eB sortLs (asCons (oName 1) asNil)))
    (sSeq (sIf (bNot (toB (eB allD (asCons (toA (eComp [4] (iRange1 (asCons (toA (eOp subD (toA (eB lenD (asCons (oName 2) asNil))) (toA (eC (.int 1))))) asNil)) (gN 4) bYes lp__law_due_v9_2)) asNil)))) (sRet (eC .non)) sNil)
    (sRet (eB tupD (asCons (oName 2) asNil)))))))))
def sem__law_due_v9 : M EV := funD 5 1 (bd__law_due_v9)
/- _law_is_right_v5: 0:_law_text 1:_law_board 2:_law_due_here -/
def bd__law_is_right_v5 (C0 : Addr) : S := (sSeq (sTry (sSet 1 (eCMeth C0 (sem_Board_read C0) (asCons (oName 0) asNil))) (one 22 true) (sRet (eOp (isD false) (toA (eCall sem__law_due_v9 (asCons (oName 0) asNil))) (toA (eC .non)))))
    (sSeq (sSet 2 (eCall sem__law_due_v9 (asCons (oName 0) asNil)))
    (sSeq (sIf (bOr (toB (eOp (isD false) (oName 2) (toA (eC .non)))) (bNot (toB (eIsi is_Board (oName 1))))) (sRet (eC (.bl false))) sNil)
    (sRet (eCall sem__law_is_equal (asCons (toA (eLst (asCons (toA (eProp (one 0 sem_Board_rows) (oName 1))) (asCons (toA (eProp (one 0 sem_Board_issues) (oName 1))) (asCons (toA (eMeth (one 0 sem_Board_text) (oName 1) asNil)) asNil))))) (asCons (toA (eLst (asCons (oName 2) (asCons (toA (eB lenD (asCons (toA (eOp ixD (oName 2) (toA (eC (.int 0))))) asNil))) (asCons (toA (eBM isStrD joinD (toA (eC (.str [32]))) (asCons (oName 2) asNil))) asNil))))) asNil)))))))
def sem__law_is_right_v5 (C0 : Addr) : M EV := funD 3 1 (bd__law_is_right_v5 C0)
/- law_v30: 0:_law_script 1:_law_k 2:_law_source_here 3:_law_lap 4:_law_text 5:_law_bent_here 6:_law_again 7:_law_some -/
def lp_law_v30_0 (C0 : Addr) : S := (sIf (bNot (toB (eCall (sem__law_is_right_v5 C0) (asCons (oName 7) asNil)))) (sRet (eC (.bl false))) sNil)
def lp_law_v30_1 (C0 : Addr) : S := (sSeq (sSet 4 (eBM isStrD joinD (toA (eC (.str [32]))) (asCons (toA (eCall sem__law_rows (asCons (oName 2) (asCons (toA (eC (.int 6))) asNil)))) asNil)))
    (sSeq (sSet 5 (eCall sem__law_bent_v2 (asCons (oName 2) (asCons (oName 4) asNil))))
    (sSeq (sSet 6 (eIf (toB (eOp ltD (toA (eB lenD (asCons (oName 5) asNil))) (toA (eC (.int 300))))) (eCall sem__law_bent_v2 (asCons (oName 2) (asCons (oName 5) asNil))) (eName 5)))
    (sFor (iOf (eLst (asCons (oName 4) (asCons (oName 5) (asCons (oName 6) (asCons (toA (eCall sem__law_bent_v2 (asCons (oName 2) (asCons (toA (eSlice (oName 4) pNo (pYes (toA (eC (.int 13)))))) asNil)))) asNil)))))) (gN 7) (lp_law_v30_0 C0)))))
def lp_law_v30_2 (C0 : Addr) : S := (sSeq (sSet 2 (eCall sem__law_source (asCons (toA (eCall sem__law_cell (asCons (oName 0) (asCons (oName 1) asNil)))) asNil)))
    (sSeq (sFor (iRange1 (asCons (toA (eC (.int 10))) asNil)) (gN 3) (lp_law_v30_1 C0))
    (sIf (bNot (toB (eCall (sem__law_is_right_v5 C0) (asCons (toA (eCall sem__law_choose (asCons (oName 2) (asCons (toA (eLst (asCons (toA (eC .non)) (asCons (toA (eC (.int 0))) (asCons (toA (eC (.bl true))) (asCons (toA (eLst (asCons (toA (eC (.str [48]))) asNil))) (asCons (toA (eTup (asCons (toA (eC (.str [48]))) (asCons (toA (eC (.str [49]))) asNil)))) (asCons (toA eDict0) (asCons (toA (eC (.str [48, 48, 48, 48, 48, 48, 48]))) (asCons (toA (eC (.str [120]))) (asCons (toA (eC (.str [48, 32, 49]))) asNil))))))))))) asNil)))) asNil)))) (sRet (eC (.bl false))) sNil)))
def bd_law_v30 (C0 : Addr) : S := (sTry (sSeq (sFor (iRange1 (asCons (toA (eB maxI (asCons (toA (eC (.int 1))) (asCons (toA (eB minI (asCons (toA (eB lenD (asCons (oName 0) asNil))) (asCons (toA (eC (.int 4))) asNil)))) asNil)))) asNil)) (gN 1) (lp_law_v30_2 C0))
    (sRet (eC (.bl true)))) (one 20 true) (sRet (eC (.bl false))))
def sem_law_v30 (C0 : Addr) : M EV := funD 8 1 (bd_law_v30 C0)
end Pg
end
section
set_option maxRecDepth 100000
set_option maxHeartbeats 4000000
/-! the law's defs: printed by gen2.py from the law's text. -/
namespace Lw
open PySem PySem.Spec L2 Dt Pg
open PyProof.Rows hiding St
def top (i : Nat) : Stmt := PySem.Challenge.pw_quotaboard_k02_texts_of_boards.main.body.getD i (.Pass ⟨0, 0, 0, 0⟩)
abbrev st__law_source : Stmt := top 15
abbrev st__law_cell : Stmt := top 14
abbrev st__law_draw : Stmt := top 16
abbrev st__law_all_rows : Stmt := top 19
abbrev st__law_choose : Stmt := top 17
abbrev st__law_mixed : Stmt := top 20
abbrev st__law_rows : Stmt := top 21
abbrev st__law_bent : Stmt := top 24
abbrev st_is_answers : Stmt := top 9
abbrev st_are_rows : Stmt := top 10
abbrev st_Board___init__ : Stmt := inClass (top 11) 1
abbrev st_Board_read : Stmt := inClass (top 11) 4
abbrev st__law_due : Stmt := top 22
abbrev st__law_is_equal : Stmt := top 18
abbrev st_Board_text : Stmt := inClass (top 11) 6
abbrev st_Board_issues : Stmt := inClass (top 11) 3
abbrev st_Board_rows : Stmt := inClass (top 11) 2
abbrev st__law_is_right : Stmt := top 23
abbrev st_law : Stmt := top 25
/-- where all stands -/
structure Ad where
  (C_QuotaError C_RowsError C_TextError C_Board f__law_source f__law_cell f__law_draw f__law_all_rows f__law_choose f__law_mixed f__law_rows f__law_bent f_is_answers f_are_rows f_Board___init__ f_Board_read f__law_due f__law_is_equal f_Board_text f_Board_issues f_Board_rows f__law_is_right f_law p_Board_issues p_Board_rows p_Board_read : Addr)
def tab (a : Ad) : Tab := { tb := [], cls := fun t => match t with
  | 20 => a.C_QuotaError
  | 21 => a.C_RowsError
  | 22 => a.C_TextError
  | _ => a.C_Board }
/-- what the top has written -/
structure Hd (K : PySem.W.Frag) (mg : Str → Option Value) (a : Ad) : Prop where
  z_all : mg "all" = none
  z_dict : mg "dict" = none
  z_isinstance : mg "isinstance" = none
  z_len : mg "len" = none
  z_list : mg "list" = none
  z_max : mg "max" = none
  z_min : mg "min" = none
  z_range : mg "range" = none
  z_repr : mg "repr" = none
  z_set : mg "set" = none
  z_sorted : mg "sorted" = none
  z_str : mg "str" = none
  z_tuple : mg "tuple" = none
  g_QuotaError : mg "QuotaError" = some (.ref a.C_QuotaError)
  g_RowsError : mg "RowsError" = some (.ref a.C_RowsError)
  g_TextError : mg "TextError" = some (.ref a.C_TextError)
  g_Board : mg "Board" = some (.ref a.C_Board)
  g__law_source : mg "_law_source" = some (.ref a.f__law_source)
  F__law_source : Fx K "_law_source" "_law_source" st__law_source a.f__law_source
  g__law_cell : mg "_law_cell" = some (.ref a.f__law_cell)
  F__law_cell : Fx K "_law_cell" "_law_cell" st__law_cell a.f__law_cell
  g__law_draw : mg "_law_draw" = some (.ref a.f__law_draw)
  F__law_draw : Fx K "_law_draw" "_law_draw" st__law_draw a.f__law_draw
  g__law_all_rows : mg "_law_all_rows" = some (.ref a.f__law_all_rows)
  F__law_all_rows : Fx K "_law_all_rows" "_law_all_rows" st__law_all_rows a.f__law_all_rows
  g__law_choose : mg "_law_choose" = some (.ref a.f__law_choose)
  F__law_choose : Fx K "_law_choose" "_law_choose" st__law_choose a.f__law_choose
  g__law_mixed : mg "_law_mixed" = some (.ref a.f__law_mixed)
  F__law_mixed : Fx K "_law_mixed" "_law_mixed" st__law_mixed a.f__law_mixed
  g__law_rows : mg "_law_rows" = some (.ref a.f__law_rows)
  F__law_rows : Fx K "_law_rows" "_law_rows" st__law_rows a.f__law_rows
  g__law_bent : mg "_law_bent" = some (.ref a.f__law_bent)
  F__law_bent : Fx K "_law_bent" "_law_bent" st__law_bent a.f__law_bent
  g_is_answers : mg "is_answers" = some (.ref a.f_is_answers)
  F_is_answers : Fx K "is_answers" "is_answers" st_is_answers a.f_is_answers
  g_are_rows : mg "are_rows" = some (.ref a.f_are_rows)
  F_are_rows : Fx K "are_rows" "are_rows" st_are_rows a.f_are_rows
  F_Board___init__ : Fx K "__init__" "Board.__init__" st_Board___init__ a.f_Board___init__
  F_Board_read : Fx K "read" "Board.read" st_Board_read a.f_Board_read
  g__law_due : mg "_law_due" = some (.ref a.f__law_due)
  F__law_due : Fx K "_law_due" "_law_due" st__law_due a.f__law_due
  g__law_is_equal : mg "_law_is_equal" = some (.ref a.f__law_is_equal)
  F__law_is_equal : Fx K "_law_is_equal" "_law_is_equal" st__law_is_equal a.f__law_is_equal
  F_Board_text : Fx K "text" "Board.text" st_Board_text a.f_Board_text
  F_Board_issues : Fx K "issues" "Board.issues" st_Board_issues a.f_Board_issues
  F_Board_rows : Fx K "rows" "Board.rows" st_Board_rows a.f_Board_rows
  g__law_is_right : mg "_law_is_right" = some (.ref a.f__law_is_right)
  F__law_is_right : Fx K "_law_is_right" "_law_is_right" st__law_is_right a.f__law_is_right
  g_law : mg "law" = some (.ref a.f_law)
  F_law : Fx K "law" "law" st_law a.f_law
  cl_Board : Cls K a.C_Board
  ns_Board : PySem.W.noSeq K a.C_Board = true
  cm_Board_read : ClX.CMet K a.C_Board (.type "type") "read" a.p_Board_read a.f_Board_read
  cr_Board : ClX.CRead K a.C_Board (.type "type")
  cv_MOST : ∃ u, ClX.CVal K a.C_Board (.type "type") "MOST" (.int 6) u
  n_Board_known : NoAttr K a.C_Board "known"
  is_Board : IsOK K (tab a) is_Board (.ref a.C_Board)
  mk_Board : Mk K a.C_Board a.f_Board___init__
  m_Board_text : Meth K a.C_Board "text" a.f_Board_text
  fi_Board_text : PySem.W.fnIn K a.f_Board_text = true
  p_Board_issues : PropOf K a.C_Board "issues" a.p_Board_issues a.f_Board_issues
  p_Board_rows : PropOf K a.C_Board "rows" a.p_Board_rows a.f_Board_rows
  x_QuotaError : PySem.W.excIn K a.C_QuotaError [.type "ValueError", .type "Exception", .type "BaseException", .type "object"] "ValueError.__new__" = true
  k_QuotaError : PySem.W.keepIn K (.ref a.C_QuotaError) = true
  b_QuotaError : PySem.W.subIn K (.ref a.C_QuotaError) (.type "BaseException") = some true
  t_QuotaError : PySem.W.typeIn K (.ref a.C_QuotaError) = some (.type "type")
  x_RowsError : PySem.W.excIn K a.C_RowsError [.type "ValueError", .type "Exception", .type "BaseException", .type "object"] "ValueError.__new__" = true
  k_RowsError : PySem.W.keepIn K (.ref a.C_RowsError) = true
  b_RowsError : PySem.W.subIn K (.ref a.C_RowsError) (.type "BaseException") = some true
  t_RowsError : PySem.W.typeIn K (.ref a.C_RowsError) = some (.type "type")
  x_TextError : PySem.W.excIn K a.C_TextError [.type "ValueError", .type "Exception", .type "BaseException", .type "object"] "ValueError.__new__" = true
  k_TextError : PySem.W.keepIn K (.ref a.C_TextError) = true
  b_TextError : PySem.W.subIn K (.ref a.C_TextError) (.type "BaseException") = some true
  t_TextError : PySem.W.typeIn K (.ref a.C_TextError) = some (.type "type")
  e_QuotaError_QuotaError : PySem.W.exmOne K (.ref a.C_QuotaError) (.ref a.C_QuotaError) = some true
  e_TextError_TextError : PySem.W.exmOne K (.ref a.C_TextError) (.ref a.C_TextError) = some true
section
variable {P : Program} {w : World} {K : PySem.W.Frag} {mg : Str → Option Value} {base : Heap} {a : Ad}
theorem sc__law_source : FnScope ["_law_cell_here"] ["_law_cell_here"] (defScope st__law_source) := ⟨rfl, rfl, rfl, by decide +kernel, rfl, by decide +kernel, by decide +kernel⟩
theorem ok__law_source {NG : Prop} (h : Hd K mg a) : FnG NG P w K mg base 1 a.f__law_source (spD K (tab a) (sem__law_source)) := by
  obtain ⟨fd, F⟩ := h.F__law_source.ex
  exact Dt.Fun.q F sc__law_source (F.binds (ps := ["_law_cell_here"]) fun _ _ _ _ _ _ us hl => match us, hl with | [_], _ => rfl) fun cdv A outer s H E hr =>
    (qss_one (qs_ret (qe_lst (qas_cons (qo_of (qe_callB (fun _ _ => cr_max2 rfl) (by rfl) h.z_max PyProof.Rows.boot_max (qas_cons (qo_of qe_int) (qas_cons (qo_of (qe_op (fun _ _ => op_subD) (qo_name 0) (qo_of (qe_op (fun _ _ => op_powD) (qo_of qe_int) (qo_of qe_int))))) qas_nil)))) (qas_cons (qo_of (qe_op (fun _ _ => op_addD) (qo_of (qe_op (fun _ _ => op_modD) (qo_name 0) (qo_of qe_int))) (qo_of qe_int))) (qas_cons (qo_of qe_int) qas_nil))))))
theorem sc__law_cell : FnScope ["_law_script", "_law_index"] ["_law_script", "_law_index"] (defScope st__law_cell) := ⟨rfl, rfl, rfl, by decide +kernel, rfl, by decide +kernel, by decide +kernel⟩
theorem ok__law_cell {NG : Prop} (h : Hd K mg a) : FnG NG P w K mg base 1 a.f__law_cell (spD K (tab a) (sem__law_cell)) := by
  obtain ⟨fd, F⟩ := h.F__law_cell.ex
  exact Dt.Fun.q F sc__law_cell (F.binds (ps := ["_law_script", "_law_index"]) fun _ _ _ _ _ _ us hl => match us, hl with | [_, _], _ => rfl) fun cdv A outer s H E hr =>
    (qss_cons (qs_if (qt_cmp (fun _ _ => op_ltQ) (qo_name 1) (qo_of (qe_callB (fun _ _ => cr_len) (by rfl) h.z_len PySem.boot_len (qas_cons (qo_name 0) qas_nil)))) (qss_one (qs_ret (qe_ix (qo_name 0) (qo_name 1)))) qss_nil)
    (qss_one (qs_ret qe_int)))
theorem sc__law_draw : FnScope ["_law_source_here", "_law_many", "_law_found", "_law_mixed_here"] ["_law_source_here", "_law_many"] (defScope st__law_draw) := ⟨rfl, rfl, rfl, by decide +kernel, rfl, by decide +kernel, by decide +kernel⟩
theorem ok__law_draw {NG : Prop} (h : Hd K mg a) : FnG NG P w K mg base 1 a.f__law_draw (spD K (tab a) (sem__law_draw)) := by
  obtain ⟨fd, F⟩ := h.F__law_draw.ex
  exact Dt.Fun.q F sc__law_draw (F.binds (ps := ["_law_source_here", "_law_many"]) fun _ _ _ _ _ _ us hl => match us, hl with | [_, _], _ => rfl) fun cdv A outer s H E hr =>
    (qss_cons (qs_if (qt_cmp (fun _ _ => op_gtI) (qo_of (qe_ix (qo_name 0) (qo_of qe_int))) (qo_of qe_int)) (qss_cons (qs_set 2 sc__law_draw.nd (qe_op (fun _ _ => op_modD) (qo_of (qe_ix (qo_name 0) (qo_of qe_int))) (qo_name 1)))
    (qss_cons (qs_setL 0 (qo_of (qe_op (fun _ _ => op_divD) (qo_of (qe_ix (qo_name 0) (qo_of qe_int))) (qo_name 1))) (qo_of qe_int))
    (qss_one (qs_retV 2)))) qss_nil)
    (qss_cons (qs_setL 0 (qo_of (qe_op (fun _ _ => op_addD) (qo_of (qe_ix (qo_name 0) (qo_of qe_int))) (qo_of qe_int))) (qo_of qe_int))
    (qss_cons (qs_setL 0 (qo_of (qe_op (fun _ _ => op_modD) (qo_of (qe_op (fun _ _ => op_addD) (qo_of (qe_op (fun _ _ => op_addD) (qo_of (qe_op (fun _ _ => op_mulX) (qo_of (qe_ix (qo_name 0) (qo_of qe_int))) (qo_of qe_int))) (qo_of (qe_op (fun _ _ => op_mulX) (qo_of qe_int) (qo_of (qe_ix (qo_name 0) (qo_of qe_int))))))) (qo_of qe_int))) (qo_of qe_int))) (qo_of qe_int))
    (qss_cons (qs_set 3 sc__law_draw.nd (qe_op (fun _ _ => op_modD) (qo_of (qe_op (fun _ _ => op_addD) (qo_of (qe_op (fun _ _ => op_addD) (qo_of (qe_op (fun _ _ => op_mulX) (qo_of (qe_ix (qo_name 0) (qo_of qe_int))) (qo_of (qe_ix (qo_name 0) (qo_of qe_int))))) (qo_of (qe_op (fun _ _ => op_mulX) (qo_of qe_int) (qo_of (qe_ix (qo_name 0) (qo_of qe_int))))))) (qo_of qe_int))) (qo_of qe_int)))
    (qss_cons (qs_set 3 sc__law_draw.nd (qe_op (fun _ _ => op_modD) (qo_of (qe_op (fun _ _ => op_addD) (qo_of (qe_op (fun _ _ => op_mulX) (qo_name 3) (qo_name 3))) (qo_of (qe_op (fun _ _ => op_mulX) (qo_of qe_int) (qo_name 3))))) (qo_of qe_int)))
    (qss_one (qs_ret (qe_op (fun _ _ => op_modD) (qo_of (qe_op (fun _ _ => op_divD) (qo_name 3) (qo_of qe_int))) (qo_name 1)))))))))
theorem sc__law_all_rows : FnScope ["_law_many", "_law_found", "_law_issue", "_law_longer", "_law_row"] ["_law_many"] (defScope st__law_all_rows) := ⟨rfl, rfl, rfl, by decide +kernel, rfl, by decide +kernel, by decide +kernel⟩
theorem ok__law_all_rows {NG : Prop} (h : Hd K mg a) : FnG NG P w K mg base 1 a.f__law_all_rows (spD K (tab a) (sem__law_all)) := by
  obtain ⟨fd, F⟩ := h.F__law_all_rows.ex
  exact Dt.Fun.q F sc__law_all_rows (F.binds (ps := ["_law_many"]) fun _ _ _ _ _ _ us hl => match us, hl with | [_], _ => rfl) fun cdv A outer s H E hr =>
    (qss_cons (qs_set 1 sc__law_all_rows.nd (qe_lst (qas_cons (qo_of (qe_str [])) qas_nil)))
    (qss_cons (qs_for rfl (qi_range1 (by rfl) h.z_range (qas_cons (qo_name 0) qas_nil)) (qg_name 2 sc__law_all_rows.nd) (qss_cons (qs_set 3 sc__law_all_rows.nd (qe_lst qas_nil))
    (qss_cons (qs_for rfl (qi_of (qe_name 1)) (qg_name 4 sc__law_all_rows.nd) (qss_one (qs_expr (qe_mut 3 PySem.F.slot_list_extend PySem.F.type_list_extend (fun _ _ => mt_extend) muts_extend (qas_cons (qo_of (qe_lst (qas_cons (qo_of (qe_op (fun _ _ => op_addD) (qo_name 4) (qo_of (qe_str [48])))) (qas_cons (qo_of (qe_op (fun _ _ => op_addD) (qo_name 4) (qo_of (qe_str [49])))) qas_nil)))) qas_nil)))))
    (qss_one (qs_set 1 sc__law_all_rows.nd (qe_name 3))))))
    (qss_one (qs_retV 1))))
theorem sc__law_choose : FnScope ["_law_source_here", "_law_values"] ["_law_source_here", "_law_values"] (defScope st__law_choose) := ⟨rfl, rfl, rfl, by decide +kernel, rfl, by decide +kernel, by decide +kernel⟩
theorem ok__law_choose {NG : Prop} (h : Hd K mg a) : FnG NG P w K mg base 2 a.f__law_choose (spD K (tab a) (sem__law_choose)) := by
  obtain ⟨fd, F⟩ := h.F__law_choose.ex
  exact Dt.Fun.q F sc__law_choose (F.binds (ps := ["_law_source_here", "_law_values"]) fun _ _ _ _ _ _ us hl => match us, hl with | [_, _], _ => rfl) fun cdv A outer s H E hr =>
    (qss_one (qs_ret (qe_ix (qo_name 1) (qo_of (qe_call (ok__law_draw h) (hr.mono (by decide : 1 ≤ 1)) (by rfl) h.g__law_draw h.F__law_draw.kp (qas_cons (qo_name 0) (qas_cons (qo_of (qe_callB (fun _ _ => cr_len) (by rfl) h.z_len PySem.boot_len (qas_cons (qo_name 1) qas_nil))) qas_nil)))))))
theorem sc__law_mixed : FnScope ["_law_source_here", "_law_values", "_law_left", "_law_found", "_law_lap"] ["_law_source_here", "_law_values"] (defScope st__law_mixed) := ⟨rfl, rfl, rfl, by decide +kernel, rfl, by decide +kernel, by decide +kernel⟩
theorem ok__law_mixed {NG : Prop} (h : Hd K mg a) : FnG NG P w K mg base 2 a.f__law_mixed (spD K (tab a) (sem__law_mixed)) := by
  obtain ⟨fd, F⟩ := h.F__law_mixed.ex
  exact Dt.Fun.q F sc__law_mixed (F.binds (ps := ["_law_source_here", "_law_values"]) fun _ _ _ _ _ _ us hl => match us, hl with | [_, _], _ => rfl) fun cdv A outer s H E hr =>
    (qss_cons (qs_par 2 3 rfl sc__law_mixed.nd (qe_callTy (fun _ _ => cr_list) (by rfl) h.z_list PyProof.Rows.boot_list (qas_cons (qo_name 1) qas_nil)) (qe_lst qas_nil))
    (qss_cons (qs_for rfl (qi_range1 (by rfl) h.z_range (qas_cons (qo_of (qe_callB (fun _ _ => cr_len) (by rfl) h.z_len PySem.boot_len (qas_cons (qo_name 1) qas_nil))) qas_nil)) (qg_name 4 sc__law_mixed.nd) (qss_one (qs_expr (qe_mut 3 PySem.F.slot_list_append PySem.F.type_list_append (fun _ _ => mt_append) muts_append (qas_cons (qo_of (qe_mut 2 PySem.F.slot_list_pop PySem.F.type_list_pop (fun _ _ => mt_popB) muts_pop (qas_cons (qo_of (qe_call (ok__law_draw h) (hr.mono (by decide : 1 ≤ 1)) (by rfl) h.g__law_draw h.F__law_draw.kp (qas_cons (qo_name 0) (qas_cons (qo_of (qe_callB (fun _ _ => cr_len) (by rfl) h.z_len PySem.boot_len (qas_cons (qo_name 2) qas_nil))) qas_nil)))) qas_nil))) qas_nil)))))
    (qss_one (qs_retV 3))))
theorem sc__law_rows : FnScope ["_law_source_here", "_law_most", "_law_many", "_law_way", "_law_every", "_law_found", "_law_share", "_law_kept", "_law_row", "_law_lap"] ["_law_source_here", "_law_most"] (defScope st__law_rows) := ⟨rfl, rfl, rfl, by decide +kernel, rfl, by decide +kernel, by decide +kernel⟩
theorem ok__law_rows {NG : Prop} (h : Hd K mg a) : FnG NG P w K mg base 3 a.f__law_rows (spD K (tab a) (sem__law_rows)) := by
  obtain ⟨fd, F⟩ := h.F__law_rows.ex
  exact Dt.Fun.q F sc__law_rows (F.binds (ps := ["_law_source_here", "_law_most"]) fun _ _ _ _ _ _ us hl => match us, hl with | [_, _], _ => rfl) fun cdv A outer s H E hr =>
    (qss_cons (qs_par 2 3 rfl sc__law_rows.nd (qe_op (fun _ _ => op_addD) (qo_of qe_int) (qo_of (qe_call (ok__law_draw h) (hr.mono (by decide : 1 ≤ 2)) (by rfl) h.g__law_draw h.F__law_draw.kp (qas_cons (qo_name 0) (qas_cons (qo_name 1) qas_nil))))) (qe_call (ok__law_draw h) (hr.mono (by decide : 1 ≤ 2)) (by rfl) h.g__law_draw h.F__law_draw.kp (qas_cons (qo_name 0) (qas_cons (qo_of qe_int) qas_nil))))
    (qss_cons (qs_set 4 sc__law_rows.nd (qe_call (ok__law_all_rows h) (hr.mono (by decide : 1 ≤ 2)) (by rfl) h.g__law_all_rows h.F__law_all_rows.kp (qas_cons (qo_name 2) qas_nil)))
    (qss_cons (qs_set 5 sc__law_rows.nd (qe_lst (qas_cons (qo_of (qe_lst (qas_cons (qo_of (qe_call (ok__law_choose h) (hr.mono (by decide : 2 ≤ 2)) (by rfl) h.g__law_choose h.F__law_choose.kp (qas_cons (qo_name 0) (qas_cons (qo_name 4) qas_nil)))) qas_nil))) (qas_cons (qo_name 4) (qas_cons (qo_of (qe_comp (own := [("_law_row", 8)]) rfl sc__law_rows.nd (qi_of (qe_name 4)) (blkOk_by (N := ["_law_source_here", "_law_most", "_law_many", "_law_way", "_law_every", "_law_found", "_law_share", "_law_kept", "_law_row", "_law_lap"]) (sc := defScope st__law_rows) (by decide +kernel)) (fun _ _ _ _ _ => (qg_name 8 sc__law_rows.nd)) (fun _ _ _ _ _ => (qts_one (qt_cmp (fun _ _ => op_eqQ hr.u64) (qo_of (qe_op (fun _ _ => op_modD) (qo_of (qe_count (qo_name 8) (qas_cons (qo_of (qe_str [49])) qas_nil))) (qo_of qe_int))) (qo_of qe_int)))) (fun _ _ _ _ _ => (qe_name 8)))) qas_nil)))))
    (qss_cons (qs_expr (qe_mut 5 PySem.F.slot_list_append PySem.F.type_list_append (fun _ _ => mt_append) muts_append (qas_cons (qo_of (qe_comp (own := [("_law_row", 8)]) rfl sc__law_rows.nd (qi_of (qe_name 4)) (blkOk_by (N := ["_law_source_here", "_law_most", "_law_many", "_law_way", "_law_every", "_law_found", "_law_share", "_law_kept", "_law_row", "_law_lap"]) (sc := defScope st__law_rows) (by decide +kernel)) (fun _ _ _ _ _ => (qg_name 8 sc__law_rows.nd)) (fun _ _ _ _ _ => (qts_one (qt_cmp (fun _ _ => op_eqQ hr.u64) (qo_of (qe_cmp (fun _ _ => op_eqQ hr.u64) (qo_of (qe_ix (qo_name 8) (qo_of (qe_neg (qo_of qe_int))))) (qo_of (qe_str [49])))) (qo_of (qe_cmp (fun _ _ => op_ninX hr.u65) (qo_of (qe_str [48])) (qo_of (qe_slice (qo_name 8) qpo_no (qpo_yes (qo_of (qe_neg (qo_of qe_int))))))))))) (fun _ _ _ _ _ => (qe_name 8)))) qas_nil)))
    (qss_cons (qs_expr (qe_mut 5 PySem.F.slot_list_append PySem.F.type_list_append (fun _ _ => mt_append) muts_append (qas_cons (qo_of (qe_comp (own := [("_law_lap", 9)]) rfl sc__law_rows.nd (qi_range1 (by rfl) h.z_range (qas_cons (qo_of (qe_op (fun _ _ => op_addD) (qo_of qe_int) (qo_of (qe_call (ok__law_draw h) (hr.mono (by decide : 1 ≤ 2)) (by rfl) h.g__law_draw h.F__law_draw.kp (qas_cons (qo_name 0) (qas_cons (qo_of qe_int) qas_nil)))))) qas_nil)) (blkOk_by (N := ["_law_source_here", "_law_most", "_law_many", "_law_way", "_law_every", "_law_found", "_law_share", "_law_kept", "_law_row", "_law_lap"]) (sc := defScope st__law_rows) (by decide +kernel)) (fun _ _ _ _ _ => (qg_name 9 sc__law_rows.nd)) (fun _ _ _ _ _ => qts_nil) (fun _ _ _ _ _ => (qe_call (ok__law_choose h) (hr.mono (by decide : 2 ≤ 2)) (by rfl) h.g__law_choose h.F__law_choose.kp (qas_cons (qo_name 0) (qas_cons (qo_name 4) qas_nil)))))) qas_nil)))
    (qss_cons (qs_set 6 sc__law_rows.nd (qe_op (fun _ _ => op_addD) (qo_of qe_int) (qo_of (qe_call (ok__law_draw h) (hr.mono (by decide : 1 ≤ 2)) (by rfl) h.g__law_draw h.F__law_draw.kp (qas_cons (qo_name 0) (qas_cons (qo_of qe_int) qas_nil))))))
    (qss_cons (qs_expr (qe_mut 5 PySem.F.slot_list_append PySem.F.type_list_append (fun _ _ => mt_append) muts_append (qas_cons (qo_of (qe_op (fun _ _ => op_addD) (qo_of (qe_comp (own := [("_law_row", 8)]) rfl sc__law_rows.nd (qi_of (qe_name 4)) (blkOk_by (N := ["_law_source_here", "_law_most", "_law_many", "_law_way", "_law_every", "_law_found", "_law_share", "_law_kept", "_law_row", "_law_lap"]) (sc := defScope st__law_rows) (by decide +kernel)) (fun _ _ _ _ _ => (qg_name 8 sc__law_rows.nd)) (fun _ _ _ _ _ => (qts_one (qt_cmp (fun _ _ => op_ltQ) (qo_of (qe_call (ok__law_draw h) (hr.mono (by decide : 1 ≤ 2)) (by rfl) h.g__law_draw h.F__law_draw.kp (qas_cons (qo_name 0) (qas_cons (qo_of qe_int) qas_nil)))) (qo_name 6)))) (fun _ _ _ _ _ => (qe_name 8)))) (qo_of (qe_lst (qas_cons (qo_of (qe_call (ok__law_choose h) (hr.mono (by decide : 2 ≤ 2)) (by rfl) h.g__law_choose h.F__law_choose.kp (qas_cons (qo_name 0) (qas_cons (qo_name 4) qas_nil)))) qas_nil))))) qas_nil)))
    (qss_cons (qs_set 7 sc__law_rows.nd (qe_callB (fun _ _ => cr_sorted rfl hr.u64) (by rfl) h.z_sorted PyProof.Rows.boot_sorted (qas_cons (qo_of (qe_callTy (fun _ _ => cr_dict rfl) (by rfl) h.z_dict PyProof.Rows.boot_dict (qas_cons (qo_of (qe_comp (own := [("_law_row", 8)]) rfl sc__law_rows.nd (qi_of (qe_ix (qo_name 5) (qo_name 3))) (blkOk_by (N := ["_law_source_here", "_law_most", "_law_many", "_law_way", "_law_every", "_law_found", "_law_share", "_law_kept", "_law_row", "_law_lap"]) (sc := defScope st__law_rows) (by decide +kernel)) (fun _ _ _ _ _ => (qg_name 8 sc__law_rows.nd)) (fun _ _ _ _ _ => qts_nil) (fun _ _ _ _ _ => (qe_tup (qas_cons (qo_name 8) (qas_cons (qo_of qe_bl) qas_nil)))))) qas_nil))) qas_nil)))
    (qss_one (qs_ret (qe_call (ok__law_mixed h) (hr.mono (by decide : 2 ≤ 2)) (by rfl) h.g__law_mixed h.F__law_mixed.kp (qas_cons (qo_name 0) (qas_cons (qo_name 7) qas_nil)))))))))))))
theorem sc__law_bent : FnScope ["_law_source_here", "_law_text", "_law_at", "_law_sign", "_law_rows_here", "_law_spot", "_law_found"] ["_law_source_here", "_law_text"] (defScope st__law_bent) := ⟨rfl, rfl, rfl, by decide +kernel, rfl, by decide +kernel, by decide +kernel⟩
theorem ok__law_bent {NG : Prop} (h : Hd K mg a) : FnG NG P w K mg base 3 a.f__law_bent (spD K (tab a) (sem__law_bent_v2)) := by
  obtain ⟨fd, F⟩ := h.F__law_bent.ex
  exact Dt.Fun.qT F sc__law_bent (F.binds (ps := ["_law_source_here", "_law_text"]) fun _ _ _ _ _ _ us hl => match us, hl with | [_, _], _ => rfl) (by decide +kernel) (by decide) fun cdv A outer s H E hr =>
    (qsst_cons (QST.of (qs_par 2 3 rfl sc__law_bent.nd (qe_call (ok__law_draw h) (hr.mono (by decide : 1 ≤ 2)) (by rfl) h.g__law_draw h.F__law_draw.kp (qas_cons (qo_name 0) (qas_cons (qo_of (qe_op (fun _ _ => op_addD) (qo_of (qe_callB (fun _ _ => cr_len) (by rfl) h.z_len PySem.boot_len (qas_cons (qo_name 1) qas_nil))) (qo_of qe_int))) qas_nil))) (qe_call (ok__law_choose h) (hr.mono (by decide : 2 ≤ 2)) (by rfl) h.g__law_choose h.F__law_choose.kp (qas_cons (qo_name 0) (qas_cons (qo_of (qe_callTy (fun _ _ => cr_listX rfl) (by rfl) h.z_list PyProof.Rows.boot_list (qas_cons (qo_of (qe_str [48, 48, 49, 49, 32, 45, 50, 44, 46])) qas_nil))) qas_nil)))))
    (qsst_cons (QST.of (qs_set 4 sc__law_bent.nd (qe_split (qo_name 1) (qas_cons (qo_of (qe_str [32])) qas_nil))))
    (qsst_cons (QST.of (qs_set 5 sc__law_bent.nd (qe_call (ok__law_draw h) (hr.mono (by decide : 1 ≤ 2)) (by rfl) h.g__law_draw h.F__law_draw.kp (qas_cons (qo_name 0) (qas_cons (qo_of (qe_callB (fun _ _ => cr_len) (by rfl) h.z_len PySem.boot_len (qas_cons (qo_name 4) qas_nil))) qas_nil)))))
    (qsst_cons (QST.of (qs_set 6 sc__law_bent.nd (qe_lst (qas_cons (qo_of (qe_op (fun _ _ => op_addD) (qo_of (qe_op (fun _ _ => op_addD) (qo_of (qe_slice (qo_name 1) qpo_no (qpo_yes (qo_name 2)))) (qo_name 3))) (qo_of (qe_slice (qo_name 1) (qpo_yes (qo_name 2)) qpo_no)))) (qas_cons (qo_of (qe_op (fun _ _ => op_addD) (qo_of (qe_op (fun _ _ => op_addD) (qo_of (qe_slice (qo_name 1) qpo_no (qpo_yes (qo_name 2)))) (qo_name 3))) (qo_of (qe_slice (qo_name 1) (qpo_yes (qo_of (qe_op (fun _ _ => op_addD) (qo_name 2) (qo_of qe_int)))) qpo_no)))) (qas_cons (qo_of (qe_op (fun _ _ => op_addD) (qo_of (qe_slice (qo_name 1) qpo_no (qpo_yes (qo_name 2)))) (qo_of (qe_slice (qo_name 1) (qpo_yes (qo_of (qe_op (fun _ _ => op_addD) (qo_name 2) (qo_of qe_int)))) qpo_no)))) (qas_cons (qo_of (qe_op (fun _ _ => op_addD) (qo_name 1) (qo_of (qe_str [32])))) qas_nil)))))))
    (qsst_cons (qst_set 6 sc__law_bent.nd (qet_op (fun _ _ => op_addD) (QOT.of (qo_name 6)) (qot_of (qet_lst (qast_cons (QOT.of (qo_of (qe_join (qo_of (qe_str [32])) (qas_cons (qo_of (qe_op (fun _ _ => op_addD) (qo_of (qe_slice (qo_name 4) qpo_no (qpo_yes (qo_name 5)))) (qo_of (qe_slice (qo_name 4) (qpo_yes (qo_of (qe_callB (fun _ _ => cr_max2 rfl) (by rfl) h.z_max PyProof.Rows.boot_max (qas_cons (qo_of qe_int) (qas_cons (qo_of (qe_op (fun _ _ => op_subD) (qo_name 5) (qo_of qe_int))) qas_nil))))) qpo_no)))) qas_nil)))) (qast_cons (QOT.of (qo_of (qe_op (fun _ _ => op_addD) (qo_of (qe_str [32])) (qo_name 1)))) (qast_cons (qot_of (qet_repl [32] [32, 32] (QOT.of (qo_name 1)))) (qast_cons (QOT.of (qo_of (qe_str []))) qast_nil))))))))
    (QSsT.of (qss_one (qs_ret (qe_call (ok__law_choose h) (hr.mono (by decide : 2 ≤ 2)) (by rfl) h.g__law_choose h.F__law_choose.kp (qas_cons (qo_name 0) (qas_cons (qo_name 6) qas_nil)))))))))))
theorem sc_is_answers : FnScope ["thing", "many", "sign"] ["thing", "many"] (defScope st_is_answers) := ⟨rfl, rfl, rfl, by decide +kernel, rfl, by decide +kernel, by decide +kernel⟩
theorem ok_is_answers {NG : Prop} (h : Hd K mg a) : FnG NG P w K mg base 1 a.f_is_answers (spD K (tab a) (sem_is_answers)) := by
  obtain ⟨fd, F⟩ := h.F_is_answers.ex
  exact Dt.Fun.q F sc_is_answers (F.binds (ps := ["thing", "many"]) fun _ _ _ _ _ _ us hl => match us, hl with | [_, _], _ => rfl) fun cdv A outer s H E hr =>
    (qss_one (qs_ret (qe_and (qe_isi (by rfl) h.z_isinstance isok_str (.ty "str") (isi_bi (by rfl) h.z_str PyProof.Rows.boot_str) (qo_name 0)) (qe_and (qe_cmp (fun _ _ => op_eqQ hr.u64) (qo_of (qe_callB (fun _ _ => cr_len) (by rfl) h.z_len PySem.boot_len (qas_cons (qo_name 0) qas_nil))) (qo_name 1)) (qe_one (qe_callB (fun _ _ => cr_allQ rfl) (by rfl) h.z_all PyProof.Rows.boot_all (qas_cons (qo_of (qe_comp (own := [("sign", 2)]) rfl sc_is_answers.nd (qi_of (qe_name 0)) (blkOk_by (N := ["thing", "many", "sign"]) (sc := defScope st_is_answers) (by decide +kernel)) (fun _ _ _ _ _ => (qg_name 2 sc_is_answers.nd)) (fun _ _ _ _ _ => qts_nil) (fun _ _ _ _ _ => (qe_cmp (fun _ _ => op_inX hr.u65) (qo_name 2) (qo_of (qe_str [48, 49])))))) qas_nil)))))))
theorem sc_are_rows : FnScope ["rows", "row"] ["rows"] (defScope st_are_rows) := ⟨rfl, rfl, rfl, by decide +kernel, rfl, by decide +kernel, by decide +kernel⟩
theorem ok_are_rows {NG : Prop} (h : Hd K mg a) : FnG NG P w K mg base 2 a.f_are_rows (spD K (tab a) (sem_are_rows)) := by
  obtain ⟨fd, F⟩ := h.F_are_rows.ex
  obtain ⟨uM, cvM⟩ := h.cv_MOST
  exact Dt.Fun.q F sc_are_rows (F.binds (ps := ["rows"]) fun _ _ _ _ _ _ us hl => match us, hl with | [_], _ => rfl) fun cdv A outer s H E hr =>
    (qss_cons (qs_if (qt_w (qw_or (qt_cmp (fun _ _ => op_eqQ hr.u64) (qo_of (qe_callB (fun _ _ => cr_len) (by rfl) h.z_len PySem.boot_len (qas_cons (qo_name 0) qas_nil))) (qo_of qe_int)) (qw_or (qt_not (qt_val (qe_isi (by rfl) h.z_isinstance isok_str (.ty "str") (isi_bi (by rfl) h.z_str PyProof.Rows.boot_str) (qo_of (qe_ix (qo_name 0) (qo_of qe_int)))))) (qw_or1 (qt_not (qt_chain (fun _ _ => op_leQ) (fun _ _ => op_leQ) (qo_of qe_int) (qo_of (qe_callB (fun _ _ => cr_len) (by rfl) h.z_len PySem.boot_len (qas_cons (qo_of (qe_ix (qo_name 0) (qo_of qe_int))) qas_nil))) (qo_of (qe_cval (by rfl) h.g_Board h.cr_Board cvM (d := .int 6) (fun _ _ => by exact rfl))))))))) (qss_one (qs_ret qe_bl)) qss_nil)
    (qss_cons (qs_if (qt_not (qt_val (qe_callB (fun _ _ => cr_allQ rfl) (by rfl) h.z_all PyProof.Rows.boot_all (qas_cons (qo_of (qe_comp (own := [("row", 1)]) rfl sc_are_rows.nd (qi_of (qe_name 0)) (blkOk_by (N := ["rows", "row"]) (sc := defScope st_are_rows) (by decide +kernel)) (fun _ _ _ _ _ => (qg_name 1 sc_are_rows.nd)) (fun _ _ _ _ _ => qts_nil) (fun _ _ _ _ _ => (qe_call (ok_is_answers h) (hr.mono (by decide : 1 ≤ 1)) (by rfl) h.g_is_answers h.F_is_answers.kp (qas_cons (qo_name 1) (qas_cons (qo_of (qe_callB (fun _ _ => cr_len) (by rfl) h.z_len PySem.boot_len (qas_cons (qo_of (qe_ix (qo_name 0) (qo_of qe_int))) qas_nil))) qas_nil)))))) qas_nil)))) (qss_one (qs_ret qe_bl)) qss_nil)
    (qss_one (qs_ret (qe_cmp (fun _ _ => op_eqQ hr.u64) (qo_of (qe_lenSet rfl (by rfl) h.z_len (by rfl) h.z_set (qo_name 0))) (qo_of (qe_callB (fun _ _ => cr_len) (by rfl) h.z_len PySem.boot_len (qas_cons (qo_name 0) qas_nil))))))))
theorem sc_Board___init__ : FnScope ["self", "rows"] ["self", "rows"] (defScope st_Board___init__) := ⟨rfl, rfl, rfl, by decide +kernel, rfl, by decide +kernel, by decide +kernel⟩
theorem ok_Board___init__ {NG : Prop} (h : Hd K mg a) : FnG NG P w K mg base 3 a.f_Board___init__ (spD K (tab a) (sem_Board___init__)) := by
  obtain ⟨fd, F⟩ := h.F_Board___init__.ex
  exact Dt.Fun.qV F sc_Board___init__ (fun _ _ _ _ _ _ _ rest _ => match rest with | [] => rfl | _ :: _ => rfl) fun cdv A outer s H E hr =>
    (qss_cons (qs_if (qt_not (qt_val (qe_call (ok_are_rows h) (hr.mono (by decide : 2 ≤ 2)) (by rfl) h.g_are_rows h.F_are_rows.kp (qas_cons (qo_name 1) qas_nil)))) (qss_one (qs_raise rfl PySem.F.excBase_ValueError h.x_RowsError h.g_RowsError h.k_RowsError (raises_own h.b_RowsError h.t_RowsError) (by rfl))) qss_nil)
    (qss_one (qs_setF 0 (qo_of (qe_callTy (fun _ _ => cr_tup) (by rfl) h.z_tuple PyProof.Rows.boot_tuple (qas_cons (qo_of (qe_callB (fun _ _ => cr_sorted rfl hr.u64) (by rfl) h.z_sorted PyProof.Rows.boot_sorted (qas_cons (qo_name 1) qas_nil))) qas_nil))) (fld_one rfl h.cl_Board h.n_Board_known))))
theorem sc_Board_read : FnScope ["cls", "text", "rows"] ["cls", "text"] (defScope st_Board_read) := ⟨rfl, rfl, rfl, by decide +kernel, rfl, by decide +kernel, by decide +kernel⟩
theorem ok_Board_read {NG : Prop} (h : Hd K mg a) : FnG NG P w K mg base 5 a.f_Board_read (spD K (tab a) (sem_Board_read a.C_Board)) := by
  obtain ⟨fd, F⟩ := h.F_Board_read.ex
  exact Dt.Fun.q F sc_Board_read (F.binds (ps := ["cls", "text"]) fun _ _ _ _ _ _ us hl => match us, hl with | [_, _], _ => rfl) fun cdv A outer s H E hr =>
    (qss_cons (qs_if (qt_not (qt_val (qe_isi (by rfl) h.z_isinstance isok_str (.ty "str") (isi_bi (by rfl) h.z_str PyProof.Rows.boot_str) (qo_name 1)))) (qss_one (qs_raise rfl PySem.F.excBase_ValueError h.x_TextError h.g_TextError h.k_TextError (raises_own h.b_TextError h.t_TextError) (by rfl))) qss_nil)
    (qss_cons (qs_set 2 sc_Board_read.nd (qe_split (qo_name 1) (qas_cons (qo_of (qe_str [32])) qas_nil)))
    (qss_cons (qs_if (qt_not (qt_val (qe_call (ok_are_rows h) (hr.mono (by decide : 2 ≤ 4)) (by rfl) h.g_are_rows h.F_are_rows.kp (qas_cons (qo_name 2) qas_nil)))) (qss_one (qs_raise rfl PySem.F.excBase_ValueError h.x_TextError h.g_TextError h.k_TextError (raises_own h.b_TextError h.t_TextError) (by rfl))) qss_nil)
    (qss_one (qs_ret (qe_makeSL (t := 0) 0 h.mk_Board (ok_Board___init__ h) (hr.mono (by decide : 4 ≤ 4)) (qo_name 2)))))))
theorem sc__law_due : FnScope ["_law_text", "_law_rows_here", "_law_kept", "_law_row", "_law_at"] ["_law_text"] (defScope st__law_due) := ⟨rfl, rfl, rfl, by decide +kernel, rfl, by decide +kernel, by decide +kernel⟩
theorem ok__law_due {NG : Prop} (h : Hd K mg a) : FnG NG P w K mg base 1 a.f__law_due (spD K (tab a) (sem__law_due_v9)) := by
  obtain ⟨fd, F⟩ := h.F__law_due.ex
  exact Dt.Fun.q F sc__law_due (F.binds (ps := ["_law_text"]) fun _ _ _ _ _ _ us hl => match us, hl with | [_], _ => rfl) fun cdv A outer s H E hr =>
    (qss_cons (qs_if (qt_not (qt_val (qe_isi (by rfl) h.z_isinstance isok_str (.ty "str") (isi_bi (by rfl) h.z_str PyProof.Rows.boot_str) (qo_name 0)))) (qss_one (qs_ret qe_non)) qss_nil)
    (qss_cons (qs_set 1 sc__law_due.nd (qe_split (qo_name 0) (qas_cons (qo_of (qe_str [32])) qas_nil)))
    (qss_cons (qs_if (qt_w (qw_or (qt_not (qt_chain (fun _ _ => op_leQ) (fun _ _ => op_leQ) (qo_of qe_int) (qo_of (qe_callB (fun _ _ => cr_len) (by rfl) h.z_len PySem.boot_len (qas_cons (qo_of (qe_ix (qo_name 1) (qo_of qe_int))) qas_nil))) (qo_of qe_int))) (qw_or1 (qt_not (qt_val (qe_callB (fun _ _ => cr_allQ rfl) (by rfl) h.z_all PyProof.Rows.boot_all (qas_cons (qo_of (qe_comp (own := [("_law_row", 3)]) rfl sc__law_due.nd (qi_lsts (qe_name 1)) (blkOk_by (N := ["_law_text", "_law_rows_here", "_law_kept", "_law_row", "_law_at"]) (sc := defScope st__law_due) (by decide +kernel)) (fun _ _ _ _ _ => (qg_name 3 sc__law_due.nd)) (fun _ _ _ _ _ => qts_nil) (fun _ _ _ _ _ => (qe_cmp (fun _ _ => op_eqQ hr.u64) (qo_of (qe_callB (fun _ _ => cr_len) (by rfl) h.z_len PySem.boot_len (qas_cons (qo_name 3) qas_nil))) (qo_of (qe_callB (fun _ _ => cr_len) (by rfl) h.z_len PySem.boot_len (qas_cons (qo_of (qe_ix (qo_name 1) (qo_of qe_int))) qas_nil))))))) qas_nil))))))) (qss_one (qs_ret qe_non)) qss_nil)
    (qss_cons (qs_if (qt_not (qt_val (qe_callB (fun _ _ => cr_allQ rfl) (by rfl) h.z_all PyProof.Rows.boot_all (qas_cons (qo_of (qe_comp (own := [("_law_row", 3)]) rfl sc__law_due.nd (qi_lsts (qe_name 1)) (blkOk_by (N := ["_law_text", "_law_rows_here", "_law_kept", "_law_row", "_law_at"]) (sc := defScope st__law_due) (by decide +kernel)) (fun _ _ _ _ _ => (qg_name 3 sc__law_due.nd)) (fun _ _ _ _ _ => qts_nil) (fun _ _ _ _ _ => (qe_cmp (fun _ _ => op_eqQ hr.u64) (qo_of (qe_op (fun _ _ => op_addD) (qo_of (qe_count (qo_name 3) (qas_cons (qo_of (qe_str [48])) qas_nil))) (qo_of (qe_count (qo_name 3) (qas_cons (qo_of (qe_str [49])) qas_nil))))) (qo_of (qe_callB (fun _ _ => cr_len) (by rfl) h.z_len PySem.boot_len (qas_cons (qo_name 3) qas_nil))))))) qas_nil)))) (qss_one (qs_ret qe_non)) qss_nil)
    (qss_cons (qs_set 2 sc__law_due.nd (qe_callB (fun _ _ => cr_sortedLs hr.u64) (by rfl) h.z_sorted PyProof.Rows.boot_sorted (qas_cons (qo_name 1) qas_nil)))
    (qss_cons (qs_if (qt_not (qt_val (qe_callB (fun _ _ => cr_allQ rfl) (by rfl) h.z_all PyProof.Rows.boot_all (qas_cons (qo_of (qe_comp (own := [("_law_at", 4)]) rfl sc__law_due.nd (qi_range1 (by rfl) h.z_range (qas_cons (qo_of (qe_op (fun _ _ => op_subD) (qo_of (qe_callB (fun _ _ => cr_len) (by rfl) h.z_len PySem.boot_len (qas_cons (qo_name 2) qas_nil))) (qo_of qe_int))) qas_nil)) (blkOk_by (N := ["_law_text", "_law_rows_here", "_law_kept", "_law_row", "_law_at"]) (sc := defScope st__law_due) (by decide +kernel)) (fun _ _ _ _ _ => (qg_name 4 sc__law_due.nd)) (fun _ _ _ _ _ => qts_nil) (fun _ _ _ _ _ => (qe_cmp (fun _ _ => op_ltQ) (qo_of (qe_ix (qo_name 2) (qo_name 4))) (qo_of (qe_ix (qo_name 2) (qo_of (qe_op (fun _ _ => op_addD) (qo_name 4) (qo_of qe_int))))))))) qas_nil)))) (qss_one (qs_ret qe_non)) qss_nil)
    (qss_one (qs_ret (qe_callTy (fun _ _ => cr_tup) (by rfl) h.z_tuple PyProof.Rows.boot_tuple (qas_cons (qo_name 2) qas_nil))))))))))
theorem hotq__law_due (h : Hd K mg a) : FnHG P w K mg base 1 a.f__law_due (spD0 K (tab a) (sem__law_due_v9)) := by
  obtain ⟨fd, F⟩ := h.F__law_due.ex
  exact Dt.Fun.qH F sc__law_due (F.binds (ps := ["_law_text"]) fun _ _ _ _ _ _ us hl => match us, hl with | [_], _ => rfl) fun cdv A outer s H E p hx hr =>
    (qss_cons (qs_if (qt_not (qt_val (qe_isi (by rfl) h.z_isinstance isok_str (.ty "str") (isi_bi (by rfl) h.z_str PyProof.Rows.boot_str) (qo_name 0)))) (qss_one (qs_ret qe_non)) qss_nil)
    (qss_cons (qs_set 1 sc__law_due.nd (qe_split (qo_name 0) (qas_cons (qo_of (qe_str [32])) qas_nil)))
    (qss_cons (qs_if (qt_w (qw_or (qt_not (qt_chain (fun _ _ => op_leQ) (fun _ _ => op_leQ) (qo_of qe_int) (qo_of (qe_callB (fun _ _ => cr_len) (by rfl) h.z_len PySem.boot_len (qas_cons (qo_of (qe_ix (qo_name 1) (qo_of qe_int))) qas_nil))) (qo_of qe_int))) (qw_or1 (qt_not (qt_val (qe_callB (fun _ _ => cr_allQX (hx.tr _ _)) (by rfl) h.z_all PyProof.Rows.boot_all (qas_cons (qo_of (qe_compX (own := [("_law_row", 3)]) hx sc__law_due.nd (qi_lstX (qe_name 1)) (blkOk_by (N := ["_law_text", "_law_rows_here", "_law_kept", "_law_row", "_law_at"]) (sc := defScope st__law_due) (by decide +kernel)) (fun _ _ _ _ _ => (qg_name 3 sc__law_due.nd)) (fun _ _ _ _ _ => qts_nil) (fun _ _ _ _ _ => (qe_cmp (fun _ _ => op_eqQ hr.u64) (qo_of (qe_callB (fun _ _ => cr_len) (by rfl) h.z_len PySem.boot_len (qas_cons (qo_name 3) qas_nil))) (qo_of (qe_callB (fun _ _ => cr_len) (by rfl) h.z_len PySem.boot_len (qas_cons (qo_of (qe_ix (qo_name 1) (qo_of qe_int))) qas_nil))))))) qas_nil))))))) (qss_one (qs_ret qe_non)) qss_nil)
    (qss_cons (qs_if (qt_not (qt_val (qe_callB (fun _ _ => cr_allQX (hx.tr _ _)) (by rfl) h.z_all PyProof.Rows.boot_all (qas_cons (qo_of (qe_compX (own := [("_law_row", 3)]) hx sc__law_due.nd (qi_lstX (qe_name 1)) (blkOk_by (N := ["_law_text", "_law_rows_here", "_law_kept", "_law_row", "_law_at"]) (sc := defScope st__law_due) (by decide +kernel)) (fun _ _ _ _ _ => (qg_name 3 sc__law_due.nd)) (fun _ _ _ _ _ => qts_nil) (fun _ _ _ _ _ => (qe_cmp (fun _ _ => op_eqQ hr.u64) (qo_of (qe_op (fun _ _ => op_addD) (qo_of (qe_count (qo_name 3) (qas_cons (qo_of (qe_str [48])) qas_nil))) (qo_of (qe_count (qo_name 3) (qas_cons (qo_of (qe_str [49])) qas_nil))))) (qo_of (qe_callB (fun _ _ => cr_len) (by rfl) h.z_len PySem.boot_len (qas_cons (qo_name 3) qas_nil))))))) qas_nil)))) (qss_one (qs_ret qe_non)) qss_nil)
    (qss_cons (qs_set 2 sc__law_due.nd (qe_callB (fun _ _ => cr_sortedLs hr.u64) (by rfl) h.z_sorted PyProof.Rows.boot_sorted (qas_cons (qo_name 1) qas_nil)))
    (qss_cons (qs_if (qt_not (qt_val (qe_callB (fun _ _ => cr_allQX (hx.tr _ _)) (by rfl) h.z_all PyProof.Rows.boot_all (qas_cons (qo_of (qe_compX (own := [("_law_at", 4)]) hx sc__law_due.nd (qi_range1X (by rfl) h.z_range (qas_cons (qo_of (qe_op (fun _ _ => op_subD) (qo_of (qe_callB (fun _ _ => cr_len) (by rfl) h.z_len PySem.boot_len (qas_cons (qo_name 2) qas_nil))) (qo_of qe_int))) qas_nil)) (blkOk_by (N := ["_law_text", "_law_rows_here", "_law_kept", "_law_row", "_law_at"]) (sc := defScope st__law_due) (by decide +kernel)) (fun _ _ _ _ _ => (qg_name 4 sc__law_due.nd)) (fun _ _ _ _ _ => qts_nil) (fun _ _ _ _ _ => (qe_cmp (fun _ _ => op_ltQ) (qo_of (qe_ix (qo_name 2) (qo_name 4))) (qo_of (qe_ix (qo_name 2) (qo_of (qe_op (fun _ _ => op_addD) (qo_name 4) (qo_of qe_int))))))))) qas_nil)))) (qss_one (qs_ret qe_non)) qss_nil)
    (qss_one (qs_ret (qe_callTy (fun _ _ => cr_tup) (by rfl) h.z_tuple PyProof.Rows.boot_tuple (qas_cons (qo_name 2) qas_nil))))))))))
theorem sc__law_is_equal : FnScope ["_law_actual", "_law_expected"] ["_law_actual", "_law_expected"] (defScope st__law_is_equal) := ⟨rfl, rfl, rfl, by decide +kernel, rfl, by decide +kernel, by decide +kernel⟩
theorem ok__law_is_equal (h : Hd K mg a) : FnG False P w K mg base 1 a.f__law_is_equal (spD K (tab a) (sem__law_is_equal)) := by
  obtain ⟨fd, F⟩ := h.F__law_is_equal.ex
  exact Dt.Fun.q F sc__law_is_equal (F.binds (ps := ["_law_actual", "_law_expected"]) fun _ _ _ _ _ _ us hl => match us, hl with | [_, _], _ => rfl) fun cdv A outer s H E hr =>
    (qss_one (qs_ret (qe_cmp (fun _ _ => op_eqQ hr.u64) (qo_of (qe_callB (fun _ _ => cr_reprX (hr.g.resolve_right id) hr.u64) (by rfl) h.z_repr PyProof.Rows.boot_repr (qas_cons (qo_name 0) qas_nil))) (qo_of (qe_callB (fun _ _ => cr_reprX (hr.g.resolve_right id) hr.u64) (by rfl) h.z_repr PyProof.Rows.boot_repr (qas_cons (qo_name 1) qas_nil))))))
theorem sc_Board_text : FnScope ["self"] ["self"] (defScope st_Board_text) := ⟨rfl, rfl, rfl, by decide +kernel, rfl, by decide +kernel, by decide +kernel⟩
theorem ok_Board_text {NG : Prop} (h : Hd K mg a) : FnG NG P w K mg base 1 a.f_Board_text (spD K (tab a) (sem_Board_text)) := by
  obtain ⟨fd, F⟩ := h.F_Board_text.ex
  exact Dt.Fun.q F sc_Board_text (F.binds (ps := ["self"]) fun _ _ _ _ _ _ us hl => match us, hl with | [_], _ => rfl) fun cdv A outer s H E hr =>
    (qss_one (qs_ret (qe_join (qo_of (qe_str [32])) (qas_cons (qo_of (qe_fld (qo_name 0) (fld_one rfl h.cl_Board h.n_Board_known))) qas_nil))))
theorem sc_Board_issues : FnScope ["self"] ["self"] (defScope st_Board_issues) := ⟨rfl, rfl, rfl, by decide +kernel, rfl, by decide +kernel, by decide +kernel⟩
theorem ok_Board_issues {NG : Prop} (h : Hd K mg a) : FnG NG P w K mg base 1 a.f_Board_issues (spD K (tab a) (sem_Board_issues)) := by
  obtain ⟨fd, F⟩ := h.F_Board_issues.ex
  exact Dt.Fun.q F sc_Board_issues (F.binds (ps := ["self"]) fun _ _ _ _ _ _ us hl => match us, hl with | [_], _ => rfl) fun cdv A outer s H E hr =>
    (qss_one (qs_ret (qe_callB (fun _ _ => cr_len) (by rfl) h.z_len PySem.boot_len (qas_cons (qo_of (qe_ix (qo_of (qe_fld (qo_name 0) (fld_one rfl h.cl_Board h.n_Board_known))) (qo_of qe_int))) qas_nil))))
theorem sc_Board_rows : FnScope ["self"] ["self"] (defScope st_Board_rows) := ⟨rfl, rfl, rfl, by decide +kernel, rfl, by decide +kernel, by decide +kernel⟩
theorem ok_Board_rows {NG : Prop} (h : Hd K mg a) : FnG NG P w K mg base 1 a.f_Board_rows (spD K (tab a) (sem_Board_rows)) := by
  obtain ⟨fd, F⟩ := h.F_Board_rows.ex
  exact Dt.Fun.q F sc_Board_rows (F.binds (ps := ["self"]) fun _ _ _ _ _ _ us hl => match us, hl with | [_], _ => rfl) fun cdv A outer s H E hr =>
    (qss_one (qs_ret (qe_fld (qo_name 0) (fld_one rfl h.cl_Board h.n_Board_known))))
theorem sc__law_is_right : FnScope ["_law_text", "_law_board", "_law_due_here"] ["_law_text"] (defScope st__law_is_right) := ⟨rfl, rfl, rfl, by decide +kernel, rfl, by decide +kernel, by decide +kernel⟩
theorem ok__law_is_right (h : Hd K mg a) : FnG False P w K mg base 6 a.f__law_is_right (spD K (tab a) (sem__law_is_right_v5 a.C_Board)) := by
  obtain ⟨fd, F⟩ := h.F__law_is_right.ex
  exact Dt.Fun.q F sc__law_is_right (F.binds (ps := ["_law_text"]) fun _ _ _ _ _ _ us hl => match us, hl with | [_], _ => rfl) fun cdv A outer s H E hr =>
    (qss_cons (qs_tryN (sb := (one 22 true)) rfl rfl ⟨rfl, by decide, Or.inl h.g_TextError⟩ (qss_one (qs_set 1 sc__law_is_right.nd (qe_cmeth (by rfl) h.g_Board h.cr_Board h.cm_Board_read (ok_Board_read h) (hr.mono (by decide : 5 ≤ 5)) (qas_cons (qo_name 0) qas_nil)))) (fun t b e => by obtain ⟨rfl, rfl⟩ := one_inv e; exact h.e_TextError_TextError) (hsu_isnon (i := 0) (hotq__law_due h) (hr.mono (by decide : 1 ≤ 5)) (by rfl) h.g__law_due h.F__law_due.kp))
    (qss_cons (qs_set 2 sc__law_is_right.nd (qe_call (ok__law_due h) (hr.mono (by decide : 1 ≤ 5)) (by rfl) h.g__law_due h.F__law_due.kp (qas_cons (qo_name 0) qas_nil)))
    (qss_cons (qs_if (qt_w (qw_or (qt_cmp (fun _ _ => op_isNon) (qo_name 2) (qo_of qe_non)) (qw_or1 (qt_not (qt_val (qe_isi (by rfl) h.z_isinstance h.is_Board (.own a.C_Board) (isi_own (by rfl) h.g_Board) (qo_name 1))))))) (qss_one (qs_ret qe_bl)) qss_nil)
    (qss_one (qs_ret (qe_call (ok__law_is_equal h) (hr.mono (by decide : 1 ≤ 5)) (by rfl) h.g__law_is_equal h.F__law_is_equal.kp (qas_cons (qo_of (qe_lst (qas_cons (qo_of (qe_prop (qo_name 1) (prop_one h.cl_Board h.p_Board_rows (hr.mono (by decide : 2 ≤ 5)) (ok_Board_rows h)))) (qas_cons (qo_of (qe_prop (qo_name 1) (prop_one h.cl_Board h.p_Board_issues (hr.mono (by decide : 2 ≤ 5)) (ok_Board_issues h)))) (qas_cons (qo_of (qe_meth0 (qo_name 1) (meth_one (by decide) h.cl_Board h.m_Board_text (hr.mono (by decide : 1 ≤ 5)) (ok_Board_text h)))) qas_nil))))) (qas_cons (qo_of (qe_lst (qas_cons (qo_name 2) (qas_cons (qo_of (qe_callB (fun _ _ => cr_len) (by rfl) h.z_len PySem.boot_len (qas_cons (qo_of (qe_ix (qo_name 2) (qo_of qe_int))) qas_nil))) (qas_cons (qo_of (qe_join (qo_of (qe_str [32])) (qas_cons (qo_name 2) qas_nil))) qas_nil))))) qas_nil))))))))
theorem sc_law : FnScope ["_law_script", "_law_k", "_law_source_here", "_law_lap", "_law_text", "_law_bent_here", "_law_again", "_law_some"] ["_law_script"] (defScope st_law) := ⟨rfl, rfl, rfl, by decide +kernel, rfl, by decide +kernel, by decide +kernel⟩
theorem ok_law (h : Hd K mg a) : FnG False P w K mg base 7 a.f_law (spD K (tab a) (sem_law_v30 a.C_Board)) := by
  obtain ⟨fd, F⟩ := h.F_law.ex
  exact Dt.Fun.q F sc_law (F.binds (ps := ["_law_script"]) fun _ _ _ _ _ _ us hl => match us, hl with | [_], _ => rfl) fun cdv A outer s H E hr =>
    (qss_one (qs_try (sb := (one 20 true)) rfl rfl ⟨rfl, by decide, Or.inl h.g_QuotaError⟩ (qss_cons (qs_for rfl (qi_range1 (by rfl) h.z_range (qas_cons (qo_of (qe_callB (fun _ _ => cr_max2 rfl) (by rfl) h.z_max PyProof.Rows.boot_max (qas_cons (qo_of qe_int) (qas_cons (qo_of (qe_callB (fun _ _ => cr_min2 rfl) (by rfl) h.z_min PyProof.Rows.boot_min (qas_cons (qo_of (qe_callB (fun _ _ => cr_len) (by rfl) h.z_len PySem.boot_len (qas_cons (qo_name 0) qas_nil))) (qas_cons (qo_of qe_int) qas_nil)))) qas_nil)))) qas_nil)) (qg_name 1 sc_law.nd) (qss_cons (qs_set 2 sc_law.nd (qe_call (ok__law_source h) (hr.mono (by decide : 1 ≤ 6)) (by rfl) h.g__law_source h.F__law_source.kp (qas_cons (qo_of (qe_call (ok__law_cell h) (hr.mono (by decide : 1 ≤ 6)) (by rfl) h.g__law_cell h.F__law_cell.kp (qas_cons (qo_name 0) (qas_cons (qo_name 1) qas_nil)))) qas_nil)))
    (qss_cons (qs_for rfl (qi_range1 (by rfl) h.z_range (qas_cons (qo_of qe_int) qas_nil)) (qg_name 3 sc_law.nd) (qss_cons (qs_set 4 sc_law.nd (qe_join (qo_of (qe_str [32])) (qas_cons (qo_of (qe_call (ok__law_rows h) (hr.mono (by decide : 3 ≤ 6)) (by rfl) h.g__law_rows h.F__law_rows.kp (qas_cons (qo_name 2) (qas_cons (qo_of qe_int) qas_nil)))) qas_nil)))
    (qss_cons (qs_set 5 sc_law.nd (qe_call (ok__law_bent h) (hr.mono (by decide : 3 ≤ 6)) (by rfl) h.g__law_bent h.F__law_bent.kp (qas_cons (qo_name 2) (qas_cons (qo_name 4) qas_nil))))
    (qss_cons (qs_set 6 sc_law.nd (qe_if (qt_cmp (fun _ _ => op_ltQ) (qo_of (qe_callB (fun _ _ => cr_len) (by rfl) h.z_len PySem.boot_len (qas_cons (qo_name 5) qas_nil))) (qo_of qe_int)) (qe_call (ok__law_bent h) (hr.mono (by decide : 3 ≤ 6)) (by rfl) h.g__law_bent h.F__law_bent.kp (qas_cons (qo_name 2) (qas_cons (qo_name 5) qas_nil))) (qe_name 5)))
    (qss_one (qs_for rfl (qi_of (qe_lst (qas_cons (qo_name 4) (qas_cons (qo_name 5) (qas_cons (qo_name 6) (qas_cons (qo_of (qe_call (ok__law_bent h) (hr.mono (by decide : 3 ≤ 6)) (by rfl) h.g__law_bent h.F__law_bent.kp (qas_cons (qo_name 2) (qas_cons (qo_of (qe_slice (qo_name 4) qpo_no (qpo_yes (qo_of qe_int)))) qas_nil)))) qas_nil)))))) (qg_name 7 sc_law.nd) (qss_one (qs_if (qt_not (qt_val (qe_call (ok__law_is_right h) (hr.mono (by decide : 6 ≤ 6)) (by rfl) h.g__law_is_right h.F__law_is_right.kp (qas_cons (qo_name 7) qas_nil)))) (qss_one (qs_ret qe_bl)) qss_nil))))))))
    (qss_one (qs_if (qt_not (qt_val (qe_call (ok__law_is_right h) (hr.mono (by decide : 6 ≤ 6)) (by rfl) h.g__law_is_right h.F__law_is_right.kp (qas_cons (qo_of (qe_call (ok__law_choose h) (hr.mono (by decide : 2 ≤ 6)) (by rfl) h.g__law_choose h.F__law_choose.kp (qas_cons (qo_name 2) (qas_cons (qo_of (qe_lst (qas_cons (qo_of qe_non) (qas_cons (qo_of qe_int) (qas_cons (qo_of qe_bl) (qas_cons (qo_of (qe_lst (qas_cons (qo_of (qe_str [48])) qas_nil))) (qas_cons (qo_of (qe_tup (qas_cons (qo_of (qe_str [48])) (qas_cons (qo_of (qe_str [49])) qas_nil)))) (qas_cons (qo_of qe_dict0) (qas_cons (qo_of (qe_str [48, 48, 48, 48, 48, 48, 48])) (qas_cons (qo_of (qe_str [120])) (qas_cons (qo_of (qe_str [48, 32, 49])) qas_nil))))))))))) qas_nil)))) qas_nil)))) (qss_one (qs_ret qe_bl)) qss_nil)))))
    (qss_one (qs_ret qe_bl))) (fun t b e => by obtain ⟨rfl, rfl⟩ := one_inv e; exact h.e_QuotaError_QuotaError) (fun _ _ _ => (qss_one (qs_ret qe_bl)))))
end
theorem hd_of {K : PySem.W.Frag} {h : Heap} {mg : Str → Option Value} {C_QuotaError C_RowsError C_TextError C_Board f__law_source f__law_cell f__law_draw f__law_all_rows f__law_choose f__law_mixed f__law_rows f__law_bent f_is_answers f_are_rows f_Board___init__ f_Board_read f__law_due f__law_is_equal f_Board_text f_Board_issues f_Board_rows f__law_is_right f_law p_Board_issues p_Board_rows p_Board_read : Addr} (X : K.In h) (G : h.Ns mainGlobals mg)
    (z_all : PySem.W.nsIn K mainGlobals "all" = some none)
    (z_dict : PySem.W.nsIn K mainGlobals "dict" = some none)
    (z_isinstance : PySem.W.nsIn K mainGlobals "isinstance" = some none)
    (z_len : PySem.W.nsIn K mainGlobals "len" = some none)
    (z_list : PySem.W.nsIn K mainGlobals "list" = some none)
    (z_max : PySem.W.nsIn K mainGlobals "max" = some none)
    (z_min : PySem.W.nsIn K mainGlobals "min" = some none)
    (z_range : PySem.W.nsIn K mainGlobals "range" = some none)
    (z_repr : PySem.W.nsIn K mainGlobals "repr" = some none)
    (z_set : PySem.W.nsIn K mainGlobals "set" = some none)
    (z_sorted : PySem.W.nsIn K mainGlobals "sorted" = some none)
    (z_str : PySem.W.nsIn K mainGlobals "str" = some none)
    (z_tuple : PySem.W.nsIn K mainGlobals "tuple" = some none)
    (g_QuotaError : PySem.W.nsIn K mainGlobals "QuotaError" = some (some (.ref C_QuotaError)))
    (g_RowsError : PySem.W.nsIn K mainGlobals "RowsError" = some (some (.ref C_RowsError)))
    (g_TextError : PySem.W.nsIn K mainGlobals "TextError" = some (some (.ref C_TextError)))
    (g_Board : PySem.W.nsIn K mainGlobals "Board" = some (some (.ref C_Board)))
    (g__law_source : PySem.W.nsIn K mainGlobals "_law_source" = some (some (.ref f__law_source)))
    {oc__law_source kV__law_source dc__law_source pm__law_source cd__law_source ct__law_source : Value} {od__law_source an__law_source : Option Addr} {sl__law_source : Array (Option Value)} (l__law_source : K.lookup f__law_source = some ⟨oc__law_source, od__law_source, .func (PySem.W.fnOf "_law_source" "_law_source" (defArgs st__law_source) (defBody st__law_source) (defScope st__law_source) .none kV__law_source dc__law_source pm__law_source an__law_source cd__law_source ct__law_source), sl__law_source⟩)
    (c__law_source : PySem.W.codeIn K cd__law_source "_law_source" = true)
    (k__law_source : PySem.W.keepIn K (.ref f__law_source) = true)
    (g__law_cell : PySem.W.nsIn K mainGlobals "_law_cell" = some (some (.ref f__law_cell)))
    {oc__law_cell kV__law_cell dc__law_cell pm__law_cell cd__law_cell ct__law_cell : Value} {od__law_cell an__law_cell : Option Addr} {sl__law_cell : Array (Option Value)} (l__law_cell : K.lookup f__law_cell = some ⟨oc__law_cell, od__law_cell, .func (PySem.W.fnOf "_law_cell" "_law_cell" (defArgs st__law_cell) (defBody st__law_cell) (defScope st__law_cell) .none kV__law_cell dc__law_cell pm__law_cell an__law_cell cd__law_cell ct__law_cell), sl__law_cell⟩)
    (c__law_cell : PySem.W.codeIn K cd__law_cell "_law_cell" = true)
    (k__law_cell : PySem.W.keepIn K (.ref f__law_cell) = true)
    (g__law_draw : PySem.W.nsIn K mainGlobals "_law_draw" = some (some (.ref f__law_draw)))
    {oc__law_draw kV__law_draw dc__law_draw pm__law_draw cd__law_draw ct__law_draw : Value} {od__law_draw an__law_draw : Option Addr} {sl__law_draw : Array (Option Value)} (l__law_draw : K.lookup f__law_draw = some ⟨oc__law_draw, od__law_draw, .func (PySem.W.fnOf "_law_draw" "_law_draw" (defArgs st__law_draw) (defBody st__law_draw) (defScope st__law_draw) .none kV__law_draw dc__law_draw pm__law_draw an__law_draw cd__law_draw ct__law_draw), sl__law_draw⟩)
    (c__law_draw : PySem.W.codeIn K cd__law_draw "_law_draw" = true)
    (k__law_draw : PySem.W.keepIn K (.ref f__law_draw) = true)
    (g__law_all_rows : PySem.W.nsIn K mainGlobals "_law_all_rows" = some (some (.ref f__law_all_rows)))
    {oc__law_all_rows kV__law_all_rows dc__law_all_rows pm__law_all_rows cd__law_all_rows ct__law_all_rows : Value} {od__law_all_rows an__law_all_rows : Option Addr} {sl__law_all_rows : Array (Option Value)} (l__law_all_rows : K.lookup f__law_all_rows = some ⟨oc__law_all_rows, od__law_all_rows, .func (PySem.W.fnOf "_law_all_rows" "_law_all_rows" (defArgs st__law_all_rows) (defBody st__law_all_rows) (defScope st__law_all_rows) .none kV__law_all_rows dc__law_all_rows pm__law_all_rows an__law_all_rows cd__law_all_rows ct__law_all_rows), sl__law_all_rows⟩)
    (c__law_all_rows : PySem.W.codeIn K cd__law_all_rows "_law_all_rows" = true)
    (k__law_all_rows : PySem.W.keepIn K (.ref f__law_all_rows) = true)
    (g__law_choose : PySem.W.nsIn K mainGlobals "_law_choose" = some (some (.ref f__law_choose)))
    {oc__law_choose kV__law_choose dc__law_choose pm__law_choose cd__law_choose ct__law_choose : Value} {od__law_choose an__law_choose : Option Addr} {sl__law_choose : Array (Option Value)} (l__law_choose : K.lookup f__law_choose = some ⟨oc__law_choose, od__law_choose, .func (PySem.W.fnOf "_law_choose" "_law_choose" (defArgs st__law_choose) (defBody st__law_choose) (defScope st__law_choose) .none kV__law_choose dc__law_choose pm__law_choose an__law_choose cd__law_choose ct__law_choose), sl__law_choose⟩)
    (c__law_choose : PySem.W.codeIn K cd__law_choose "_law_choose" = true)
    (k__law_choose : PySem.W.keepIn K (.ref f__law_choose) = true)
    (g__law_mixed : PySem.W.nsIn K mainGlobals "_law_mixed" = some (some (.ref f__law_mixed)))
    {oc__law_mixed kV__law_mixed dc__law_mixed pm__law_mixed cd__law_mixed ct__law_mixed : Value} {od__law_mixed an__law_mixed : Option Addr} {sl__law_mixed : Array (Option Value)} (l__law_mixed : K.lookup f__law_mixed = some ⟨oc__law_mixed, od__law_mixed, .func (PySem.W.fnOf "_law_mixed" "_law_mixed" (defArgs st__law_mixed) (defBody st__law_mixed) (defScope st__law_mixed) .none kV__law_mixed dc__law_mixed pm__law_mixed an__law_mixed cd__law_mixed ct__law_mixed), sl__law_mixed⟩)
    (c__law_mixed : PySem.W.codeIn K cd__law_mixed "_law_mixed" = true)
    (k__law_mixed : PySem.W.keepIn K (.ref f__law_mixed) = true)
    (g__law_rows : PySem.W.nsIn K mainGlobals "_law_rows" = some (some (.ref f__law_rows)))
    {oc__law_rows kV__law_rows dc__law_rows pm__law_rows cd__law_rows ct__law_rows : Value} {od__law_rows an__law_rows : Option Addr} {sl__law_rows : Array (Option Value)} (l__law_rows : K.lookup f__law_rows = some ⟨oc__law_rows, od__law_rows, .func (PySem.W.fnOf "_law_rows" "_law_rows" (defArgs st__law_rows) (defBody st__law_rows) (defScope st__law_rows) .none kV__law_rows dc__law_rows pm__law_rows an__law_rows cd__law_rows ct__law_rows), sl__law_rows⟩)
    (c__law_rows : PySem.W.codeIn K cd__law_rows "_law_rows" = true)
    (k__law_rows : PySem.W.keepIn K (.ref f__law_rows) = true)
    (g__law_bent : PySem.W.nsIn K mainGlobals "_law_bent" = some (some (.ref f__law_bent)))
    {oc__law_bent kV__law_bent dc__law_bent pm__law_bent cd__law_bent ct__law_bent : Value} {od__law_bent an__law_bent : Option Addr} {sl__law_bent : Array (Option Value)} (l__law_bent : K.lookup f__law_bent = some ⟨oc__law_bent, od__law_bent, .func (PySem.W.fnOf "_law_bent" "_law_bent" (defArgs st__law_bent) (defBody st__law_bent) (defScope st__law_bent) .none kV__law_bent dc__law_bent pm__law_bent an__law_bent cd__law_bent ct__law_bent), sl__law_bent⟩)
    (c__law_bent : PySem.W.codeIn K cd__law_bent "_law_bent" = true)
    (k__law_bent : PySem.W.keepIn K (.ref f__law_bent) = true)
    (g_is_answers : PySem.W.nsIn K mainGlobals "is_answers" = some (some (.ref f_is_answers)))
    {oc_is_answers kV_is_answers dc_is_answers pm_is_answers cd_is_answers ct_is_answers : Value} {od_is_answers an_is_answers : Option Addr} {sl_is_answers : Array (Option Value)} (l_is_answers : K.lookup f_is_answers = some ⟨oc_is_answers, od_is_answers, .func (PySem.W.fnOf "is_answers" "is_answers" (defArgs st_is_answers) (defBody st_is_answers) (defScope st_is_answers) .none kV_is_answers dc_is_answers pm_is_answers an_is_answers cd_is_answers ct_is_answers), sl_is_answers⟩)
    (c_is_answers : PySem.W.codeIn K cd_is_answers "is_answers" = true)
    (k_is_answers : PySem.W.keepIn K (.ref f_is_answers) = true)
    (g_are_rows : PySem.W.nsIn K mainGlobals "are_rows" = some (some (.ref f_are_rows)))
    {oc_are_rows kV_are_rows dc_are_rows pm_are_rows cd_are_rows ct_are_rows : Value} {od_are_rows an_are_rows : Option Addr} {sl_are_rows : Array (Option Value)} (l_are_rows : K.lookup f_are_rows = some ⟨oc_are_rows, od_are_rows, .func (PySem.W.fnOf "are_rows" "are_rows" (defArgs st_are_rows) (defBody st_are_rows) (defScope st_are_rows) .none kV_are_rows dc_are_rows pm_are_rows an_are_rows cd_are_rows ct_are_rows), sl_are_rows⟩)
    (c_are_rows : PySem.W.codeIn K cd_are_rows "are_rows" = true)
    (k_are_rows : PySem.W.keepIn K (.ref f_are_rows) = true)
    {oc_Board___init__ kV_Board___init__ dc_Board___init__ pm_Board___init__ cd_Board___init__ ct_Board___init__ : Value} {od_Board___init__ an_Board___init__ : Option Addr} {sl_Board___init__ : Array (Option Value)} (l_Board___init__ : K.lookup f_Board___init__ = some ⟨oc_Board___init__, od_Board___init__, .func (PySem.W.fnOf "__init__" "Board.__init__" (defArgs st_Board___init__) (defBody st_Board___init__) (defScope st_Board___init__) .none kV_Board___init__ dc_Board___init__ pm_Board___init__ an_Board___init__ cd_Board___init__ ct_Board___init__), sl_Board___init__⟩)
    (c_Board___init__ : PySem.W.codeIn K cd_Board___init__ "Board.__init__" = true)
    (k_Board___init__ : PySem.W.keepIn K (.ref f_Board___init__) = true)
    {oc_Board_read kV_Board_read dc_Board_read pm_Board_read cd_Board_read ct_Board_read : Value} {od_Board_read an_Board_read : Option Addr} {sl_Board_read : Array (Option Value)} (l_Board_read : K.lookup f_Board_read = some ⟨oc_Board_read, od_Board_read, .func (PySem.W.fnOf "read" "Board.read" (defArgs st_Board_read) (defBody st_Board_read) (defScope st_Board_read) .none kV_Board_read dc_Board_read pm_Board_read an_Board_read cd_Board_read ct_Board_read), sl_Board_read⟩)
    (c_Board_read : PySem.W.codeIn K cd_Board_read "Board.read" = true)
    (k_Board_read : PySem.W.keepIn K (.ref f_Board_read) = true)
    (g__law_due : PySem.W.nsIn K mainGlobals "_law_due" = some (some (.ref f__law_due)))
    {oc__law_due kV__law_due dc__law_due pm__law_due cd__law_due ct__law_due : Value} {od__law_due an__law_due : Option Addr} {sl__law_due : Array (Option Value)} (l__law_due : K.lookup f__law_due = some ⟨oc__law_due, od__law_due, .func (PySem.W.fnOf "_law_due" "_law_due" (defArgs st__law_due) (defBody st__law_due) (defScope st__law_due) .none kV__law_due dc__law_due pm__law_due an__law_due cd__law_due ct__law_due), sl__law_due⟩)
    (c__law_due : PySem.W.codeIn K cd__law_due "_law_due" = true)
    (k__law_due : PySem.W.keepIn K (.ref f__law_due) = true)
    (g__law_is_equal : PySem.W.nsIn K mainGlobals "_law_is_equal" = some (some (.ref f__law_is_equal)))
    {oc__law_is_equal kV__law_is_equal dc__law_is_equal pm__law_is_equal cd__law_is_equal ct__law_is_equal : Value} {od__law_is_equal an__law_is_equal : Option Addr} {sl__law_is_equal : Array (Option Value)} (l__law_is_equal : K.lookup f__law_is_equal = some ⟨oc__law_is_equal, od__law_is_equal, .func (PySem.W.fnOf "_law_is_equal" "_law_is_equal" (defArgs st__law_is_equal) (defBody st__law_is_equal) (defScope st__law_is_equal) .none kV__law_is_equal dc__law_is_equal pm__law_is_equal an__law_is_equal cd__law_is_equal ct__law_is_equal), sl__law_is_equal⟩)
    (c__law_is_equal : PySem.W.codeIn K cd__law_is_equal "_law_is_equal" = true)
    (k__law_is_equal : PySem.W.keepIn K (.ref f__law_is_equal) = true)
    {oc_Board_text kV_Board_text dc_Board_text pm_Board_text cd_Board_text ct_Board_text : Value} {od_Board_text an_Board_text : Option Addr} {sl_Board_text : Array (Option Value)} (l_Board_text : K.lookup f_Board_text = some ⟨oc_Board_text, od_Board_text, .func (PySem.W.fnOf "text" "Board.text" (defArgs st_Board_text) (defBody st_Board_text) (defScope st_Board_text) .none kV_Board_text dc_Board_text pm_Board_text an_Board_text cd_Board_text ct_Board_text), sl_Board_text⟩)
    (c_Board_text : PySem.W.codeIn K cd_Board_text "Board.text" = true)
    (k_Board_text : PySem.W.keepIn K (.ref f_Board_text) = true)
    {oc_Board_issues kV_Board_issues dc_Board_issues pm_Board_issues cd_Board_issues ct_Board_issues : Value} {od_Board_issues an_Board_issues : Option Addr} {sl_Board_issues : Array (Option Value)} (l_Board_issues : K.lookup f_Board_issues = some ⟨oc_Board_issues, od_Board_issues, .func (PySem.W.fnOf "issues" "Board.issues" (defArgs st_Board_issues) (defBody st_Board_issues) (defScope st_Board_issues) .none kV_Board_issues dc_Board_issues pm_Board_issues an_Board_issues cd_Board_issues ct_Board_issues), sl_Board_issues⟩)
    (c_Board_issues : PySem.W.codeIn K cd_Board_issues "Board.issues" = true)
    (k_Board_issues : PySem.W.keepIn K (.ref f_Board_issues) = true)
    {oc_Board_rows kV_Board_rows dc_Board_rows pm_Board_rows cd_Board_rows ct_Board_rows : Value} {od_Board_rows an_Board_rows : Option Addr} {sl_Board_rows : Array (Option Value)} (l_Board_rows : K.lookup f_Board_rows = some ⟨oc_Board_rows, od_Board_rows, .func (PySem.W.fnOf "rows" "Board.rows" (defArgs st_Board_rows) (defBody st_Board_rows) (defScope st_Board_rows) .none kV_Board_rows dc_Board_rows pm_Board_rows an_Board_rows cd_Board_rows ct_Board_rows), sl_Board_rows⟩)
    (c_Board_rows : PySem.W.codeIn K cd_Board_rows "Board.rows" = true)
    (k_Board_rows : PySem.W.keepIn K (.ref f_Board_rows) = true)
    (g__law_is_right : PySem.W.nsIn K mainGlobals "_law_is_right" = some (some (.ref f__law_is_right)))
    {oc__law_is_right kV__law_is_right dc__law_is_right pm__law_is_right cd__law_is_right ct__law_is_right : Value} {od__law_is_right an__law_is_right : Option Addr} {sl__law_is_right : Array (Option Value)} (l__law_is_right : K.lookup f__law_is_right = some ⟨oc__law_is_right, od__law_is_right, .func (PySem.W.fnOf "_law_is_right" "_law_is_right" (defArgs st__law_is_right) (defBody st__law_is_right) (defScope st__law_is_right) .none kV__law_is_right dc__law_is_right pm__law_is_right an__law_is_right cd__law_is_right ct__law_is_right), sl__law_is_right⟩)
    (c__law_is_right : PySem.W.codeIn K cd__law_is_right "_law_is_right" = true)
    (k__law_is_right : PySem.W.keepIn K (.ref f__law_is_right) = true)
    (g_law : PySem.W.nsIn K mainGlobals "law" = some (some (.ref f_law)))
    {oc_law kV_law dc_law pm_law cd_law ct_law : Value} {od_law an_law : Option Addr} {sl_law : Array (Option Value)} (l_law : K.lookup f_law = some ⟨oc_law, od_law, .func (PySem.W.fnOf "law" "law" (defArgs st_law) (defBody st_law) (defScope st_law) .none kV_law dc_law pm_law an_law cd_law ct_law), sl_law⟩)
    (c_law : PySem.W.codeIn K cd_law "law" = true)
    (k_law : PySem.W.keepIn K (.ref f_law) = true)
    (pg_Board : PySem.W.plainGet K C_Board Str.empty = true)
    (hd_Board : PySem.W.hasDictIn K C_Board = true)
    (po_Board : PySem.W.plainOver K C_Board = true)
    (sa_Board : PySem.W.findIn K (.ref C_Board) "__setattr__" = some (some (.builtin "object.__setattr__")))
    (ns_Board : PySem.W.noSeq K C_Board = true)
    (ca_Board_read : PySem.W.findCls K (.ref C_Board) (.type "type") "read" = some (.get (.builtin "classmethod.__get__") (.ref p_Board_read) .none (.ref C_Board)))
    {rs_Board_read : List Value} (cb_Board_read : PySem.W.recIn K p_Board_read "classmethod" = some (.ref f_Board_read :: rs_Board_read))
    (cf_Board_read : PySem.W.fnIn K f_Board_read = true)
    (cra_Board : PySem.W.readsIn K C_Board (.type "type") = true)
    (crb_Board : PySem.W.specialIn K (.ref C_Board) "__getattribute__" = some (some (.builtin "type.__getattribute__")))
    {tk_MOST : Tok} (cv_MOST : PySem.W.findCls K (.ref C_Board) (.type "type") "MOST" = some (.val (.int 6 tk_MOST)))
    (n_Board_known : PySem.W.findIn K (.ref C_Board) "known" = some none)
    (ki_Board_0 : PySem.W.kitOne K (.type "NoneType") (.ref C_Board) = some false)
    (ki_Board_1 : PySem.W.kitOne K (.type "bool") (.ref C_Board) = some false)
    (ki_Board_2 : PySem.W.kitOne K (.type "int") (.ref C_Board) = some false)
    (ki_Board_3 : PySem.W.kitOne K (.type "str") (.ref C_Board) = some false)
    (ki_Board_4 : PySem.W.kitOne K (.type "tuple") (.ref C_Board) = some false)
    (ki_Board_5 : PySem.W.kitOne K (.type "list") (.ref C_Board) = some false)
    (ki_Board_6 : PySem.W.kitOne K (.type "dict") (.ref C_Board) = some false)
    (kj_Board : PySem.W.kitOne K (.ref C_Board) (.ref C_Board) = some true)
    (ic_Board : PySem.W.findIn K (.ref C_Board) "__class__" = some (some (.builtin "object.__class__")))
    (gs_get : PySem.W.specialIn K (.builtin "object.__class__") "__get__" = some (some (.builtin "getset_descriptor.__get__")))
    (gs_tk : PySem.W.takesIn K (.builtin "object.__class__") = some true)
    (mo_Board : PySem.W.mroIn K C_Board (.type "object") = some true)
    (mk_Board : PySem.W.makesIn K C_Board = true)
    (mi_Board : PySem.W.findIn K (.ref C_Board) "__init__" = some (some (.ref f_Board___init__)))
    (mf_Board : PySem.W.isFn K (.ref f_Board___init__) = true)
    (mk2_Board : PySem.W.keepIn K (.ref C_Board) = true)
    (ma_Board_text : PySem.W.findIn K (.ref C_Board) "text" = some (some (.ref f_Board_text)))
    (mb_Board_text : PySem.W.isFn K (.ref f_Board_text) = true)
    (mc_Board_text : PySem.W.keepIn K (.ref f_Board_text) = true)
    (fi_Board_text : PySem.W.fnIn K f_Board_text = true)
    (pa_Board_issues : PySem.W.findIn K (.ref C_Board) "issues" = some (some (.ref p_Board_issues)))
    (pb_Board_issues : PySem.W.specialIn K (.ref p_Board_issues) "__get__" = some (some (.builtin "property.__get__")))
    (pc_Board_issues : PySem.W.takesIn K (.ref p_Board_issues) = some true)
    {rs_Board_issues : List Value} (pd_Board_issues : PySem.W.recIn K p_Board_issues "property" = some (.ref f_Board_issues :: rs_Board_issues))
    (pa_Board_rows : PySem.W.findIn K (.ref C_Board) "rows" = some (some (.ref p_Board_rows)))
    (pb_Board_rows : PySem.W.specialIn K (.ref p_Board_rows) "__get__" = some (some (.builtin "property.__get__")))
    (pc_Board_rows : PySem.W.takesIn K (.ref p_Board_rows) = some true)
    {rs_Board_rows : List Value} (pd_Board_rows : PySem.W.recIn K p_Board_rows "property" = some (.ref f_Board_rows :: rs_Board_rows))
    (x_QuotaError : PySem.W.excIn K C_QuotaError [.type "ValueError", .type "Exception", .type "BaseException", .type "object"] "ValueError.__new__" = true)
    (k_QuotaError : PySem.W.keepIn K (.ref C_QuotaError) = true)
    (b_QuotaError : PySem.W.subIn K (.ref C_QuotaError) (.type "BaseException") = some true)
    (t_QuotaError : PySem.W.typeIn K (.ref C_QuotaError) = some (.type "type"))
    (x_RowsError : PySem.W.excIn K C_RowsError [.type "ValueError", .type "Exception", .type "BaseException", .type "object"] "ValueError.__new__" = true)
    (k_RowsError : PySem.W.keepIn K (.ref C_RowsError) = true)
    (b_RowsError : PySem.W.subIn K (.ref C_RowsError) (.type "BaseException") = some true)
    (t_RowsError : PySem.W.typeIn K (.ref C_RowsError) = some (.type "type"))
    (x_TextError : PySem.W.excIn K C_TextError [.type "ValueError", .type "Exception", .type "BaseException", .type "object"] "ValueError.__new__" = true)
    (k_TextError : PySem.W.keepIn K (.ref C_TextError) = true)
    (b_TextError : PySem.W.subIn K (.ref C_TextError) (.type "BaseException") = some true)
    (t_TextError : PySem.W.typeIn K (.ref C_TextError) = some (.type "type"))
    (ei_QuotaError_QuotaError : PySem.W.isClsIn K C_QuotaError = true)
    (es_QuotaError_QuotaError : PySem.W.subIn K (.ref C_QuotaError) (.ref C_QuotaError) = some true)
    (ei_TextError_TextError : PySem.W.isClsIn K C_TextError = true)
    (es_TextError_TextError : PySem.W.subIn K (.ref C_TextError) (.ref C_TextError) = some true)
    : Hd K mg ⟨C_QuotaError, C_RowsError, C_TextError, C_Board, f__law_source, f__law_cell, f__law_draw, f__law_all_rows, f__law_choose, f__law_mixed, f__law_rows, f__law_bent, f_is_answers, f_are_rows, f_Board___init__, f_Board_read, f__law_due, f__law_is_equal, f_Board_text, f_Board_issues, f_Board_rows, f__law_is_right, f_law, p_Board_issues, p_Board_rows, p_Board_read⟩ where
  z_all := PySem.W.mg_none_of X G z_all
  z_dict := PySem.W.mg_none_of X G z_dict
  z_isinstance := PySem.W.mg_none_of X G z_isinstance
  z_len := PySem.W.mg_none_of X G z_len
  z_list := PySem.W.mg_none_of X G z_list
  z_max := PySem.W.mg_none_of X G z_max
  z_min := PySem.W.mg_none_of X G z_min
  z_range := PySem.W.mg_none_of X G z_range
  z_repr := PySem.W.mg_none_of X G z_repr
  z_set := PySem.W.mg_none_of X G z_set
  z_sorted := PySem.W.mg_none_of X G z_sorted
  z_str := PySem.W.mg_none_of X G z_str
  z_tuple := PySem.W.mg_none_of X G z_tuple
  g_QuotaError := PySem.W.mg_of X G g_QuotaError
  g_RowsError := PySem.W.mg_of X G g_RowsError
  g_TextError := PySem.W.mg_of X G g_TextError
  g_Board := PySem.W.mg_of X G g_Board
  g__law_source := PySem.W.mg_of X G g__law_source
  F__law_source := ⟨k__law_source, fx_of ⟨_, _, _, _, _, _, _, _, _, l__law_source, c__law_source⟩ k__law_source⟩
  g__law_cell := PySem.W.mg_of X G g__law_cell
  F__law_cell := ⟨k__law_cell, fx_of ⟨_, _, _, _, _, _, _, _, _, l__law_cell, c__law_cell⟩ k__law_cell⟩
  g__law_draw := PySem.W.mg_of X G g__law_draw
  F__law_draw := ⟨k__law_draw, fx_of ⟨_, _, _, _, _, _, _, _, _, l__law_draw, c__law_draw⟩ k__law_draw⟩
  g__law_all_rows := PySem.W.mg_of X G g__law_all_rows
  F__law_all_rows := ⟨k__law_all_rows, fx_of ⟨_, _, _, _, _, _, _, _, _, l__law_all_rows, c__law_all_rows⟩ k__law_all_rows⟩
  g__law_choose := PySem.W.mg_of X G g__law_choose
  F__law_choose := ⟨k__law_choose, fx_of ⟨_, _, _, _, _, _, _, _, _, l__law_choose, c__law_choose⟩ k__law_choose⟩
  g__law_mixed := PySem.W.mg_of X G g__law_mixed
  F__law_mixed := ⟨k__law_mixed, fx_of ⟨_, _, _, _, _, _, _, _, _, l__law_mixed, c__law_mixed⟩ k__law_mixed⟩
  g__law_rows := PySem.W.mg_of X G g__law_rows
  F__law_rows := ⟨k__law_rows, fx_of ⟨_, _, _, _, _, _, _, _, _, l__law_rows, c__law_rows⟩ k__law_rows⟩
  g__law_bent := PySem.W.mg_of X G g__law_bent
  F__law_bent := ⟨k__law_bent, fx_of ⟨_, _, _, _, _, _, _, _, _, l__law_bent, c__law_bent⟩ k__law_bent⟩
  g_is_answers := PySem.W.mg_of X G g_is_answers
  F_is_answers := ⟨k_is_answers, fx_of ⟨_, _, _, _, _, _, _, _, _, l_is_answers, c_is_answers⟩ k_is_answers⟩
  g_are_rows := PySem.W.mg_of X G g_are_rows
  F_are_rows := ⟨k_are_rows, fx_of ⟨_, _, _, _, _, _, _, _, _, l_are_rows, c_are_rows⟩ k_are_rows⟩
  F_Board___init__ := ⟨k_Board___init__, fx_of ⟨_, _, _, _, _, _, _, _, _, l_Board___init__, c_Board___init__⟩ k_Board___init__⟩
  F_Board_read := ⟨k_Board_read, fx_of ⟨_, _, _, _, _, _, _, _, _, l_Board_read, c_Board_read⟩ k_Board_read⟩
  g__law_due := PySem.W.mg_of X G g__law_due
  F__law_due := ⟨k__law_due, fx_of ⟨_, _, _, _, _, _, _, _, _, l__law_due, c__law_due⟩ k__law_due⟩
  g__law_is_equal := PySem.W.mg_of X G g__law_is_equal
  F__law_is_equal := ⟨k__law_is_equal, fx_of ⟨_, _, _, _, _, _, _, _, _, l__law_is_equal, c__law_is_equal⟩ k__law_is_equal⟩
  F_Board_text := ⟨k_Board_text, fx_of ⟨_, _, _, _, _, _, _, _, _, l_Board_text, c_Board_text⟩ k_Board_text⟩
  F_Board_issues := ⟨k_Board_issues, fx_of ⟨_, _, _, _, _, _, _, _, _, l_Board_issues, c_Board_issues⟩ k_Board_issues⟩
  F_Board_rows := ⟨k_Board_rows, fx_of ⟨_, _, _, _, _, _, _, _, _, l_Board_rows, c_Board_rows⟩ k_Board_rows⟩
  g__law_is_right := PySem.W.mg_of X G g__law_is_right
  F__law_is_right := ⟨k__law_is_right, fx_of ⟨_, _, _, _, _, _, _, _, _, l__law_is_right, c__law_is_right⟩ k__law_is_right⟩
  g_law := PySem.W.mg_of X G g_law
  F_law := ⟨k_law, fx_of ⟨_, _, _, _, _, _, _, _, _, l_law, c_law⟩ k_law⟩
  cl_Board := ⟨pg_Board, hd_Board, po_Board, sa_Board⟩
  ns_Board := ns_Board
  cm_Board_read := ⟨ca_Board_read, ⟨_, cb_Board_read⟩, cf_Board_read⟩
  cr_Board := ⟨cra_Board, crb_Board⟩
  cv_MOST := ⟨_, cv_MOST, _, rfl⟩
  n_Board_known := n_Board_known
  is_Board := isok_obj (kit7 ki_Board_0 ki_Board_1 ki_Board_2 ki_Board_3 ki_Board_4 ki_Board_5 ki_Board_6) (fun t b e => by obtain ⟨rfl, rfl⟩ := one_inv2 e; exact ⟨kj_Board, ⟨pg_Board, hd_Board, po_Board, sa_Board⟩, ic_Board, gs_get, gs_tk, mo_Board⟩)
  mk_Board := ⟨mk_Board, mi_Board, mf_Board, mk2_Board⟩
  m_Board_text := ⟨ma_Board_text, mb_Board_text, mc_Board_text⟩
  fi_Board_text := fi_Board_text
  p_Board_issues := ⟨pa_Board_issues, pb_Board_issues, pc_Board_issues, ⟨_, pd_Board_issues⟩⟩
  p_Board_rows := ⟨pa_Board_rows, pb_Board_rows, pc_Board_rows, ⟨_, pd_Board_rows⟩⟩
  x_QuotaError := x_QuotaError
  k_QuotaError := k_QuotaError
  b_QuotaError := b_QuotaError
  t_QuotaError := t_QuotaError
  x_RowsError := x_RowsError
  k_RowsError := k_RowsError
  b_RowsError := b_RowsError
  t_RowsError := t_RowsError
  x_TextError := x_TextError
  k_TextError := k_TextError
  b_TextError := b_TextError
  t_TextError := t_TextError
  e_QuotaError_QuotaError := (exm_of b_QuotaError ei_QuotaError_QuotaError t_QuotaError es_QuotaError_QuotaError)
  e_TextError_TextError := (exm_of b_TextError ei_TextError_TextError t_TextError es_TextError_TextError)
end Lw
end
section
set_option maxRecDepth 100000
set_option maxHeartbeats 4000000
/-! MA: loops and comprehensions computed. -/
namespace Dt
open PySem
section
variable {vs : List Nat} {t : D → Sl → Option Sl} {c : M Bool} {f : M EV}
end
/-- strings as data -/
abbrev strL (ss : List (List Nat)) : List D := ss.map D.str
@[simp] theorem strsOf_map (ss : List (List Nat)) : strsOf (ss.map D.str) = some ss := by
  induction ss with
  | nil => rfl
  | cons s ss ih => simp [strsOf, ih]
@[simp] theorem toPL_strs (ss : List (List Nat)) : toPL (ss.map D.str) = some (ss.map fun s => .str (mkS s)) := by
  induction ss with
  | nil => simp [toPL]
  | cons s ss ih => simp [toPL, toP, ih]
@[simp] theorem blsOf_map (bs : List Bool) : blsOf (bs.map D.bl) = some bs := by
  induction bs with
  | nil => rfl
  | cons s ss ih => simp [blsOf, ih]
@[simp] theorem intsOf_map (bs : List Int) : intsOf (bs.map D.int) = some bs := by
  induction bs with
  | nil => rfl
  | cons s ss ih => simp [intsOf, ih]
end Dt
end
section
set_option maxRecDepth 100000
set_option maxHeartbeats 4000000
/-! WA: weakest preconditions of the readings, rule by rule. -/
namespace Dt
open PySem L2

def wp {α : Type} (f : M α) (env : Sl) (Q : α → Sl → Prop) (X : ExD → Sl → Prop) : Prop := match f env with
  | some (.ok a e) => Q a e
  | some (.exc x e) => X x e
  | none => False
structure Ps where
  rt : EV → Sl → Prop
  bk : Sl → Prop
  ct : Sl → Prop
  ex : ExD → Sl → Prop
def wps (f : S) (env : Sl) (N : Sl → Prop) (P : Ps) : Prop := match f env with
  | some (.nx e) => N e
  | some (.rt v e) => P.rt v e
  | some (.bk e) => P.bk e
  | some (.ct e) => P.ct e
  | some (.exc x e) => P.ex x e
  | none => False
def wpo {α : Type} (o : Option α) (K : α → Prop) : Prop := match o with
  | some a => K a
  | none => False
def NoX : ExD → Sl → Prop := fun _ _ => False
section
variable {α β : Type} {f : M α} {k : α → M β} {env e1 : Sl} {Q : α → Sl → Prop} {Q' : β → Sl → Prop} {X : ExD → Sl → Prop} {N : Sl → Prop} {P : Ps}
theorem wp_mono {R : α → Sl → Prop} {Y : ExD → Sl → Prop} (h : wp f env R Y) (k : ∀ a e, R a e → Q a e) (kx : ∀ x e, Y x e → X x e) : wp f env Q X := by
  unfold wp at h ⊢
  cases q : f env with
  | none => rw [q] at h; exact h
  | some r => rw [q] at h; cases r with
    | ok a e => exact k a e h
    | exc x e => exact kx x e h
theorem wp_bind (h : wp f env (fun a e => wp (k a) e Q' X) X) : wp (M.bind f k) env Q' X := by
  unfold wp at h ⊢
  unfold M.bind
  cases q : f env with
  | none => rw [q] at h; exact h
  | some r => rw [q] at h; cases r with
    | ok a e => exact h
    | exc x e => exact h
theorem wp_ret {a : α} (h : Q a env) : wp (M.ret a) env Q X := h
theorem wp_lift {o : Option α} (h : wpo o fun a => Q a env) : wp (lift o) env Q X := by
  unfold wp lift; cases o with
  | none => exact h
  | some a => exact h
theorem wpo_map {o : Option α} {k : α → β} {K : β → Prop} (h : wpo o fun a => K (k a)) : wpo (o.map k) K := by
  cases o with
  | none => exact h
  | some a => exact h
theorem wpo_of {o : Option α} {K : α → Prop} {a : α} (h : o = some a) (k : K a) : wpo o K := by rw [h]; exact k
theorem ex_mk {a : EV → Sl → Prop} {b c : Sl → Prop} {d : ExD → Sl → Prop} {x : ExD} {e : Sl} (h : d x e) : Ps.ex ⟨a, b, c, d⟩ x e := h
end

/-! names, constants -/
section
variable {env e1 : Sl} {X : ExD → Sl → Prop} {N : Sl → Prop} {P : Ps}
theorem wp_oName_v {Q : AV → Sl → Prop} {i : Nat} {d : D} (h : env[i]? = some (.val d)) (k : Q (.v d) env) : wp (oName i) env Q X := by
  unfold wp oName; rw [h]; exact k
theorem wp_oName_o {Q : AV → Sl → Prop} {i : Nat} {c : OC} (h : env[i]? = some (.own c)) (k : Q (.s i) env) : wp (oName i) env Q X := by
  unfold wp oName; rw [h]; exact k
theorem wp_eName_v {Q : EV → Sl → Prop} {i : Nat} {d : D} (h : env[i]? = some (.val d)) (k : Q (.v d) env) : wp (eName i) env Q X := by
  unfold wp eName; rw [h]; exact k
theorem wp_eName_o {Q : EV → Sl → Prop} {i : Nat} {c : OC} {d : D} (h : env[i]? = some (.own c)) (hf : frzC c = some d) (k : ∀ e', env.set i (.val d) = e' → Q (.v d) e') : wp (eName i) env Q X := by
  unfold wp eName; rw [h]; dsimp only; rw [hf]; exact k _ rfl
theorem wp_toA {f : M EV} {Q : AV → Sl → Prop} (h : wp f env (fun ev e => wpo (frz ev) fun d => Q (.v d) e) X) : wp (toA f) env Q X := by
  unfold toA
  refine wp_bind (wp_mono h (fun a e q => ?_) fun _ _ q => q)
  cases z : frz a with
  | none => rw [z] at q; exact q.elim
  | some d => rw [z] at q; exact q
theorem wp_eC {Q : EV → Sl → Prop} {d : D} (k : Q (.v d) env) : wp (eC d) env Q X := k
theorem wp_opM {Q : EV → Sl → Prop} {op : D → D → Option EV} {x y : AV} {d1 d2 : D} (h1 : deref env x = some d1) (h2 : deref env y = some d2) (k : wpo (op d1 d2) fun r => Q r env) : wp (opM op x y) env Q X := by
  unfold wp opM; rw [h1, h2]; dsimp only [Option.bind]; unfold lift
  cases z : op d1 d2 with
  | none => rw [z] at k; exact k
  | some r => rw [z] at k; exact k
theorem wp_eOp {Q : EV → Sl → Prop} {op : D → D → Option EV} {fa fb : M AV} (h : wp fa env (fun x e => wp fb e (fun y e' => wp (opM op x y) e' Q X) X) X) : wp (eOp op fa fb) env Q X := by
  unfold eOp; exact wp_bind (wp_mono h (fun _ _ q => wp_bind q) fun _ _ q => q)
theorem wp_toB {Q : Bool → Sl → Prop} {f : M EV} (h : wp f env (fun v e => ∃ b, v = .v (.bl b) ∧ Q b e) X) : wp (toB f) env Q X := by
  unfold toB
  refine wp_bind (wp_mono h (fun a e q => ?_) fun _ _ q => q)
  obtain ⟨b, rfl, q⟩ := q
  exact q
theorem isbl {Q : Bool → Prop} {b : Bool} (h : Q b) : ∃ b', (EV.v (.bl b)) = .v (.bl b') ∧ Q b' := ⟨b, rfl, h⟩
theorem wp_eChain {Q : EV → Sl → Prop} {op op' : D → D → Option EV} {fa fb fc : M AV} (h : wp fa env (fun x e => wp fb e (fun y e2 => wp (opM op x y) e2 (fun v e3 => ∃ b, v = .v (.bl b) ∧ ((b = true → wp fc e3 (fun z e4 => wp (opM op' y z) e4 Q X) X) ∧ (b = false → Q (.v (.bl false)) e3))) X) X) X) : wp (eChain op op' fa fb fc) env Q X := by
  unfold eChain
  refine wp_bind (wp_mono h (fun _ _ q => wp_bind (wp_mono q (fun _ _ q => wp_bind (wp_toB (wp_mono q (fun v e q => ?_) fun _ _ q => q))) fun _ _ q => q)) fun _ _ q => q)
  obtain ⟨b, rfl, q1, q2⟩ := q
  refine ⟨b, rfl, ?_⟩
  cases b with
  | true => exact wp_bind (q1 rfl)
  | false => exact q2 rfl
theorem wp_bOr {Q : Bool → Sl → Prop} {f g : M Bool} (h : wp f env (fun b e => (b = true → Q true e) ∧ (b = false → wp g e Q X)) X) : wp (bOr f g) env Q X := by
  unfold bOr
  refine wp_bind (wp_mono h (fun b e q => ?_) fun _ _ q => q)
  cases b with
  | true => exact q.1 rfl
  | false => exact q.2 rfl
theorem wp_bNot {Q : Bool → Sl → Prop} {f : M Bool} (h : wp f env (fun b e => Q (!b) e) X) : wp (bNot f) env Q X := wp_bind h
theorem wp_eAnd {Q : EV → Sl → Prop} {f g : M EV} (h : wp f env (fun v e => ∃ b, v = .v (.bl b) ∧ ((b = true → wp g e Q X) ∧ (b = false → Q (.v (.bl false)) e))) X) : wp (eAnd f g) env Q X := by
  unfold eAnd
  refine wp_bind (wp_toB (wp_mono h (fun v e q => ?_) fun _ _ q => q))
  obtain ⟨b, rfl, q1, q2⟩ := q
  refine ⟨b, rfl, ?_⟩
  cases b with
  | true => exact q1 rfl
  | false => exact q2 rfl
theorem wp_eIf {Q : EV → Sl → Prop} {c : M Bool} {f g : M EV} (h : wp c env (fun b e => (b = true → wp f e Q X) ∧ (b = false → wp g e Q X)) X) : wp (eIf c f g) env Q X := by
  unfold eIf
  refine wp_bind (wp_mono h (fun b e q => ?_) fun _ _ q => q)
  cases b with
  | true => exact q.1 rfl
  | false => exact q.2 rfl
theorem wp_asNil {Q : List AV → Sl → Prop} (h : Q [] env) : wp asNil env Q X := h
theorem wp_asCons {Q : List AV → Sl → Prop} {f : M AV} {g : M (List AV)} (h : wp f env (fun a e => wp g e (fun as e' => Q (a :: as) e') X) X) : wp (asCons f g) env Q X := by
  unfold asCons
  exact wp_bind (wp_mono h (fun _ _ q => wp_bind q) fun _ _ q => q)
theorem wp_eTup {Q : EV → Sl → Prop} {g : M (List AV)} (h : wp g env (fun as e => wpo (vals as) fun ds => ds.length ≤ 4000 ∧ Q (.v (.tup ds)) e) X) : wp (eTup g) env Q X := by
  unfold eTup
  refine wp_bind (wp_mono h (fun as e q => ?_) fun _ _ q => q)
  cases z : vals as with
  | none => rw [z] at q; exact q.elim
  | some ds => rw [z] at q; unfold wp; dsimp only; rw [if_pos q.1]; exact q.2
theorem wp_eLst {Q : EV → Sl → Prop} {g : M (List AV)} (h : wp g env (fun as e => wpo (vals as) fun ds => ds.length ≤ 4000 ∧ Q (.o (.lst ds)) e) X) : wp (eLst g) env Q X := by
  unfold eLst
  refine wp_bind (wp_mono h (fun as e q => ?_) fun _ _ q => q)
  cases z : vals as with
  | none => rw [z] at q; exact q.elim
  | some ds => rw [z] at q; unfold wp; dsimp only; rw [if_pos q.1]; exact q.2
/-! calls -/
theorem wp_callM {Q : EV → Sl → Prop} {g : M EV} {as : List AV} {sl : Sl} (hn : (sidx as).Nodup) (ha : argsOf env as = some sl) (h : wp g sl (fun v o => ∀ e', back env as o = e' → Q v e') (fun x o => ∀ e', back env as o = e' → X x e')) : wp (callM g as) env Q X := by
  unfold wp callM
  rw [if_pos hn, ha]
  dsimp only [Option.bind]
  unfold wp at h
  cases z : g sl with
  | none => rw [z] at h; exact h
  | some r => rw [z] at h; cases r with
    | ok a e => exact h _ rfl
    | exc x e => exact h _ rfl
theorem wp_eCall {Q : EV → Sl → Prop} {g : M EV} {fs : M (List AV)} (h : wp fs env (fun as e => wp (callM g as) e Q X) X) : wp (eCall g fs) env Q X := wp_bind h
theorem wp_funD {Q : EV → Sl → Prop} {n np : Nat} {body : S} {args env0 : Sl} (hn : args.length = np) (ha : args ++ List.replicate (n - np) .emp = env0) (h : wps body env0 (fun e => ∀ e', e.take np = e' → Q (.v .non) e') ⟨fun v e => ∀ e', e.take np = e' → Q v e', fun _ => False, fun _ => False, fun x e => ∀ e', e.take np = e' → X x e'⟩) : wp (funD n np body) args Q X := by
  unfold wp funD
  rw [if_pos hn, ha]
  unfold wps at h
  cases z : body env0 with
  | none => rw [z] at h; exact h
  | some r => rw [z] at h; cases r with
    | nx e => exact h _ rfl
    | rt v e => exact h _ rfl
    | bk e => exact h
    | ct e => exact h
    | exc x e => exact h _ rfl
/-- a def of self and *rest -/
theorem wp_funV {Q : EV → Sl → Prop} {n : Nat} {body : S} {a : Slot} {rest : Sl} {ds : List D} (hv : valsOf rest = some ds) (hl : ds.length ≤ 5000) (h : wp (funD n 2 body) [a, .val (.tup ds)] (fun v e => ∃ a' r, e = a' :: r ∧ Q v (a' :: rest)) (fun x e => ∃ a' r, e = a' :: r ∧ X x (a' :: rest))) : wp (funV n body) (a :: rest) Q X := by
  unfold wp funV
  dsimp only
  rw [hv]
  dsimp only [Option.bind]
  rw [if_pos hl]
  unfold wp at h
  cases z : funD n 2 body [a, .val (.tup ds)] with
  | none => rw [z] at h; exact h
  | some r => rw [z] at h; cases r with
    | ok v e => obtain ⟨a', r, rfl, q⟩ := h; exact q
    | exc x e => obtain ⟨a', r, rfl, q⟩ := h; exact q
theorem isCons {a : Slot} {r : Sl} {K : Slot → Prop} (h : K a) : ∃ a' r', a :: r = a' :: r' ∧ K a' := ⟨a, r, rfl, h⟩
end

/-! statements -/
section
variable {env e1 : Sl} {X : ExD → Sl → Prop} {N : Sl → Prop} {P : Ps}
theorem wps_sE {α : Type} {f : M α} {k : α → S} (h : wp f env (fun a e => wps (k a) e N P) P.ex) : wps (sE f k) env N P := by
  unfold wps sE
  unfold wp at h
  cases z : f env with
  | none => rw [z] at h; exact h
  | some r => rw [z] at h; cases r with
    | ok a e => exact h
    | exc x e => exact h
theorem wps_seq {f g : S} (h : wps f env (fun e => wps g e N P) P) : wps (sSeq f g) env N P := by
  unfold wps sSeq
  unfold wps at h
  cases z : f env with
  | none => rw [z] at h; exact h
  | some r => rw [z] at h; cases r with
    | nx e => exact h
    | rt v e => exact h
    | bk e => exact h
    | ct e => exact h
    | exc x e => exact h
theorem wps_nil (h : N env) : wps sNil env N P := h
theorem wps_expr {f : M EV} (h : wp f env (fun _ e => N e) P.ex) : wps (sExpr f) env N P := wps_sE h
theorem wps_ret {f : M EV} (h : wp f env (fun v e => P.rt v e) P.ex) : wps (sRet f) env N P := wps_sE h
theorem wps_if {c : M Bool} {f g : S} (h : wp c env (fun b e => (b = true → wps f e N P) ∧ (b = false → wps g e N P)) P.ex) : wps (sIf c f g) env N P := by
  refine wps_sE (wp_mono h (fun b e q => ?_) fun _ _ q => q)
  cases b with
  | true => exact q.1 rfl
  | false => exact q.2 rfl
theorem wps_set {i : Nat} {f : M EV} (h : wp f env (fun v e => ∀ e', e.set i (slotOf v) = e' → N e') P.ex) : wps (sSet i f) env N P :=
  wps_sE (wp_mono h (fun _ _ q => q _ rfl) fun _ _ q => q)
theorem wps_retV_v {np : Nat → Bool} {i : Nat} {d : D} (h : env[i]? = some (.val d)) (k : P.rt (.v d) env) : wps (sRetV np i) env N P := by
  unfold wps sRetV; rw [h]; exact k
theorem wps_retV_o {np : Nat → Bool} {i : Nat} {c : OC} (h : env[i]? = some (.own c)) (hn : np i = false) (k : ∀ e', env.set i .emp = e' → P.rt (.o c) e') : wps (sRetV np i) env N P := by
  unfold wps sRetV; rw [h]; dsimp only; rw [if_pos hn]; exact k _ rfl
theorem wps_par {i j : Nat} {f g : M EV} (h : wp f env (fun a e => wp g e (fun b e2 => ∀ e', (e2.set j (slotOf b)).set i (slotOf a) = e' → N e') P.ex) P.ex) : wps (sPar i j f g) env N P := by
  unfold wps sPar
  unfold wp at h
  cases z : f env with
  | none => rw [z] at h; exact h
  | some r => rw [z] at h; cases r with
    | exc x e => exact h
    | ok a e =>
      dsimp only at h ⊢
      cases z2 : g e with
      | none => rw [z2] at h; exact h
      | some r => rw [z2] at h; cases r with
        | exc x e => exact h
        | ok b e2 => exact h _ rfl
theorem wps_raise {t : Nat} (h : P.ex ⟨t, []⟩ env) : wps (sRaise t) env N P := h
theorem wps_try {body suite : S} {sb : Nat → Option Bool} (h : wps body env N ⟨P.rt, P.bk, P.ct, fun x e => ∃ b, sb x.t = some b ∧ (b = true → wps suite e N ⟨P.rt, P.bk, P.ct, NoX⟩) ∧ (b = false → P.ex x e)⟩) : wps (sTry body sb suite) env N P := by
  unfold wps sTry
  unfold wps at h
  cases z : body env with
  | none => rw [z] at h; exact h
  | some r => rw [z] at h; cases r with
    | nx e => exact h
    | rt v e => exact h
    | bk e => exact h
    | ct e => exact h
    | exc x e =>
      obtain ⟨b, hb, q1, q2⟩ := h
      dsimp only
      rw [hb]
      cases b with
      | false => exact q2 rfl
      | true =>
        have q := q1 rfl
        unfold wps at q
        dsimp only
        cases z2 : suite e with
        | none => rw [z2] at q; exact q
        | some r => rw [z2] at q; cases r with
          | nx e => exact q
          | rt v e => exact q
          | bk e => exact q
          | ct e => exact q
          | exc x e => exact q.elim
theorem wps_for {f : M (List D)} {t : D → Sl → Option Sl} {body : S} (h : wp f env (fun ds e => wps (forL t body ds) e N P) P.ex) : wps (sFor f t body) env N P := wps_sE h
/-- a loop: I of what is done -/
theorem forW {α : Type} {inj : α → D} {t : D → Sl → Option Sl} {body : S} (I : List α → Sl → Prop) : ∀ (l pre : List α) (env : Sl), I pre env → (∀ mid a post, l = mid ++ a :: post → ∀ e, I (pre ++ mid) e → ∃ e1, t (inj a) e = some e1 ∧ wps body e1 (I (pre ++ mid ++ [a])) ⟨P.rt, N, I (pre ++ mid ++ [a]), P.ex⟩) → (∀ e, I (pre ++ l) e → N e) → wps (forL t body (l.map inj)) env N P
  | [], pre, env, h, _, hN => by show N env; exact hN env (by simpa using h)
  | a :: l, pre, env, h, st, hN => by
    obtain ⟨e1, h1, h2⟩ := st [] a l rfl env (by simpa using h)
    unfold wps at h2 ⊢
    rw [List.map_cons]
    unfold forL
    rw [h1]
    dsimp only
    have go : ∀ e, I (pre ++ [a]) e → wps (forL t body (l.map inj)) e N P := fun e he => forW I l (pre ++ [a]) e he (fun mid b post hm e he => by
      have := st (a :: mid) b post (by rw [hm]; rfl) e (by simpa using he)
      simpa using this) fun e he => hN e (by simpa using he)
    cases z : body e1 with
    | none => rw [z] at h2; exact h2
    | some r => rw [z] at h2; cases r with
      | nx e => exact go e (by simpa using h2)
      | ct e => exact go e (by simpa using h2)
      | bk e => exact h2
      | rt v e => exact h2
      | exc x e => exact h2
theorem wps_forI {α : Type} {inj : α → D} {t : D → Sl → Option Sl} {body : S} {l : List α} (I : List α → Sl → Prop) (h0 : I [] env) (st : ∀ pre a post, l = pre ++ a :: post → ∀ e, I pre e → ∃ e1, t (inj a) e = some e1 ∧ wps body e1 (I (pre ++ [a])) ⟨P.rt, N, I (pre ++ [a]), P.ex⟩) (hN : ∀ e, I l e → N e) : wps (forL t body (l.map inj)) env N P :=
  forW I l [] env h0 (fun mid a post hm e he => by simpa using st mid a post hm e (by simpa using he)) fun e he => hN e (by simpa using he)
/-- .. over 0, 1, .. n - 1 -/
theorem wps_forN {t : D → Sl → Option Sl} {body : S} {n : Nat} (I : Nat → Sl → Prop) (h0 : I 0 env) (st : ∀ j e, j < n → I j e → ∃ e1, t (.int (j : Int)) e = some e1 ∧ wps body e1 (I (j + 1)) ⟨P.rt, N, I (j + 1), P.ex⟩) (hN : ∀ e, I n e → N e) : wps (forL t body (rangeD 0 (n : Int))) env N P := by
  have e : rangeD 0 (n : Int) = (List.range n).map fun i : Nat => D.int (i : Int) := by simp [rangeD]
  rw [e]
  refine wps_forI (fun pre => I pre.length) h0 (fun pre a post hp e he => ?_) fun e he => hN e (by simpa using he)
  have h1 := congrArg List.length hp
  rw [List.length_range, List.length_append, List.length_cons] at h1
  have h2 : (List.range n)[pre.length]? = some a := by rw [hp]; simp
  have h3 : pre.length = a := by
    rw [List.getElem?_range (by omega)] at h2
    exact Option.some.inj h2
  subst h3
  simpa using st pre.length e (by omega) he
/-- .. over lo .. hi - 1 -/
theorem wps_forR {t : D → Sl → Option Sl} {body : S} {lo hi : Int} (I : Int → Sl → Prop) (hle : lo ≤ hi) (h0 : I lo env) (st : ∀ j e, lo ≤ j → j < hi → I j e → ∃ e1, t (.int j) e = some e1 ∧ wps body e1 (I (j + 1)) ⟨P.rt, N, I (j + 1), P.ex⟩) (hN : ∀ e, I hi e → N e) : wps (forL t body (rangeD lo hi)) env N P := by
  have e : rangeD lo hi = (List.range (hi - lo).toNat).map fun i : Nat => D.int (lo + (i : Int)) := rfl
  rw [e]
  refine wps_forI (fun pre => I (lo + (pre.length : Int))) (by simpa using h0) (fun pre a post hp e he => ?_) fun e he => hN e (by
    rw [List.length_range] at he
    rwa [show lo + (((hi - lo).toNat : Nat) : Int) = hi by omega] at he)
  have h1 := congrArg List.length hp
  rw [List.length_range, List.length_append, List.length_cons] at h1
  have h2 : (List.range (hi - lo).toNat)[pre.length]? = some a := by rw [hp]; simp
  have h3 : pre.length = a := by
    rw [List.getElem?_range (by omega)] at h2
    exact Option.some.inj h2
  subst h3
  have := st (lo + (pre.length : Int)) e (by omega) (by omega) he
  simpa [Int.add_assoc] using this
end
end Dt
end
section
set_option maxRecDepth 100000
set_option maxHeartbeats 4000000
/-! WB: weakest preconditions: built-in calls, mutation, comprehensions, objects. -/
namespace Dt
open PySem L2
inductive All2 {α β : Type} (R : α → β → Prop) : List α → List β → Prop
  | nil : All2 R [] []
  | cons {a : α} {b : β} {as : List α} {bs : List β} : R a b → All2 R as bs → All2 R (a :: as) (b :: bs)
theorem All2.length {α β : Type} {R : α → β → Prop} {as : List α} {bs : List β} (h : All2 R as bs) : as.length = bs.length := by
  induction h with
  | nil => rfl
  | cons _ _ ih => simp [ih]
theorem All2.mem {α β : Type} {R : α → β → Prop} {as : List α} {bs : List β} (h : All2 R as bs) : ∀ b ∈ bs, ∃ a, a ∈ as ∧ R a b := by
  induction h with
  | nil => intro b hb; cases hb
  | cons h1 _ ih =>
    intro b hb
    rcases List.mem_cons.mp hb with rfl | hb
    · exact ⟨_, List.mem_cons_self .., h1⟩
    · obtain ⟨a, h2, h3⟩ := ih b hb
      exact ⟨a, List.mem_cons_of_mem _ h2, h3⟩
/-- what each gives, as typed data -/
theorem All2.typed {α β γ : Type} {P : γ → Prop} {i : γ → β} {as : List α} {bs : List β} (h : All2 (fun _ b => ∃ c, b = i c ∧ P c) as bs) : ∃ cs : List γ, bs = cs.map i ∧ cs.length = as.length ∧ ∀ c ∈ cs, P c := by
  induction h with
  | nil => exact ⟨[], rfl, rfl, fun _ h => by cases h⟩
  | cons h1 _ ih =>
    obtain ⟨c, rfl, hc⟩ := h1
    obtain ⟨cs, rfl, h2, h3⟩ := ih
    refine ⟨c :: cs, rfl, by simp [h2], fun x hx => ?_⟩
    rcases List.mem_cons.mp hx with rfl | hx
    · exact hc
    · exact h3 x hx
section
variable {env : Sl} {X : ExD → Sl → Prop} {N : Sl → Prop} {P : Ps}
theorem wp_bM {Q : EV → Sl → Prop} {op : List D → Option EV} {as : List AV} {ds : List D} (h : derefs env as = some ds) (k : wpo (op ds) fun r => Q r env) : wp (bM op as) env Q X := by
  unfold wp bM; rw [h]; dsimp only [Option.bind]; unfold lift
  cases z : op ds with
  | none => rw [z] at k; exact k
  | some r => rw [z] at k; exact k
theorem wp_eB {Q : EV → Sl → Prop} {op : List D → Option EV} {fs : M (List AV)} (h : wp fs env (fun as e => wp (bM op as) e Q X) X) : wp (eB op fs) env Q X := wp_bind h
theorem wp_tyM {Q : EV → Sl → Prop} {ty : D → Bool} {a : AV} {m : M EV} {d : D} (h : deref env a = some d) (ht : ty d = true) (k : wp m env Q X) : wp (tyM ty a m) env Q X := by
  unfold wp tyM; rw [h]; dsimp only; rw [if_pos ht]; exact k
theorem wp_eBM {Q : EV → Sl → Prop} {ty : D → Bool} {op : List D → Option EV} {fo : M AV} {fs : M (List AV)} (h : wp fo env (fun a e => wp (tyM ty a (M.bind fs fun as => bM op (a :: as))) e Q X) X) : wp (eBM ty op fo fs) env Q X := wp_bind h
/-! mutation -/
def wpMut (op : List D → List D → Option (D × List D)) (i : Nat) (as : List AV) (e : Sl) (Q : EV → Sl → Prop) : Prop := ∃ xs ds p, e[i]? = some (.own (.lst xs)) ∧ vals as = some ds ∧ op xs ds = some p ∧ ∀ e', e.set i (.own (.lst p.2)) = e' → Q (.v p.1) e'
theorem wp_mutM {Q : EV → Sl → Prop} {op : List D → List D → Option (D × List D)} {i : Nat} {fs : M (List AV)} (h0 : ownLst env[i]? = true) (h : wp fs env (fun as e => wpMut op i as e Q) X) : wp (mutM op i fs) env Q X := by
  unfold mutM
  unfold wp; try dsimp only
  rw [if_pos h0]
  have : wp (M.bind fs fun as => fun env => match env[i]? with
    | some (.own (.lst xs)) => (vals as).bind fun ds => (op xs ds).bind fun p => some (.ok (.v p.1) (env.set i (.own (.lst p.2))))
    | _ => none) env Q X := by
    refine wp_bind (wp_mono h (fun as e q => ?_) fun _ _ q => q)
    obtain ⟨xs, ds, p, h1, h2, h3, h4⟩ := q
    unfold wp; try dsimp only
    rw [h1]
    dsimp only
    rw [h2]
    dsimp only [Option.bind]
    rw [h3]
    exact h4 _ rfl
  exact this
theorem wpMut_append {Q : EV → Sl → Prop} {i : Nat} {d : D} {xs : List D} {e : Sl} (h : e[i]? = some (.own (.lst xs))) (hl : xs.length < 1000000) (k : ∀ e', e.set i (.own (.lst (xs ++ [d]))) = e' → Q (.v .non) e') : wpMut opAppend i [.v d] e Q :=
  ⟨xs, [d], (.non, xs ++ [d]), h, rfl, if_pos hl, k⟩
theorem wpMut_extend {Q : EV → Sl → Prop} {i : Nat} {ys : List D} {xs : List D} {e : Sl} (h : e[i]? = some (.own (.lst xs))) (hl : xs.length + ys.length ≤ 1000000) (k : ∀ e', e.set i (.own (.lst (xs ++ ys))) = e' → Q (.v .non) e') : wpMut opExtend i [.v (.lst ys)] e Q :=
  ⟨xs, [.lst ys], (.non, xs ++ ys), h, rfl, if_pos hl, k⟩
theorem opPop_k {xs : List D} {k : Nat} {d : D} (hk : xs[k]? = some d) (hkb : k < 1000000) : opPop xs [.int (k : Int)] = some (d, xs.eraseIdx k) := by
  show (if 0 ≤ (k : Int) ∧ (k : Int) < 1000000 then xs[(k : Int).toNat]?.map fun d => (d, xs.eraseIdx (k : Int).toNat) else none) = _
  rw [if_pos ⟨by omega, by omega⟩, Int.toNat_natCast, hk]
  rfl
theorem wpMut_pop {Q : EV → Sl → Prop} {i : Nat} {j : Int} {d : D} {xs : List D} {e : Sl} (h : e[i]? = some (.own (.lst xs))) (h0 : 0 ≤ j) (hl : j < 1000000) (hd : xs[j.toNat]? = some d) (k : ∀ e', e.set i (.own (.lst (xs.eraseIdx j.toNat))) = e' → Q (.v d) e') : wpMut opPop i [.v (.int j)] e Q := by
  refine ⟨xs, [.int j], (d, xs.eraseIdx j.toNat), h, rfl, ?_, k⟩
  have := opPop_k hd (by omega)
  rwa [show ((j.toNat : Nat) : Int) = j by omega] at this
theorem wp_atV {α : Type} {Q : α → Sl → Prop} {f : M AV} {k : D → M α} (h : wp f env (fun a e => ∃ d, a = .v d ∧ wp (k d) e Q X) X) : wp (atV f k) env Q X := by
  unfold atV
  refine wp_bind (wp_mono h (fun a e q => ?_) fun _ _ q => q)
  obtain ⟨d, rfl, q⟩ := q
  exact q
theorem isV {Q : D → Prop} {d : D} (h : Q d) : ∃ d', AV.v d = .v d' ∧ Q d' := ⟨d, rfl, h⟩
theorem wp_grd {α : Type} {Q : α → Sl → Prop} {x : Nat} {m : M α} (h : isOwn env[x]? = true) (k : wp m env Q X) : wp (grd x m) env Q X := by
  unfold wp grd; rw [if_pos h]; exact k
theorem wp_setLM {Q : Unit → Sl → Prop} {x : Nat} {d : D} {k : Int} {xs : List D} {j : Nat} (h : env[x]? = some (.own (.lst xs))) (hj : ixN xs.length k = some j) (q : ∀ e', env.set x (.own (.lst (xs.set j d))) = e' → Q () e') : wp (setLM x d (.int k)) env Q X := by
  unfold wp setLM; rw [h]; dsimp only; rw [hj]; exact q _ rfl
theorem wps_setL {x : Nat} {fe fi : M AV} (h : wp (atV fe fun d => grd x (atV fi fun kd => setLM x d kd)) env (fun _ e => N e) P.ex) : wps (sSetL x fe fi) env N P := wps_sE h
theorem wp_eDict0 {Q : EV → Sl → Prop} (h : Q (.o (.dic [] [])) env) : wp eDict0 env Q X := h
/-! what is walked -/
theorem wp_iOf {Q : List D → Sl → Prop} {f : M EV} (h : wp f env (fun ev e => wpo (frz ev) fun d => wpo (itemsOf d) fun ds => Q ds e) X) : wp (iOf f) env Q X := by
  unfold iOf
  refine wp_bind (wp_mono h (fun ev e q => ?_) fun _ _ q => q)
  cases z : frz ev with
  | none => rw [z] at q; exact q.elim
  | some d =>
    rw [z] at q
    dsimp only
    exact wp_lift q
theorem wp_iRange1 {Q : List D → Sl → Prop} {fs : M (List AV)} (h : wp fs env (fun as e => ∃ j, as = [.v (.int j)] ∧ (-1000000 ≤ j ∧ j ≤ 1000000) ∧ Q (rangeD 0 j) e) X) : wp (iRange1 fs) env Q X := by
  unfold iRange1
  refine wp_bind (wp_mono h (fun as e q => ?_) fun _ _ q => q)
  obtain ⟨j, rfl, h1, h2⟩ := q
  unfold wp; dsimp only
  rw [if_pos (show small62 j = true from decide_eq_true h1)]
  exact h2
theorem is1i {K : Int → Prop} {j : Int} (h : K j) : ∃ j', [AV.v (.int j)] = [.v (.int j')] ∧ K j' := ⟨j, rfl, h⟩
theorem wp_eSlice {Q : EV → Sl → Prop} {fa : M AV} {fl fh : M (Option Int)} (h : wp fa env (fun a e => wp fl e (fun lo e2 => wp fh e2 (fun hi e3 => wpo (deref e3 a) fun d => wpo (sliceD d lo hi) fun r => Q r e3) X) X) X) : wp (eSlice fa fl fh) env Q X := by
  unfold eSlice
  refine wp_bind (wp_mono h (fun a e q => wp_bind (wp_mono q (fun lo e q => wp_bind (wp_mono q (fun hi e3 q => ?_) fun _ _ q => q)) fun _ _ q => q)) fun _ _ q => q)
  unfold wp; try dsimp only
  cases z : deref e3 a with
  | none => rw [z] at q; exact q.elim
  | some d =>
    rw [z] at q
    dsimp only [Option.bind]
    exact wp_lift q
theorem wp_pNo {Q : Option Int → Sl → Prop} (h : Q none env) : wp pNo env Q X := h
theorem wp_pYes {Q : Option Int → Sl → Prop} {f : M AV} (h : wp f env (fun a e => ∃ i, a = .v (.int i) ∧ Q (some i) e) X) : wp (pYes f) env Q X := by
  unfold pYes
  refine wp_bind (wp_mono h (fun a e q => ?_) fun _ _ q => q)
  obtain ⟨i, rfl, q⟩ := q
  exact q
theorem isI {K : Int → Prop} {i : Int} (h : K i) : ∃ i', AV.v (.int i) = .v (.int i') ∧ K i' := ⟨i, rfl, h⟩
theorem wp_eIsi {Q : EV → Sl → Prop} {I : IsT} {fa : M AV} (h : wp fa env (fun a e => wpo (eIsi.objIs e a) fun d => wpo (isiB I d) fun b => Q (.v (.bl b)) e) X) : wp (eIsi I fa) env Q X := by
  unfold eIsi
  refine wp_bind (wp_mono h (fun a e q => ?_) fun _ _ q => q)
  unfold wp; try dsimp only
  cases z : eIsi.objIs e a with
  | none => rw [z] at q; exact q.elim
  | some d =>
    rw [z] at q
    dsimp only [Option.bind]
    exact wp_lift (wpo_map q)
theorem wp_eNeg {Q : EV → Sl → Prop} {fa : M AV} (h : wp fa env (fun a e => ∃ i, a = .v (.int i) ∧ Q (.v (.int (-i))) e) X) : wp (eNeg fa) env Q X := by
  unfold eNeg
  refine wp_bind (wp_mono h (fun a e q => ?_) fun _ _ q => q)
  obtain ⟨i, rfl, q⟩ := q
  exact q
/-! objects -/
theorem wp_eFld {Q : EV → Sl → Prop} {fi : Nat → Option Nat} {fa : M AV} (h : wp fa env (fun a e => wpo (objOf e a) fun p => wpo (fi p.1) fun j => wpo (p.2[j]?) fun d => Q (.v d) e) X) : wp (eFld fi fa) env Q X := by
  unfold eFld
  refine wp_bind (wp_mono h (fun a e q => ?_) fun _ _ q => q)
  unfold wp; try dsimp only
  cases z : objOf e a with
  | none => rw [z] at q; exact q.elim
  | some p =>
    rw [z] at q
    dsimp only [Option.bind] at q ⊢
    unfold wpo at q
    dsimp only at q
    cases z2 : fi p.1 with
    | none => rw [z2] at q; exact q.elim
    | some j =>
      rw [z2] at q
      dsimp only
      exact wp_lift (wpo_map q)
theorem wp_setFM {Q : Unit → Sl → Prop} {x : Nat} {fi : Nat → Option Nat} {d : D} {t j : Nat} {ds : List D} (h : env[x]? = some (.own (.ins t ds))) (hf : fi t = some j) (hj : j = ds.length) (q : ∀ e', env.set x (.own (.ins t (ds ++ [d]))) = e' → Q () e') : wp (setFM x fi d) env Q X := by
  unfold wp setFM; rw [h]; dsimp only; rw [hf]; dsimp only [Option.bind]; rw [if_pos hj]; exact q _ rfl
theorem wps_setF {x : Nat} {fi : Nat → Option Nat} {fe : M AV} (h : wp (atV fe fun d => setFM x fi d) env (fun _ e => N e) P.ex) : wps (sSetF x fi fe) env N P := wps_sE h
theorem wp_eMeth {Q : EV → Sl → Prop} {mt : Nat → Option (M EV)} {fa : M AV} {fs : M (List AV)} (h : wp fa env (fun a e => wpo (objOf e a) fun p => wpo (mt p.1) fun g => wp fs e (fun as e2 => wp (callM g (a :: as)) e2 Q X) X) X) : wp (eMeth mt fa fs) env Q X := by
  unfold eMeth
  refine wp_bind (wp_mono h (fun a e q => ?_) fun _ _ q => q)
  unfold wp; try dsimp only
  cases z : objOf e a with
  | none => rw [z] at q; exact q.elim
  | some p =>
    rw [z] at q
    dsimp only [Option.bind] at q ⊢
    unfold wpo at q
    dsimp only at q
    cases z2 : mt p.1 with
    | none => rw [z2] at q; exact q.elim
    | some g =>
      rw [z2] at q
      dsimp only at q ⊢
      exact wp_bind q
theorem wp_eProp {Q : EV → Sl → Prop} {mt : Nat → Option (M EV)} {fa : M AV} (h : wp fa env (fun a e => wpo (objOf e a) fun p => wpo (mt p.1) fun g => wp (callM g [a]) e Q NoX) X) : wp (eProp mt fa) env Q X := by
  unfold eProp
  refine wp_bind (wp_mono h (fun a e q => ?_) fun _ _ q => q)
  unfold wp; try dsimp only
  cases z : objOf e a with
  | none => rw [z] at q; exact q.elim
  | some p =>
    rw [z] at q
    dsimp only [Option.bind] at q ⊢
    unfold wpo at q
    dsimp only at q
    cases z2 : mt p.1 with
    | none => rw [z2] at q; exact q.elim
    | some g =>
      rw [z2] at q
      dsimp only at q ⊢
      unfold wp at q
      cases z3 : callM g [a] e with
      | none => rw [z3] at q; exact q.elim
      | some r => rw [z3] at q; cases r with
        | ok v e => exact q
        | exc x e => exact q.elim
theorem wp_eCMeth {Q : EV → Sl → Prop} {C : Addr} {g : M EV} {fs : M (List AV)} (h : wp fs env (fun as e => wp (callM g (.v (.raw (.ref C)) :: as)) e Q X) X) : wp (eCMeth C g fs) env Q X := wp_bind h
/-- an object made: its own slot stands behind the others -/
theorem wp_makeM {Q : EV → Sl → Prop} {t : Nat} {g : M EV} {as : List AV} {sl : Sl} (hn : (sidx (.s env.length :: as)).Nodup) (ha : argsOf (env ++ [.own (.ins t [])]) (.s env.length :: as) = some sl)
    (h : wp g sl (fun v o => v = .v .non ∧ ∃ ds o', o = .own (.ins t ds) :: o' ∧ ds.length = (FL t).length ∧ ∀ e', (back (env ++ [.own (.ins t [])]) (.s env.length :: as) o).take env.length = e' → ((back (env ++ [.own (.ins t [])]) (.s env.length :: as) o)[env.length]? = some (.own (.ins t ds)) ∧ Q (.v (.obj t ds)) e')) (fun x o => ∀ e', (back (env ++ [.own (.ins t [])]) (.s env.length :: as) o).take env.length = e' → X x e')) : wp (makeM t g as) env Q X := by
  unfold wp makeM
  unfold callM
  rw [if_pos hn, ha]
  dsimp only [Option.bind]
  unfold wp at h
  cases z : g sl with
  | none => rw [z] at h; exact h
  | some r => rw [z] at h; cases r with
    | exc x o => exact h _ rfl
    | ok v o =>
      obtain ⟨rfl, ds, o', rfl, h1, h2⟩ := h
      obtain ⟨h3, h4⟩ := h2 _ rfl
      dsimp only
      rw [h3]
      dsimp only
      rw [if_pos ⟨rfl, h1⟩]
      exact h4
theorem wp_eMakeS {Q : EV → Sl → Prop} {t : Nat} {g : M EV} {fa : M AV} (h : wp fa env (fun a e => wpo (deref e a) fun d => wpo (starD d) fun ds => wp (makeM t g (ds.map AV.v)) e Q X) X) : wp (eMakeS t g fa) env Q X := by
  unfold eMakeS
  refine wp_bind (wp_mono h (fun a e q => ?_) fun _ _ q => q)
  unfold wp; try dsimp only
  cases z : deref e a with
  | none => rw [z] at q; exact q.elim
  | some d =>
    rw [z] at q
    dsimp only [Option.bind] at q ⊢
    unfold wpo at q
    dsimp only at q
    cases z2 : starD d with
    | none => rw [z2] at q; exact q.elim
    | some ds => rw [z2] at q; exact q
theorem wp_eMakeSL {Q : EV → Sl → Prop} {i : Nat} {C : Addr} {t : Nat} {g : M EV} {fa : M AV} (h0 : env[i]? = some (.val (.raw (.ref C)))) (h : wp (eMakeS t g fa) env Q X) : wp (eMakeSL i C t g fa) env Q X := by
  unfold wp eMakeSL; rw [h0]; dsimp only; rw [if_pos rfl]; exact h
/-! comprehensions -/
def wpc (vs : List Nat) (t : D → Sl → Option Sl) (c : M Bool) (f : M EV) (ds : List D) (acc : List D) (env : Sl) (K : List D → Sl → Prop) : Prop := match compL vs t c f ds acc env with
  | some (xs, e) => K xs e
  | none => False
theorem wp_eComp {Q : EV → Sl → Prop} {vs : List Nat} {items : M (List D)} {t : D → Sl → Option Sl} {c : M Bool} {f : M EV} (h : wp items env (fun ds e => ∀ e', wipeE e vs = e' → wpc vs t c f ds [] e' fun xs e2 => Q (.o (.lst xs)) e2) X) : wp (eComp vs items t c f) env Q X := by
  unfold eComp
  refine wp_bind (wp_mono h (fun ds e q => ?_) fun _ _ q => q)
  have q := q _ rfl
  unfold wpc at q
  unfold wp; try dsimp only
  cases z : compL vs t c f ds [] (wipeE e vs) with
  | none => rw [z] at q; exact q
  | some p => rw [z] at q; exact q
section
variable {vs : List Nat} {t : D → Sl → Option Sl} {c : M Bool} {f : M EV} {K : List D → Sl → Prop} {acc : List D}
theorem wpc_cons {d : D} {ds : List D} (h : ∃ e1, t d env = some e1 ∧ wp c e1 (fun b e2 => (b = true → wp f e2 (fun v e3 => wpo (frz v) fun x => ∀ e', wipeE e3 vs = e' → wpc vs t c f ds (acc ++ [x]) e' K) NoX) ∧ (b = false → ∀ e', wipeE e2 vs = e' → wpc vs t c f ds acc e' K)) NoX) : wpc vs t c f (d :: ds) acc env K := by
  obtain ⟨e1, h1, h2⟩ := h
  unfold wpc compL
  rw [h1]
  unfold wp at h2
  dsimp only
  cases z : c e1 with
  | none => rw [z] at h2; exact h2
  | some r => rw [z] at h2; cases r with
    | exc x e => exact h2.elim
    | ok b e2 =>
      cases b with
      | false => exact h2.2 rfl _ rfl
      | true =>
        have h3 := h2.1 rfl
        dsimp only at h3 ⊢
        cases z2 : f e2 with
        | none => rw [z2] at h3; exact h3
        | some r => rw [z2] at h3; cases r with
          | exc x e => exact h3.elim
          | ok v e3 =>
            dsimp only at h3 ⊢
            cases z3 : frz v with
            | none => rw [z3] at h3; exact h3
            | some x => rw [z3] at h3; exact h3 _ rfl
/-- I of what is walked and what is made -/
theorem wpc_I {α : Type} {inj : α → D} (I : List α → List D → Sl → Prop) : ∀ (l pre : List α) (acc : List D) (env : Sl), I pre acc env → (∀ mid a post, l = mid ++ a :: post → ∀ acc e, I (pre ++ mid) acc e → ∃ e1, t (inj a) e = some e1 ∧ wp c e1 (fun b e2 => (b = true → wp f e2 (fun v e3 => wpo (frz v) fun x => ∀ e', wipeE e3 vs = e' → I (pre ++ mid ++ [a]) (acc ++ [x]) e') NoX) ∧ (b = false → ∀ e', wipeE e2 vs = e' → I (pre ++ mid ++ [a]) acc e')) NoX) → (∀ xs e, I (pre ++ l) xs e → K xs e) → wpc vs t c f (l.map inj) acc env K
  | [], pre, acc, env, h, _, hK => hK _ _ (by simpa using h)
  | a :: l, pre, acc, env, h, st, hK => by
    obtain ⟨e1, h1, h2⟩ := st [] a l rfl acc env (by simpa using h)
    have go : ∀ xs e, I (pre ++ [a]) xs e → wpc vs t c f (l.map inj) xs e K := fun xs e he => wpc_I I l (pre ++ [a]) xs e he (fun mid b post hm acc e he => by
      have := st (a :: mid) b post (by rw [hm]; rfl) acc e (by simpa using he)
      simpa using this) fun xs e he => hK xs e (by simpa using he)
    refine wpc_cons ⟨e1, h1, wp_mono h2 (fun b e2 q => ⟨fun hb => wp_mono (q.1 hb) (fun v e3 q => ?_) fun _ _ q => q, fun hb e' he' => go _ _ (by simpa using q.2 hb e' he')⟩) fun _ _ q => q⟩
    cases z : frz v with
    | none => rw [z] at q; exact q
    | some x => rw [z] at q; exact fun e' he' => go _ _ (by simpa using q e' he')
/-- without effects, all items -/
theorem wpc_map {α : Type} {inj : α → D} {l : List α} (g : α → D) (st : ∀ a, a ∈ l → ∃ e1, t (inj a) env = some e1 ∧ wp f e1 (fun v e3 => frz v = some (g a) ∧ wipeE e3 vs = env) NoX) (k : K (l.map g) env) : wpc vs t bYes f (l.map inj) [] env K := by
  refine wpc_I (fun pre xs e => xs = pre.map g ∧ e = env) l [] [] env ⟨rfl, rfl⟩ (fun mid a post hm acc e ⟨h1, h2⟩ => ?_) fun xs e ⟨h1, h2⟩ => by subst h1; subst h2; simpa using k
  subst h1; subst h2
  obtain ⟨e1, h3, h4⟩ := st a (by rw [hm]; simp)
  refine ⟨e1, h3, wp_ret ⟨fun _ => wp_mono h4 (fun v e3 q => ?_) fun _ _ q => q, fun h => by cases h⟩⟩
  rw [q.1]
  exact fun e' he' => ⟨by simp, by rw [← he', q.2]⟩
/-- without effects, those that pass -/
theorem wpc_filter {α : Type} {inj : α → D} {l : List α} (p : α → Bool) (g : α → D) (st : ∀ a, a ∈ l → ∃ e1, t (inj a) env = some e1 ∧ wp c e1 (fun b e2 => b = p a ∧ (b = true → wp f e2 (fun v e3 => frz v = some (g a) ∧ wipeE e3 vs = env) NoX) ∧ (b = false → wipeE e2 vs = env)) NoX) (k : K ((l.filter p).map g) env) : wpc vs t c f (l.map inj) [] env K := by
  refine wpc_I (fun pre xs e => xs = (pre.filter p).map g ∧ e = env) l [] [] env ⟨rfl, rfl⟩ (fun mid a post hm acc e ⟨h1, h2⟩ => ?_) fun xs e ⟨h1, h2⟩ => by subst h1; subst h2; simpa using k
  subst h1; subst h2
  obtain ⟨e1, h3, h4⟩ := st a (by rw [hm]; simp)
  refine ⟨e1, h3, wp_mono h4 (fun b e2 ⟨hb, q1, q2⟩ => ⟨fun h => wp_mono (q1 h) (fun v e3 q => ?_) fun _ _ q => q, fun h e' he' => ?_⟩) fun _ _ q => q⟩
  · rw [q.1]
    refine fun e' he' => ⟨?_, by rw [← he', q.2]⟩
    have : p a = true := by rw [← hb]; exact h
    simp [List.filter_append, this]
  · refine ⟨?_, by rw [← he', q2 h]⟩
    have : p a = false := by rw [← hb]; exact h
    simp [List.filter_append, this]
/-- with effects, all items: R of each item and what it gives -/
theorem wpc_rel {α : Type} {inj : α → D} {l : List α} (I : Sl → Prop) (R : α → D → Prop) (h0 : I env) (st : ∀ a, a ∈ l → ∀ e, I e → ∃ e1, t (inj a) e = some e1 ∧ wp f e1 (fun v e3 => ∃ x, frz v = some x ∧ R a x ∧ I (wipeE e3 vs)) NoX) (k : ∀ xs e, All2 R l xs → I e → K xs e) : wpc vs t bYes f (l.map inj) [] env K := by
  refine wpc_I (fun pre xs e => All2 R pre xs ∧ I e) l [] [] env ⟨.nil, h0⟩ (fun mid a post hm acc e ⟨h1, h2⟩ => ?_) fun xs e ⟨h1, h2⟩ => k xs e (by simpa using h1) h2
  obtain ⟨e1, h3, h4⟩ := st a (by rw [hm]; simp) e h2
  refine ⟨e1, h3, wp_ret ⟨fun _ => wp_mono h4 (fun v e3 ⟨x, q1, q2, q3⟩ => ?_) fun _ _ q => q, fun h => by cases h⟩⟩
  rw [q1]
  refine fun e' he' => ⟨?_, he' ▸ q3⟩
  have app : ∀ {l1 : List α} {x1 : List D}, All2 R l1 x1 → All2 R (l1 ++ [a]) (x1 ++ [x]) := by
    intro l1 x1 h
    induction h with
    | nil => exact .cons q2 .nil
    | cons h t ih => exact .cons h ih
  simpa using app h1
/-- with effects, some items -/
theorem wpc_sub {α : Type} {inj : α → D} {l : List α} (I : Sl → Prop) (g : α → D) (h0 : I env) (st : ∀ a, a ∈ l → ∀ e, I e → ∃ e1, t (inj a) e = some e1 ∧ wp c e1 (fun b e2 => (b = true → wp f e2 (fun v e3 => frz v = some (g a) ∧ I (wipeE e3 vs)) NoX) ∧ (b = false → I (wipeE e2 vs))) NoX) (k : ∀ (l' : List α) e, l'.Sublist l → I e → K (l'.map g) e) : wpc vs t c f (l.map inj) [] env K := by
  refine wpc_I (fun pre xs e => (∃ l' : List α, l'.Sublist pre ∧ xs = l'.map g) ∧ I e) l [] [] env ⟨⟨[], by simp, rfl⟩, h0⟩ (fun mid a post hm acc e ⟨⟨l', h1, h5⟩, h2⟩ => ?_) fun xs e ⟨⟨l', h1, h5⟩, h2⟩ => by subst h5; exact k l' e (by simpa using h1) h2
  subst h5
  obtain ⟨e1, h3, h4⟩ := st a (by rw [hm]; simp) e h2
  refine ⟨e1, h3, wp_mono h4 (fun b e2 ⟨q1, q2⟩ => ⟨fun h => wp_mono (q1 h) (fun v e3 q => ?_) fun _ _ q => q, fun h e' he' => ⟨⟨l', ?_, rfl⟩, he' ▸ q2 h⟩⟩) fun _ _ q => q⟩
  · rw [q.1]
    refine fun e' he' => ⟨⟨l' ++ [a], ?_, by simp⟩, he' ▸ q.2⟩
    simpa using h1.append (List.Sublist.refl [a])
  · simpa using h1.trans (List.sublist_append_left _ _)
end
end
end Dt
end
section
set_option maxRecDepth 100000
set_option maxHeartbeats 4000000
/-! WC: operators and built-in functions on data of known kinds. -/
namespace Dt
open PySem L2
class Op2 (op : D → D → Option EV) (x y : D) (c : outParam Prop) (r : outParam EV) : Prop where
  of : c → op x y = some r
class Op1 (op : List D → Option EV) (ds : List D) (c : outParam Prop) (r : outParam EV) : Prop where
  of : c → op ds = some r
theorem wpo_op2 {op : D → D → Option EV} {x y : D} {c : Prop} {r : EV} {K : EV → Prop} [o : Op2 op x y c r] (h : c) (k : K r) : wpo (op x y) K := wpo_of (o.of h) k
theorem wpo_op1 {op : List D → Option EV} {ds : List D} {c : Prop} {r : EV} {K : EV → Prop} [o : Op1 op ds c r] (h : c) (k : K r) : wpo (op ds) K := wpo_of (o.of h) k
section
variable {a b : Int} {s u : List Nat} {xs ys : List D}
instance : Op2 addD (.int a) (.int b) True (.v (.int (a + b))) := ⟨fun _ => rfl⟩
instance : Op2 subD (.int a) (.int b) True (.v (.int (a - b))) := ⟨fun _ => rfl⟩
theorem opI2_of {c : Int → Int → Bool} {g : Int → Int → D} (h : c a b = true) : opI2 c g (.int a) (.int b) = some (.v (g a b)) := if_pos h
instance : Op2 mulX (.int a) (.int b) ((-18446744073709551616 < a ∧ a < 18446744073709551616) ∨ (-18446744073709551616 < b ∧ b < 18446744073709551616)) (.v (.int (a * b))) := ⟨fun h => by
  show orD (orD mulI _) _ _ _ = _
  unfold orD mulI
  rw [opI2_of (show okMul a b = true from decide_eq_true h)]⟩
instance : Op2 mulX (.str s) (.int b) ((s.length ≤ 100 ∧ 1 ≤ s.length) ∧ -1000 ≤ b ∧ b ≤ 1000) (.v (.str (repS s b))) := ⟨fun h => by
  show orD (orD mulI (orD mulS _)) _ _ _ = _
  have e : mulS (.str s) (.int b) = some (.v (.str (repS s b))) := if_pos h
  unfold orD
  rw [show mulI (.str s) (.int b) = none from rfl]
  dsimp only
  rw [e]⟩
instance : Op2 mulX (.lst xs) (.int b) (xs.length ≤ 1000 ∧ -1000 ≤ b ∧ b ≤ 1000) (.o (.lst (List.replicate b.toNat xs).flatten)) := ⟨fun h => by
  show orD (orD mulI (orD mulS (orD mulL mulT))) _ _ _ = _
  have e : mulL (.lst xs) (.int b) = some (.o (.lst (List.replicate b.toNat xs).flatten)) := if_pos h
  unfold orD
  rw [show mulI (.lst xs) (.int b) = none from rfl, show mulS (.lst xs) (.int b) = none from rfl]
  dsimp only
  rw [e]⟩
/-- (x, ..) * n -/
instance : Op2 mulX (.tup xs) (.int b) ((1 ≤ xs.length ∧ xs.length ≤ 1000) ∧ 1 ≤ b ∧ b ≤ 1000) (.v (.tup (List.replicate b.toNat xs).flatten)) := ⟨fun h => by
  show orD (orD mulI (orD mulS (orD mulL mulT))) mulT1 _ _ = _
  unfold orD
  rw [show mulI (.tup xs) (.int b) = none from rfl, show mulS (.tup xs) (.int b) = none from rfl, show mulL (.tup xs) (.int b) = none from rfl]
  dsimp only
  by_cases h1 : b = 1
  · subst h1
    rw [show mulT (.tup xs) (.int 1) = none from if_neg (by omega)]
    dsimp only
    rw [show mulT1 (.tup xs) (.int 1) = some (.v (.tup xs)) by simp [mulT1]]
    simp
  · rw [show mulT (.tup xs) (.int b) = some (.v (.tup (List.replicate b.toNat xs).flatten)) from if_pos ⟨h.1, by omega, h.2.2⟩]⟩
instance : Op2 divD (.int a) (.int b) (0 < b ∧ b < 1073741824) (.v (.int (a / b))) := ⟨fun h => opI2_of (decide_eq_true h)⟩
instance : Op2 modD (.int a) (.int b) (0 < b) (.v (.int (a % b))) := ⟨fun h => opI2_of (decide_eq_true h)⟩
instance : Op2 powD (.int a) (.int b) (-18446744073709551616 < a ∧ a < 18446744073709551616 ∧ 0 ≤ b ∧ b ≤ 1000000) (.v (.int (a ^ b.toNat))) := ⟨fun h => opI2_of (decide_eq_true (by omega))⟩
instance : Op2 ltD (.int a) (.int b) True (.v (.bl (decide (a < b)))) := ⟨fun _ => rfl⟩
instance : Op2 leD (.int a) (.int b) True (.v (.bl (decide (a ≤ b)))) := ⟨fun _ => rfl⟩
instance : Op2 leD (.str s) (.str u) True (.v (.bl (!decide (u < s)))) := ⟨fun _ => rfl⟩
instance : Op2 geD (.str s) (.str u) True (.v (.bl (!decide (s < u)))) := ⟨fun _ => rfl⟩
instance : Op2 gtI (.int a) (.int b) True (.v (.bl (decide (b < a)))) := ⟨fun _ => rfl⟩
instance : Op2 geD (.int a) (.int b) True (.v (.bl (decide (b ≤ a)))) := ⟨fun _ => rfl⟩
instance : Op2 addD (.str s) (.str u) (s.length + u.length ≤ 1000000) (.v (.str (s ++ u))) := ⟨fun h => by
  show (match addS (.str s) (.str u) with | some r => some r | none => _) = _
  rw [show addS (.str s) (.str u) = some (.v (.str (s ++ u))) from if_pos h]⟩
instance : Op2 addD (.lst xs) (.lst ys) (xs.length + ys.length ≤ 1000000) (.o (.lst (xs ++ ys))) := ⟨fun h => by
  show (match addL (.lst xs) (.lst ys) with | some r => some r | none => _) = _
  rw [show addL (.lst xs) (.lst ys) = some (.o (.lst (xs ++ ys))) from if_pos h]⟩
instance : Op2 addD (.tup xs) (.tup ys) (xs.length + ys.length ≤ 1000000) (.v (.tup (xs ++ ys))) := ⟨fun h => by
  show addT (.tup xs) (.tup ys) = _
  exact if_pos h⟩
instance : Op2 ltD (.str s) (.str u) True (.v (.bl (decide (s < u)))) := ⟨fun _ => rfl⟩
theorem eqD_sc {x y : D} (h : scalD x y = true) : eqD x y = some (vB (scEq x y)) := by
  show (match eqS x y with | some r => some r | none => _) = _
  rw [show eqS x y = some (vB (scEq x y)) from if_pos h]
theorem neD_sc {x y : D} (h : scalD x y = true) : neD x y = some (vB (!scEq x y)) := by
  show (match neS x y with | some r => some r | none => _) = _
  rw [show neS x y = some (vB (!scEq x y)) from if_pos h]
instance : Op2 eqD (.int a) (.int b) True (.v (.bl (a == b))) := ⟨fun _ => eqD_sc rfl⟩
instance : Op2 eqD (.str s) (.str u) True (.v (.bl (s == u))) := ⟨fun _ => eqD_sc rfl⟩
instance {p q : Bool} : Op2 eqD (.bl p) (.bl q) True (.v (.bl (p == q))) := ⟨fun _ => eqD_sc rfl⟩
instance : Op2 eqD (.int a) (.str u) True (.v (.bl false)) := ⟨fun _ => eqD_sc rfl⟩
instance : Op2 eqD (.str s) (.int a) True (.v (.bl false)) := ⟨fun _ => eqD_sc rfl⟩
instance : Op2 eqD .non .non True (.v (.bl true)) := ⟨fun _ => eqD_sc rfl⟩
instance : Op2 eqD .non (.str u) True (.v (.bl false)) := ⟨fun _ => eqD_sc rfl⟩
instance : Op2 eqD (.str u) .non True (.v (.bl false)) := ⟨fun _ => eqD_sc rfl⟩
instance : Op2 neD (.int a) (.int b) True (.v (.bl (!(a == b)))) := ⟨fun _ => neD_sc rfl⟩
instance : Op2 neD (.str s) (.str u) True (.v (.bl (!(s == u)))) := ⟨fun _ => neD_sc rfl⟩
instance {p q : Bool} : Op2 neD (.bl p) (.bl q) True (.v (.bl (!(p == q)))) := ⟨fun _ => neD_sc rfl⟩
instance : Op2 (isD false) .non .non True (.v (.bl true)) := ⟨fun _ => rfl⟩
instance : Op2 (isD false) (.int a) .non True (.v (.bl false)) := ⟨fun _ => rfl⟩
instance : Op2 (isD false) (.str s) .non True (.v (.bl false)) := ⟨fun _ => rfl⟩
instance : Op2 (isD false) (.tup xs) .non True (.v (.bl false)) := ⟨fun _ => rfl⟩
instance : Op2 (isD false) (.lst xs) .non True (.v (.bl false)) := ⟨fun _ => rfl⟩
instance {p : Bool} : Op2 (isD false) (.bl p) .non True (.v (.bl false)) := ⟨fun _ => rfl⟩
instance {ks : List Key} : Op2 (isD false) (.dic ks xs) .non True (.v (.bl false)) := ⟨fun _ => rfl⟩
instance : Op2 (isD true) .non .non True (.v (.bl false)) := ⟨fun _ => rfl⟩
instance : Op2 (isD true) (.int a) .non True (.v (.bl true)) := ⟨fun _ => rfl⟩
instance : Op2 (isD true) (.str s) .non True (.v (.bl true)) := ⟨fun _ => rfl⟩
instance : Op2 (isD true) (.tup xs) .non True (.v (.bl true)) := ⟨fun _ => rfl⟩
instance : Op2 (isD true) (.lst xs) .non True (.v (.bl true)) := ⟨fun _ => rfl⟩
instance {p q : Bool} : Op2 (isB false) (.bl p) (.bl q) True (.v (.bl (p == q))) := ⟨fun _ => by simp [isB, vB]⟩
/-! items -/
theorem ixN_nat {n k : Nat} (h : k < n) : ixN n (k : Int) = some k := by
  unfold ixN; rw [if_pos (by omega), if_pos (by omega)]; simp
theorem ixN_of {n : Nat} {i : Int} (h0 : 0 ≤ i) (h : i < n) : ixN n i = some i.toNat := by
  unfold ixN; rw [if_pos h0, if_pos h]
/-- an item of a list or a tuple -/
class IxD (x : D) (xs : outParam (List D)) : Prop where
  of : seqD x = some xs ∧ ∀ s, x ≠ .str s
instance : IxD (.lst xs) xs := ⟨rfl, fun _ h => by cases h⟩
instance : IxD (.tup xs) xs := ⟨rfl, fun _ h => by cases h⟩
instance {ns : List Int} : IxD (.scr ns) (ns.map D.int) := ⟨rfl, fun _ h => by cases h⟩
theorem ixD_of {x d : D} {i : Int} {k : Nat} [o : IxD x xs] (hi : ixN xs.length i = some k) (hd : xs[k]? = some d) : ixD x (.int i) = some (.v d) := by
  obtain ⟨h1, h2⟩ := o.of
  have h3 : atI xs i = some d := by unfold atI; rw [hi]; exact hd
  cases x with
  | str s => exact absurd rfl (h2 s)
  | lst zs => cases h1; simp only [ixD, seqD, Option.bind, h3, Option.map]
  | tup zs => cases h1; simp only [ixD, seqD, Option.bind, h3, Option.map]
  | scr zs => cases h1; simp only [ixD, seqD, Option.bind, h3, Option.map]
  | _ => cases h1
theorem ixS_of {i : Int} {k c : Nat} (hl : s.length ≤ 1000000) (hi : ixN s.length i = some k) (hd : s[k]? = some c) : ixD (.str s) (.int i) = some (.v (.str [c])) := by
  have h3 : atI s i = some c := by unfold atI; rw [hi]; exact hd
  simp only [ixD]
  rw [if_pos (show s.length ≤ big from hl), h3]; rfl
theorem wpo_ix {x d : D} {i : Int} {k : Nat} {K : EV → Prop} [o : IxD x xs] (hi : ixN xs.length i = some k) (hd : xs[k]? = some d) (q : K (.v d)) : wpo (ixD x (.int i)) K := wpo_of (ixD_of hi hd) q
theorem wpo_ixS {i : Int} {k c : Nat} {K : EV → Prop} (hl : s.length ≤ 1000000) (hi : ixN s.length i = some k) (hd : s[k]? = some c) (q : K (.v (.str [c]))) : wpo (ixD (.str s) (.int i)) K := wpo_of (ixS_of hl hi hd) q
/-! built-in functions -/
instance : Op1 lenD [.str s] (s.length ≤ 1000000) (.v (.int s.length)) := ⟨fun h => if_pos h⟩
instance : Op1 lenD [.lst xs] True (.v (.int xs.length)) := ⟨fun _ => rfl⟩
instance : Op1 lenD [.tup xs] True (.v (.int xs.length)) := ⟨fun _ => rfl⟩
instance {ns : List Int} : Op1 lenD [.scr ns] True (.v (.int ns.length)) := ⟨fun _ => by show some (vI ((ns.map D.int).length : Int)) = _; rw [List.length_map]; rfl⟩
instance : Op1 listD [.lst xs] True (.o (.lst xs)) := ⟨fun _ => rfl⟩
instance : Op1 listD [.tup xs] True (.o (.lst xs)) := ⟨fun _ => rfl⟩
instance : Op1 tupD [.lst xs] True (.v (.tup xs)) := ⟨fun _ => rfl⟩
instance : Op1 tupD [.tup xs] True (.v (.tup xs)) := ⟨fun _ => rfl⟩
instance : Op1 maxI [.int a, .int b] True (.v (.int (if b > a then b else a))) := ⟨fun _ => rfl⟩
instance : Op1 minI [.int a, .int b] True (.v (.int (if b < a then b else a))) := ⟨fun _ => rfl⟩
instance : Op1 absD [.int a] True (.v (.int (if a < 0 then -a else a))) := ⟨fun _ => rfl⟩
instance : Op1 intD [.int a] True (.v (.int a)) := ⟨fun _ => rfl⟩
instance {p : Bool} : Op1 intD [.bl p] True (.v (.int (if p then 1 else 0))) := ⟨fun _ => rfl⟩
theorem blsOf_m (f : α → Bool) (l : List α) : blsOf (l.map fun a => D.bl (f a)) = some (l.map f) := by
  induction l with
  | nil => rfl
  | cons a l ih => simp [blsOf, ih]
theorem intsOf_m (f : α → Int) (l : List α) : intsOf (l.map fun a => D.int (f a)) = some (l.map f) := by
  induction l with
  | nil => rfl
  | cons a l ih => simp [intsOf, ih]
theorem strsOf_m (f : α → List Nat) (l : List α) : strsOf (l.map fun a => D.str (f a)) = some (l.map f) := by
  induction l with
  | nil => rfl
  | cons a l ih => simp [strsOf, ih]
instance {f : α → Bool} {l : List α} : Op1 allD [.lst (l.map fun a => D.bl (f a))] True (.v (.bl (l.all f))) := ⟨fun _ => by simp [allD, blsOf_m, List.all_map, vB]⟩
instance {f : α → Bool} {l : List α} : Op1 anyD [.lst (l.map fun a => D.bl (f a))] True (.v (.bl (l.any f))) := ⟨fun _ => by simp [anyD, blsOf_m, List.any_map, vB]⟩
instance {f : α → Int} {l : List α} : Op1 sumD [.lst (l.map fun a => D.int (f a))] True (.v (.int ((l.map f).sum))) := ⟨fun _ => by simp [sumD, intsOf_m, vI]⟩
/-! texts -/
instance : Op1 countD [.str s, .str u] True (.v (.int (Txt.count (mkS s) (mkS u)))) := ⟨fun _ => rfl⟩
instance {f : α → List Nat} {l : List α} : Op1 lcountD [.lst (l.map fun a => D.str (f a)), .str u] True (.v (.int ((l.map f).count u : Nat))) := ⟨fun _ => by simp [lcountD, strsOf_m, vI]⟩
instance {f : α → List Nat} {l : List α} : Op1 joinD [.str s, .lst (l.map fun a => D.str (f a))] (((l.map f).map (·.length)).sum + l.length * s.length ≤ 1000000) (.v (.str (joinS s (l.map f)))) := ⟨fun h => by
  unfold joinD
  dsimp only
  rw [strsOf_m]
  dsimp only [Option.bind]
  rw [if_pos]
  simpa [big] using h⟩
instance {f : α → List Nat} {l : List α} : Op1 joinD [.str s, .tup (l.map fun a => D.str (f a))] (((l.map f).map (·.length)).sum + l.length * s.length ≤ 1000000) (.v (.str (joinS s (l.map f)))) := ⟨fun h => by
  unfold joinD
  dsimp only
  rw [strsOf_m]
  dsimp only [Option.bind]
  rw [if_pos]
  simpa [big] using h⟩
theorem strsOf_m0 (l : List (List Nat)) : strsOf (l.map D.str) = some l := by have := strsOf_m (fun a : List Nat => a) l; rwa [List.map_id'] at this
instance {l : List (List Nat)} : Op1 joinD [.str s, .lst (l.map D.str)] ((l.map (·.length)).sum + l.length * s.length ≤ 1000000) (.v (.str (joinS s l))) := ⟨fun h => by
  unfold joinD
  dsimp only
  rw [strsOf_m0]
  exact if_pos h⟩
instance {l : List (List Nat)} : Op1 joinD [.str s, .tup (l.map D.str)] ((l.map (·.length)).sum + l.length * s.length ≤ 1000000) (.v (.str (joinS s l))) := ⟨fun h => by
  unfold joinD
  dsimp only
  rw [strsOf_m0]
  exact if_pos h⟩
instance {l : List (List Nat)} : Op1 lcountD [.lst (l.map D.str), .str u] True (.v (.int (l.count u : Nat))) := ⟨fun _ => by simp [lcountD, strsOf_m0, vI]⟩
instance {l : List Bool} : Op1 allD [.lst (l.map D.bl)] True (.v (.bl (l.all id))) := ⟨fun _ => by have := blsOf_m (fun a : Bool => a) l; rw [List.map_id'] at this; simp only [allD, Option.map]; rw [this]; rfl⟩
instance {l : List Int} : Op1 sumD [.lst (l.map D.int)] True (.v (.int l.sum)) := ⟨fun _ => by have := intsOf_m (fun a : Int => a) l; rw [List.map_id'] at this; simp only [sumD, Option.map]; rw [this]; rfl⟩
instance : Op1 splitD [.str s, .str u] (u ≠ [] ∧ s.length ≤ 1000000) (.o (.lst ((splitS s u).map D.str))) := ⟨fun h => if_pos h⟩
end
/-! slices -/
theorem cutD_pre {α : Type} (xs : List α) (k : Nat) : cutD xs none (some (k : Int)) = xs.take k := by
  simp only [cutD, HT.sIx_none, HT.sIx_nat, List.drop_zero, Nat.sub_zero]
  rw [Nat.min_comm]
  by_cases h : k ≤ xs.length
  · rw [Nat.min_eq_right h]
  · rw [Nat.min_eq_left (by omega), List.take_of_length_le (by omega), List.take_of_length_le (by omega)]
theorem cutD_suf {α : Type} (xs : List α) (k : Nat) : cutD xs (some (k : Int)) none = xs.drop k := by
  simp only [cutD, HT.sIx_none, HT.sIx_nat]
  by_cases h : k ≤ xs.length
  · rw [Nat.min_eq_left h, List.take_of_length_le (by simp)]
  · rw [Nat.min_eq_right (by omega), List.drop_of_length_le (by omega), List.drop_of_length_le (by omega)]; simp
section
variable {xs : List D} {s : List Nat} {K : EV → Prop}
theorem wpo_slS {lo hi : Option Int} (hl : s.length ≤ 1000000) (k : K (.v (.str (cutD s lo hi)))) : wpo (sliceD (.str s) lo hi) K := wpo_of (if_pos hl) k
theorem wpo_slL {lo hi : Option Int} (k : K (.o (.lst (cutD xs lo hi)))) : wpo (sliceD (.lst xs) lo hi) K := k
end
/-! repr, nested data compared -/
theorem wpo_repr {d : D} {w k : Nat} {K : EV → Prop} (h : Shw d w k) (hw : w ≤ 40000 ∧ k ≤ 60) (q : K (.v (.str (shwT d)))) : wpo (reprX [d]) K := wpo_of (repr_shw h hw.1 hw.2) q
def TxtOk (n : Nat) (s : List Nat) : Prop := s.length ≤ n ∧ ∀ c ∈ s, c < 1114112
def StrsOk (n : Nat) (l : List (List Nat)) : Prop := ∀ s ∈ l, TxtOk n s
theorem StrsOk.shwL {n : Nat} {l : List (List Nat)} (h : StrsOk n l) : ShwL (l.map D.str) (l.length * (n + 1)) 0 := shwL_map fun s hs => (shw_str (h s hs).2).mono (h s hs).1 (Nat.le_refl _)
theorem StrsOk.shwT {n : Nat} {l : List (List Nat)} (h : StrsOk n l) : Shw (.tup (l.map D.str)) (l.length * (n + 1)) 1 := shw_tup h.shwL
theorem rangeD_nat (n : Nat) : rangeD 0 (n : Int) = (List.range n).map fun i : Nat => D.int (i : Int) := by simp [rangeD]
/-! data met -/
section
variable {α β : Type} {K : α → Prop}
theorem cond_t {A B : Prop} (h : A) : (true = true → A) ∧ (true = false → B) := ⟨fun _ => h, fun h => (by cases h)⟩
theorem cond_f {A B : Prop} (h : B) : (false = true → A) ∧ (false = false → B) := ⟨fun h => (by cases h), fun _ => h⟩
theorem cond_d {p : Prop} [Decidable p] {A B : Prop} (h1 : p → A) (h2 : ¬ p → B) : (decide p = true → A) ∧ (decide p = false → B) := ⟨fun h => h1 (of_decide_eq_true h), fun h => h2 (of_decide_eq_false h)⟩
theorem wpo_frz_v {d : D} {K : D → Prop} (h : K d) : wpo (frz (.v d)) K := h
theorem wpo_frz_l {ds : List D} {K : D → Prop} (h : K (.lst ds)) : wpo (frz (.o (.lst ds))) K := h
theorem wpo_frz_d {ks : List Key} {ds : List D} {K : D → Prop} (h : K (.dic ks ds)) : wpo (frz (.o (.dic ks ds))) K := h
theorem wpo_it_l {ds : List D} {K : List D → Prop} (k : K ds) : wpo (itemsOf (.lst ds)) K := k
theorem wpo_it_t {ds : List D} {K : List D → Prop} (k : K ds) : wpo (itemsOf (.tup ds)) K := k
theorem wpo_it_s {s : List Nat} {K : List D → Prop} (h : s.length ≤ 1000000) (k : K (s.map fun c => .str [c])) : wpo (itemsOf (.str s)) K := wpo_of (if_pos h) k
theorem wpo_one {γ : Type} {t0 t : Nat} {g : γ} {K : γ → Prop} (h : t = t0) (k : K g) : wpo (one t0 g t) K := wpo_of (if_pos h) k
end
end Dt
end
section
set_option maxRecDepth 100000
set_option maxHeartbeats 4000000
/-! WV: the same rules, what is to be found out behind ∃. -/
namespace Dt
open PySem L2
theorem cond_eq {a b : Int} {A B : Prop} (h1 : a = b → A) (h2 : a ≠ b → B) : ((a == b) = true → A) ∧ ((a == b) = false → B) := ⟨fun h => h1 (by simpa using h), fun h => h2 (by simpa using h)⟩
theorem cond_not {b : Bool} {A B : Prop} (h : (b = true → B) ∧ (b = false → A)) : ((!b) = true → A) ∧ ((!b) = false → B) := ⟨fun q => h.2 (by simpa using q), fun q => h.1 (by simpa using q)⟩
theorem cond_b {b : Bool} {A B : Prop} (h1 : b = true → A) (h2 : b = false → B) : (b = true → A) ∧ (b = false → B) := ⟨h1, h2⟩
theorem le_and {a b : Nat} {A : Prop} (h : a ≤ b) (k : A) : a ≤ b ∧ A := ⟨h, k⟩
theorem rg1_and {j : Int} {A : Prop} (h : -1000000 ≤ j ∧ j ≤ 1000000) (k : A) : (-1000000 ≤ j ∧ j ≤ 1000000) ∧ A := ⟨h, k⟩
theorem eq_and {α : Type} {a : α} {A : Prop} (k : A) : a = a ∧ A := ⟨rfl, k⟩
theorem cond_yes {b : Bool} {A B : Prop} (h : b = true) (k : A) : (b = true → A) ∧ (b = false → B) := ⟨fun _ => k, fun q => (by rw [h] at q; cases q)⟩
theorem cond_no {b : Bool} {A B : Prop} (h : b = false) (k : B) : (b = true → A) ∧ (b = false → B) := ⟨fun q => (by rw [h] at q; cases q), fun _ => k⟩
/-- an end of slots to be written out -/
def FinG (a : Sl) (K : Sl → Prop) : Prop := K a
theorem fin_g {a : Sl} {K : Sl → Prop} (h : FinG a K) : ∀ e', a = e' → K e' := fun e' h' => h' ▸ h
theorem fin_mk {a b : Sl} {K : Sl → Prop} (h : a = b) (k : K b) : FinG a K := by subst h; exact k
def IxG (n : Nat) (i : Int) (K : Nat → Prop) : Prop := ∃ j, ixN n i = some j ∧ K j
theorem ixg_of {n : Nat} {i : Int} {K : Nat → Prop} (h : 0 ≤ i ∧ i < n) (k : K i.toNat) : IxG n i K := ⟨_, ixN_of h.1 h.2, k⟩
theorem ixg_nat {n j : Nat} {K : Nat → Prop} (h : j < n) (k : K j) : IxG n (j : Int) K := ⟨_, ixN_nat h, k⟩
theorem ixg_neg {n : Nat} {K : Nat → Prop} (h : 0 < n) (k : K (n - 1)) : IxG n (-1) K := ⟨n - 1, by unfold ixN; rw [if_neg (by omega), if_pos (by omega)]; congr 1; omega, k⟩
theorem ixg_mk {n : Nat} {i : Int} {K : Nat → Prop} (h : ∃ j, ixN n i = some j ∧ K j) : IxG n i K := h
def GetG {α : Type} (xs : List α) (k : Nat) (K : α → Prop) : Prop := ∃ d, xs[k]? = some d ∧ K d
theorem get_mk {α : Type} {xs : List α} {k : Nat} {K : α → Prop} (h : ∃ d, xs[k]? = some d ∧ K d) : GetG xs k K := h
theorem get_map {α β : Type} {l : List α} {inj : α → β} {k : Nat} {K : β → Prop} (h : k < l.length) (q : K (inj l[k])) : GetG (l.map inj) k K := ⟨_, by rw [List.getElem?_map, List.getElem?_eq_getElem h]; rfl, q⟩
theorem get_mapI {l : List Int} {k : Nat} {K : D → Prop} (h : k < l.length) (q : K (.int (l.getD k 0))) : GetG (l.map D.int) k K := ⟨_, by rw [List.getElem?_map, List.getElem?_eq_getElem h]; rfl, by rw [List.getD_eq_getElem?_getD, List.getElem?_eq_getElem h] at q; exact q⟩
theorem get_mapS {l : List (List Nat)} {k : Nat} {K : D → Prop} (h : k < l.length) (q : K (.str (l.getD k []))) : GetG (l.map D.str) k K := ⟨_, by rw [List.getElem?_map, List.getElem?_eq_getElem h]; rfl, by rw [List.getD_eq_getElem?_getD, List.getElem?_eq_getElem h] at q; exact q⟩
theorem get_mapE {α β : Type} {l : List α} {inj : α → β} {k : Nat} {K : β → Prop} (h : ∃ a, l[k]? = some a ∧ K (inj a)) : GetG (l.map inj) k K := let ⟨_, h, q⟩ := h; ⟨_, by rw [List.getElem?_map, h]; rfl, q⟩
theorem get_c {r : List Nat} {k : Nat} {K : Nat → Prop} (h : k < r.length) (q : K (r.getD k 0)) : GetG r k K := ⟨_, List.getElem?_eq_getElem h, by rw [List.getD_eq_getElem?_getD, List.getElem?_eq_getElem h] at q; exact q⟩
theorem guard_E {α : Type} {f : M α} {env : Sl} {Q : α → Sl → Prop} {X : ExD → Sl → Prop} (h : wp f env Q X) : wp f env Q X := h
theorem guard_S {f : S} {env : Sl} {N : Sl → Prop} {P : Ps} (h : wps f env N P) : wps f env N P := h
theorem guard_O {α : Type} {o : Option α} {K : α → Prop} (h : wpo o K) : wpo o K := h
section
variable {env e1 : Sl} {X : ExD → Sl → Prop} {N : Sl → Prop} {P : Ps}
theorem v_oName {Q : AV → Sl → Prop} {i : Nat} (h : ∃ d, env[i]? = some (.val d) ∧ Q (.v d) env) : wp (oName i) env Q X := let ⟨_, h, k⟩ := h; wp_oName_v h k
theorem o_oName {Q : AV → Sl → Prop} {i : Nat} (h : ∃ c, env[i]? = some (.own c) ∧ Q (.s i) env) : wp (oName i) env Q X := let ⟨_, h, k⟩ := h; wp_oName_o h k
theorem v_eName {Q : EV → Sl → Prop} {i : Nat} (h : ∃ d, env[i]? = some (.val d) ∧ Q (.v d) env) : wp (eName i) env Q X := let ⟨_, h, k⟩ := h; wp_eName_v h k
theorem o_eName {Q : EV → Sl → Prop} {i : Nat} (h : ∃ c d, env[i]? = some (.own c) ∧ frzC c = some d ∧ ∀ e', env.set i (.val d) = e' → Q (.v d) e') : wp (eName i) env Q X := let ⟨_, _, h, hf, k⟩ := h; wp_eName_o h hf k
/-- a slot that is read as d -/
def Rds (sl : Slot) (d : D) : Prop := sl = .val d ∨ ∃ c, sl = .own c ∧ frzC c = some d
theorem Rds.v (d : D) : Rds (.val d) d := .inl rfl
theorem Rds.o {c : OC} {d : D} (h : frzC c = some d) : Rds (.own c) d := .inr ⟨c, rfl, h⟩
theorem Rds.l (ds : List D) : Rds (.own (.lst ds)) (.lst ds) := .inr ⟨_, rfl, rfl⟩
theorem Rds.ev {v : EV} {d : D} (h : frz v = some d) : Rds (slotOf v) d := by
  cases v with
  | v d' => cases h; exact .inl rfl
  | o c => exact .inr ⟨c, rfl, h⟩
theorem set_self {i : Nat} {s : Slot} (h : env[i]? = some s) : env.set i s = env := by
  refine List.ext_getElem? fun j => ?_
  rw [List.getElem?_set]
  split
  · rename_i e; subst e
    have := (List.getElem?_eq_some_iff.mp h).1
    rw [if_pos this, h]
  · rfl
theorem r_eName {Q : EV → Sl → Prop} {i : Nat} (h : ∃ sl d, env[i]? = some sl ∧ Rds sl d ∧ ∀ e', env.set i (.val d) = e' → Q (.v d) e') : wp (eName i) env Q X := by
  obtain ⟨sl, d, h, hr, k⟩ := h
  rcases hr with rfl | ⟨c, rfl, hf⟩
  · exact wp_eName_v h (k _ (set_self h))
  · exact wp_eName_o h hf k
theorem v_opM {Q : EV → Sl → Prop} {op : D → D → Option EV} {x y : AV} (h : ∃ d1 d2, deref env x = some d1 ∧ deref env y = some d2 ∧ wpo (op d1 d2) fun r => Q r env) : wp (opM op x y) env Q X := let ⟨_, _, h1, h2, k⟩ := h; wp_opM h1 h2 k
def ArgG (env : Sl) (as : List AV) (K : Sl → Prop) : Prop := ∃ sl, argsOf env as = some sl ∧ K sl
theorem arg_nil {K : Sl → Prop} (k : K []) : ArgG env [] K := ⟨[], rfl, k⟩
theorem arg_v {d : D} {r : List AV} {K : Sl → Prop} (k : ArgG env r fun sl => K (.val d :: sl)) : ArgG env (.v d :: r) K := by
  obtain ⟨sl, h, k⟩ := k
  exact ⟨.val d :: sl, by unfold argsOf; rw [h]; rfl, k⟩
theorem arg_s {i : Nat} {r : List AV} {K : Sl → Prop} (k : ∃ s, argS env[i]? = some s ∧ ArgG env r fun sl => K (s :: sl)) : ArgG env (.s i :: r) K := by
  obtain ⟨s, h1, sl, h, k⟩ := k
  exact ⟨s :: sl, by unfold argsOf argOf; rw [h]; dsimp only; rw [h1]; rfl, k⟩
theorem v_callM {Q : EV → Sl → Prop} {g : M EV} {as : List AV} (hn : (sidx as).Nodup) (h : ArgG env as fun sl => wp g sl (fun v o => ∀ e', back env as o = e' → Q v e') (fun x o => ∀ e', back env as o = e' → X x e')) : wp (callM g as) env Q X := let ⟨_, ha, h⟩ := h; wp_callM hn ha h
theorem v_funD {Q : EV → Sl → Prop} {n np : Nat} {body : S} {args : Sl} (hn : args.length = np) (h : FinG (args ++ List.replicate (n - np) .emp) fun env0 => wps body env0 (fun e => ∀ e', e.take np = e' → Q (.v .non) e') ⟨fun v e => ∀ e', e.take np = e' → Q v e', fun _ => False, fun _ => False, fun x e => ∀ e', e.take np = e' → X x e'⟩) : wp (funD n np body) args Q X := wp_funD hn rfl h
theorem v_funV {Q : EV → Sl → Prop} {n : Nat} {body : S} {a : Slot} {rest : Sl} (h : ∃ ds, valsOf rest = some ds ∧ ds.length ≤ 5000 ∧ wp (funD n 2 body) [a, .val (.tup ds)] (fun v e => ∃ a' r, e = a' :: r ∧ Q v (a' :: rest)) (fun x e => ∃ a' r, e = a' :: r ∧ X x (a' :: rest))) : wp (funV n body) (a :: rest) Q X := let ⟨_, h1, h2, h3⟩ := h; wp_funV h1 h2 h3
theorem v_retV {np : Nat → Bool} {i : Nat} (h : ∃ d, env[i]? = some (.val d) ∧ P.rt (.v d) env) : wps (sRetV np i) env N P := let ⟨_, h, k⟩ := h; wps_retV_v h k
theorem o_retV {np : Nat → Bool} {i : Nat} (h : ∃ c, env[i]? = some (.own c) ∧ np i = false ∧ ∀ e', env.set i .emp = e' → P.rt (.o c) e') : wps (sRetV np i) env N P := let ⟨_, h, h2, k⟩ := h; wps_retV_o h h2 k
def DerG (env : Sl) (as : List AV) (K : List D → Prop) : Prop := ∃ ds, derefs env as = some ds ∧ K ds
theorem der_nil {K : List D → Prop} (k : K []) : DerG env [] K := ⟨[], rfl, k⟩
theorem der_v {d : D} {r : List AV} {K : List D → Prop} (k : DerG env r fun ds => K (d :: ds)) : DerG env (.v d :: r) K := by
  obtain ⟨ds, h, k⟩ := k
  exact ⟨d :: ds, by unfold derefs; rw [h]; rfl, k⟩
theorem der_s {i : Nat} {r : List AV} {K : List D → Prop} (k : ∃ d, rdS env[i]? = some d ∧ DerG env r fun ds => K (d :: ds)) : DerG env (.s i :: r) K := by
  obtain ⟨d, h1, ds, h, k⟩ := k
  exact ⟨d :: ds, by unfold derefs deref; rw [h]; dsimp only; rw [h1]; rfl, k⟩
def ValG (as : List AV) (K : List D → Prop) : Prop := ∃ ds, vals as = some ds ∧ K ds
theorem val_nil {K : List D → Prop} (k : K []) : ValG [] K := ⟨[], rfl, k⟩
theorem val_v {d : D} {r : List AV} {K : List D → Prop} (k : ValG r fun ds => K (d :: ds)) : ValG (.v d :: r) K := by
  obtain ⟨ds, h, k⟩ := k
  exact ⟨d :: ds, by unfold vals; rw [h]; rfl, k⟩
theorem v_bM {Q : EV → Sl → Prop} {op : List D → Option EV} {as : List AV} (h : DerG env as fun ds => wpo (op ds) fun r => Q r env) : wp (bM op as) env Q X := let ⟨_, h, k⟩ := h; wp_bM h k
theorem v_tyM {Q : EV → Sl → Prop} {ty : D → Bool} {a : AV} {m : M EV} (h : ∃ d, deref env a = some d ∧ ty d = true ∧ wp m env Q X) : wp (tyM ty a m) env Q X := let ⟨_, h, h2, k⟩ := h; wp_tyM h h2 k
theorem v_append {Q : EV → Sl → Prop} {i : Nat} {d : D} (h : ∃ xs, env[i]? = some (.own (.lst xs)) ∧ xs.length < 1000000 ∧ ∀ e', env.set i (.own (.lst (xs ++ [d]))) = e' → Q (.v .non) e') : wpMut opAppend i [.v d] env Q := let ⟨_, h, h2, k⟩ := h; wpMut_append h h2 k
theorem v_extend {Q : EV → Sl → Prop} {i : Nat} {ys : List D} (h : ∃ xs, env[i]? = some (.own (.lst xs)) ∧ xs.length + ys.length ≤ 1000000 ∧ ∀ e', env.set i (.own (.lst (xs ++ ys))) = e' → Q (.v .non) e') : wpMut opExtend i [.v (.lst ys)] env Q := let ⟨_, h, h2, k⟩ := h; wpMut_extend h h2 k
theorem v_pop {Q : EV → Sl → Prop} {i : Nat} {j : Int} (h : ∃ xs, env[i]? = some (.own (.lst xs)) ∧ (0 ≤ j ∧ j < 1000000) ∧ GetG xs j.toNat fun d => ∀ e', env.set i (.own (.lst (xs.eraseIdx j.toNat))) = e' → Q (.v d) e') : wpMut opPop i [.v (.int j)] env Q := let ⟨_, h, h2, _, h3, k⟩ := h; wpMut_pop h h2.1 h2.2 h3 k
theorem v_setLM {Q : Unit → Sl → Prop} {x : Nat} {d : D} {k : Int} (h : ∃ xs, env[x]? = some (.own (.lst xs)) ∧ IxG xs.length k fun j => ∀ e', env.set x (.own (.lst (xs.set j d))) = e' → Q () e') : wp (setLM x d (.int k)) env Q X := let ⟨_, h, _, h3, k⟩ := h; wp_setLM h h3 k
theorem v_setFM {Q : Unit → Sl → Prop} {x : Nat} {fi : Nat → Option Nat} {d : D} (h : ∃ t ds j, env[x]? = some (.own (.ins t ds)) ∧ fi t = some j ∧ j = ds.length ∧ ∀ e', env.set x (.own (.ins t (ds ++ [d]))) = e' → Q () e') : wp (setFM x fi d) env Q X := let ⟨_, _, _, h, h2, h3, k⟩ := h; wp_setFM h h2 h3 k
theorem v_ix {x : D} {xs : List D} {i : Int} {K : EV → Prop} [o : IxD x xs] (h : IxG xs.length i fun k => GetG xs k fun d => K (.v d)) : wpo (ixD x (.int i)) K := let ⟨_, h, _, h2, k⟩ := h; wpo_ix h h2 k
theorem v_ixS {s : List Nat} {i : Int} {K : EV → Prop} (hl : s.length ≤ 1000000) (h : IxG s.length i fun k => GetG s k fun c => K (.v (.str [c]))) : wpo (ixD (.str s) (.int i)) K := let ⟨_, h, _, h2, k⟩ := h; wpo_ixS hl h h2 k
theorem v_vals {as : List AV} {K : List D → Prop} (h : ValG as K) : wpo (vals as) K := let ⟨_, h, k⟩ := h; wpo_of h k
theorem v_objOf {e : Sl} {a : AV} {K : Nat × List D → Prop} (h : ∃ p, objOf e a = some p ∧ K p) : wpo (objOf e a) K := let ⟨_, h, k⟩ := h; wpo_of h k
theorem v_objIs {e : Sl} {a : AV} {K : D → Prop} (h : ∃ p, eIsi.objIs e a = some p ∧ K p) : wpo (eIsi.objIs e a) K := let ⟨_, h, k⟩ := h; wpo_of h k
class IsiC (I : IsT) (d : D) (b : outParam Bool) : Prop where
  of : isiB I d = some b
instance : IsiC isInt .non false := ⟨rfl⟩
instance {b : Bool} : IsiC isInt (.bl b) true := ⟨rfl⟩
instance {i : Int} : IsiC isInt (.int i) true := ⟨rfl⟩
instance {s : List Nat} : IsiC isInt (.str s) false := ⟨rfl⟩
instance {xs : List D} : IsiC isInt (.tup xs) false := ⟨rfl⟩
instance {xs : List D} : IsiC isInt (.lst xs) false := ⟨rfl⟩
instance {ks : List L2.Key} {xs : List D} : IsiC isInt (.dic ks xs) false := ⟨rfl⟩
instance : IsiC isBool .non false := ⟨rfl⟩
instance {b : Bool} : IsiC isBool (.bl b) true := ⟨rfl⟩
instance {i : Int} : IsiC isBool (.int i) false := ⟨rfl⟩
instance {s : List Nat} : IsiC isBool (.str s) false := ⟨rfl⟩
instance {xs : List D} : IsiC isBool (.tup xs) false := ⟨rfl⟩
instance {xs : List D} : IsiC isBool (.lst xs) false := ⟨rfl⟩
instance {ks : List L2.Key} {xs : List D} : IsiC isBool (.dic ks xs) false := ⟨rfl⟩
instance : IsiC isStr .non false := ⟨rfl⟩
instance {b : Bool} : IsiC isStr (.bl b) false := ⟨rfl⟩
instance {i : Int} : IsiC isStr (.int i) false := ⟨rfl⟩
instance {s : List Nat} : IsiC isStr (.str s) true := ⟨rfl⟩
instance {xs : List D} : IsiC isStr (.tup xs) false := ⟨rfl⟩
instance {xs : List D} : IsiC isStr (.lst xs) false := ⟨rfl⟩
instance {ks : List L2.Key} {xs : List D} : IsiC isStr (.dic ks xs) false := ⟨rfl⟩
instance : IsiC isTup .non false := ⟨rfl⟩
instance {b : Bool} : IsiC isTup (.bl b) false := ⟨rfl⟩
instance {i : Int} : IsiC isTup (.int i) false := ⟨rfl⟩
instance {s : List Nat} : IsiC isTup (.str s) false := ⟨rfl⟩
instance {xs : List D} : IsiC isTup (.tup xs) true := ⟨rfl⟩
instance {xs : List D} : IsiC isTup (.lst xs) false := ⟨rfl⟩
instance {ks : List L2.Key} {xs : List D} : IsiC isTup (.dic ks xs) false := ⟨rfl⟩
instance : IsiC isLst .non false := ⟨rfl⟩
instance {b : Bool} : IsiC isLst (.bl b) false := ⟨rfl⟩
instance {i : Int} : IsiC isLst (.int i) false := ⟨rfl⟩
instance {s : List Nat} : IsiC isLst (.str s) false := ⟨rfl⟩
instance {xs : List D} : IsiC isLst (.tup xs) false := ⟨rfl⟩
instance {xs : List D} : IsiC isLst (.lst xs) true := ⟨rfl⟩
instance {ks : List L2.Key} {xs : List D} : IsiC isLst (.dic ks xs) false := ⟨rfl⟩
instance : IsiC isDic .non false := ⟨rfl⟩
instance {b : Bool} : IsiC isDic (.bl b) false := ⟨rfl⟩
instance {i : Int} : IsiC isDic (.int i) false := ⟨rfl⟩
instance {s : List Nat} : IsiC isDic (.str s) false := ⟨rfl⟩
instance {xs : List D} : IsiC isDic (.tup xs) false := ⟨rfl⟩
instance {xs : List D} : IsiC isDic (.lst xs) false := ⟨rfl⟩
instance {ks : List L2.Key} {xs : List D} : IsiC isDic (.dic ks xs) true := ⟨rfl⟩
instance : IsiC is_Board .non false := ⟨rfl⟩
instance {b : Bool} : IsiC is_Board (.bl b) false := ⟨rfl⟩
instance {i : Int} : IsiC is_Board (.int i) false := ⟨rfl⟩
instance {s : List Nat} : IsiC is_Board (.str s) false := ⟨rfl⟩
instance {xs : List D} : IsiC is_Board (.tup xs) false := ⟨rfl⟩
instance {xs : List D} : IsiC is_Board (.lst xs) false := ⟨rfl⟩
instance {ks : List L2.Key} {xs : List D} : IsiC is_Board (.dic ks xs) false := ⟨rfl⟩
instance {fs : List D} : IsiC is_Board (.obj 0 fs) true := ⟨rfl⟩
theorem wpo_isi {I : IsT} {d : D} {b : Bool} {K : Bool → Prop} [o : IsiC I d b] (k : K b) : wpo (isiB I d) K := wpo_of o.of k
theorem v_deref {e : Sl} {a : AV} {K : D → Prop} (h : ∃ b, deref e a = some b ∧ K b) : wpo (deref e a) K := let ⟨_, h, k⟩ := h; wpo_of h k
theorem v_get {γ : Type} {l : List γ} {j : Nat} {K : γ → Prop} (h : GetG l j K) : wpo (l[j]?) K := let ⟨_, h, k⟩ := h; wpo_of h k
theorem v_starD {d : D} {K : List D → Prop} (h : ∃ ds, starD d = some ds ∧ K ds) : wpo (starD d) K := let ⟨_, h, k⟩ := h; wpo_of h k
theorem tgt_gN {i : Nat} {d : D} {e : Sl} {K : Sl → Prop} (k : ∀ e', e.set i (.val d) = e' → K e') : ∃ e', gN i d e = some e' ∧ K e' := ⟨_, rfl, k _ rfl⟩
end
end Dt
end
section
set_option maxRecDepth 100000
set_option maxHeartbeats 4000000
/-! DS: sorted, len(set(..)), join and split, in plain data. -/
namespace Dt
open PySem PySem.W
open PyProof.Rows hiding St
/-! ### sorted -/
def tkD (d : D) : List (Int ⊕ List Nat) := keyToks (pOf d)
def leT (a b : D) : Bool := sortLe (listOrd itemOrd) false tkD a b
theorem sortL_eq {xs : List D} {ps : List PyData} (h : ps = xs.map pOf) : sortL xs ps = xs.mergeSort leT := by
  subst h
  unfold sortL
  rw [sort_maps (s := leT) (fun p : D × PyData => p.1)]
  · rw [List.map_fst_zip (by simp)]
  · intro a ha b hb
    have key : ∀ p ∈ xs.zip (xs.map pOf), p.2 = pOf p.1 := fun p hp => by
      obtain ⟨i, hi, rfl⟩ := List.mem_iff_getElem.mp hp
      simp
    unfold dataLe leT sortLe tkD
    dsimp only
    rw [key a ha, key b hb]
theorem sortD_of {d : D} {xs : List D} {w k : Nat} (hi : sortItems d = some xs) (h : ShwL xs w k) (hs : okSort (xs.map pOf) = true) (hl : xs.length ≤ 1000000) : sortD [d] = some (.o (.lst (xs.mergeSort leT))) := by
  obtain ⟨ps, h1, _⟩ := h
  have := toPL_pOf h1
  subst this
  simp only [sortD, hi, Option.bind, h1]
  rw [if_pos ⟨hs, hl⟩, sortL_eq rfl]
theorem sort_is {l l' : List D} (hp : l'.Perm l) (hs : l'.Pairwise fun a b => leT a b = true) (hi : ∀ a ∈ l, ∀ b ∈ l, tkD a = tkD b → a = b) : l.mergeSort leT = l' := by
  have tot := sortLe_total (listOrd itemOrd) false tkD
  refine List.Perm.eq_of_pairwise (le := fun a b => leT a b = true) ?_ (sort_pairwise tot l) hs ((List.mergeSort_perm ..).trans hp.symm)
  intro a b ha hb h1 h2
  refine hi a (List.mem_mergeSort.mp ha) b (hp.mem_iff.mp hb) ?_
  have h1' : (!(listOrd itemOrd).blt (tkD b) (tkD a)) = true := h1
  have h2' : (!(listOrd itemOrd).blt (tkD a) (tkD b)) = true := h2
  exact (listOrd itemOrd).total _ _ (by simpa using h2') (by simpa using h1')
theorem leT_str (a b : List Nat) : leT (.str a) (.str b) = !decide (b < a) := by
  show (!PyProof.Rows.lexLt itemOrd [Sum.inr (mkS b).cps.toList] [Sum.inr (mkS a).cps.toList]) = _
  rw [mkS_cps, mkS_cps]
  congr 1
  by_cases e : b = a
  · subst e
    rw [decide_eq_false (List.lt_irrefl b)]
    exact lex_irrefl (O := itemOrd) _
  · have hne : (Sum.inr b : Int ⊕ List Nat) ≠ Sum.inr a := fun z => e (by cases z; rfl)
    rw [lex_diff (O := itemOrd) hne]
    rfl
theorem tk_str_inj {a b : List Nat} (h : tkD (.str a) = tkD (.str b)) : a = b := by
  have h' : [Sum.inr (mkS a).cps.toList] = [(Sum.inr (mkS b).cps.toList : Int ⊕ List Nat)] := h
  rw [mkS_cps, mkS_cps] at h'
  cases h'
  rfl
theorem okSort_strs (l : List (List Nat)) : okSort ((l.map D.str).map pOf) = true := by
  rw [List.map_map]
  show okSort (l.map fun s => PyData.str (mkS s)) = true
  simp [okSort]
  exact ⟨⟨fun x _ y _ => rfl, .inr fun x _ => rfl⟩, fun x _ => by simp [PyData.depth]⟩
/-- a list of texts in order -/
def SortedS (l : List (List Nat)) : Prop := l.Pairwise fun a b => ¬ b < a
theorem sort_strs {l l' : List (List Nat)} (hp : l'.Perm l) (hs : SortedS l') : (l.map D.str).mergeSort leT = l'.map D.str := by
  refine sort_is (hp.map _) (List.Pairwise.map _ (fun a b h => ?_) hs) fun a ha b hb h => ?_
  · rw [leT_str, decide_eq_false h]; rfl
  · obtain ⟨x, _, rfl⟩ := List.mem_map.mp ha
    obtain ⟨y, _, rfl⟩ := List.mem_map.mp hb
    rw [tk_str_inj h]
theorem wpo_sortS {l l' : List (List Nat)} {d : D} {n : Nat} {K : EV → Prop} (hd : sortItems d = some (l.map D.str)) (hp : l'.Perm l) (hs : SortedS l') (ho : StrsOk n l) (hl : l.length ≤ 1000000) (k : K (.o (.lst (l'.map D.str)))) : wpo (sortD [d]) K :=
  wpo_of ((sortD_of hd ho.shwL (okSort_strs l) (by simpa using hl)).trans (by rw [sort_strs hp hs])) k
/-! ### len(set(..)) -/
theorem met_nodup {l : List (List Nat)} (h : l.Nodup) : DtS.met l = l := by
  have key : ∀ (l σ : List (List Nat)), (σ ++ l).Nodup → l.foldl DtS.stepM σ = σ ++ l := by
    intro l
    induction l with
    | nil => intro σ _; simp
    | cons x l ih =>
      intro σ h
      have hx : σ.any (· == x) = false := by
        rw [List.any_eq_false]
        intro y hy e
        have e := eq_of_beq e
        subst e
        have := (List.nodup_append.mp h).2.2 y hy y (List.mem_cons_self ..)
        exact this rfl
      rw [List.foldl_cons]
      have e : DtS.stepM σ x = σ ++ [x] := by unfold DtS.stepM; rw [hx]; rfl
      rw [e, ih _ (by simpa using h)]
      simp
  exact (key l [] (by simpa using h)).trans (by simp)
theorem wpo_lenSet {α : Type} {f : α → List Nat} {l : List α} {d : D} {K : EV → Prop} (hd : seqD d = some (l.map fun a => D.str (f a))) (hl : l.length ≤ 4000) (k : K (.v (.int (DtS.met (l.map f)).length))) : wpo (lenSetD [d]) K :=
  wpo_of (by simp only [lenSetD, hd, Option.bind, strsOf_m]; rw [if_pos (by simpa using hl)]; rfl) k
/-! ### " ".join(..), split -/
theorem sum_le {n : Nat} : ∀ {l : List (List Nat)}, (∀ r ∈ l, r.length ≤ n) → (l.map (·.length)).sum ≤ l.length * n
  | [], _ => by simp
  | r :: l, h => by
    have h1 := h r (List.mem_cons_self ..)
    have h2 := sum_le fun r hr => h r (List.mem_cons_of_mem _ hr)
    simp only [List.map_cons, List.sum_cons, List.length_cons, Nat.succ_mul]
    omega
theorem join_len (s : List Nat) (rs : List (List Nat)) : (joinS s rs).length ≤ (rs.map (·.length)).sum + rs.length * s.length := by
  have h := StrLaws.join_length_le (mkS s) (rs.map mkS)
  rw [← TL.join_eq] at h
  have e : (joinS s rs).length = (Txt.join (mkS s) (rs.map mkS)).length := by
    show (Txt.join (mkS s) (rs.map mkS)).cps.toList.length = (Txt.join (mkS s) (rs.map mkS)).cps.size
    simp
  rw [List.map_map, List.length_map] at h
  have e2 : (rs.map ((fun x => x.length) ∘ mkS)) = rs.map (·.length) := List.map_congr_left fun r _ => mkS_len r
  rw [e2, mkS_len] at h
  rw [e]; exact h
end Dt
end
section
set_option maxRecDepth 100000
set_option maxHeartbeats 4000000
/-! PM: rows, parts, clashes: plain. -/
namespace Pm
/-- a row has a part -/
def has : List Nat → List Nat → Bool
  | [], [] => true
  | a :: r, b :: p => (b == 45 || b == a) && has r p
  | _, _ => false
def hasAny (l : List (List Nat)) (p : List Nat) : Bool := l.any fun r => has r p
/-- the parts of a row, sign by sign -/
def grow (found : List (List Nat)) (c : Nat) : List (List Nat) := found.flatMap fun p => [p ++ [45], p ++ [c]]
def gens (r : List Nat) : List (List Nat) := r.foldl grow [[]]
/-- all parts for n issues, in the order of texts -/
def grow3 (found : List (List Nat)) : List (List Nat) := found.flatMap fun p => [p ++ [45], p ++ [48], p ++ [49]]
def partsL : Nat → List (List Nat)
  | 0 => [[]]
  | n + 1 => grow3 (partsL n)
/-- the issues to which a part has answers -/
def ans (p : List Nat) : List Nat := (List.range p.length).filter fun i => !(p.getD i 0 == 45)
/-- a part without an answer -/
def wo (p : List Nat) (i : Nat) : List Nat := p.take i ++ [45] ++ p.drop (i + 1)
def isClash (l : List (List Nat)) (p : List Nat) : Bool := !hasAny l p && (ans p).all fun i => hasAny l (wo p i)
/-- as the sort has it -/
def enc (p : List Nat) : Dt.D := .tup [.int (ans p).length, .str p]
def clashes (n : Nat) (l : List (List Nat)) : List (List Nat) := ((partsL n).filter (isClash l)).mergeSort fun a b => Dt.leT (enc a) (enc b)
/-- how many voters can reject an answer that wins -/
def room (n q : Int) (c : Nat) : Int := if c = 49 then n - q else q - 1
def rooms (n : Int) (qs : List Int) (p : List Nat) : List Int := (ans p).map fun i => room n (qs.getD i 0) (p.getD i 0)
end Pm
end
section
set_option maxRecDepth 100000
set_option maxHeartbeats 4000000
/-! WG: comprehensions of two clauses; keys of dicts. -/
namespace Dt
open PySem
section
variable {vs vs1 : List Nat} {t t1 : D → Sl → Option Sl} {B : Sl → List D → Option (List D × Sl)} {c c1 : M Bool} {f : M EV} {fi : M (List D)} {env : Sl} {K : List D → Sl → Prop} {acc : List D}
end
/-! ### objects made of values -/
theorem sidx_vals (ds : List D) : sidx (ds.map AV.v) = [] := by
  induction ds with
  | nil => rfl
  | cons d ds ih => simpa [sidx] using ih
theorem argsOf_vals (e : Sl) (ds : List D) : argsOf e (ds.map AV.v) = some (ds.map Dt.Slot.val) := by
  induction ds with
  | nil => rfl
  | cons d ds ih => simp [argsOf, argOf, ih]
theorem back_vals : ∀ (ds : List D) (e os : Sl), back e (ds.map AV.v) os = e
  | [], e, os => by cases os <;> rfl
  | d :: ds, e, [] => rfl
  | d :: ds, e, o :: os => back_vals ds e os
theorem put_last (env : Sl) (c : OC) (o : Dt.Slot) : put1 (env ++ [.own c]) env.length o = env ++ [o] := by
  unfold put1
  rw [if_pos (by simp [isOwn])]
  simp
theorem wp_makeVals {Q : EV → Sl → Prop} {X : ExD → Sl → Prop} {t : Nat} {g : M EV} {ds : List D} {env : Sl} (h : wp g (.own (.ins t []) :: ds.map Dt.Slot.val) (fun v o => v = .v .non ∧ ∃ fs o', o = .own (.ins t fs) :: o' ∧ fs.length = (FL t).length ∧ Q (.v (.obj t fs)) env) (fun x o => X x env)) : wp (makeM t g (ds.map AV.v)) env Q X := by
  have ha : argsOf (env ++ [.own (.ins t [])]) (.s env.length :: ds.map AV.v) = some (.own (.ins t []) :: ds.map Dt.Slot.val) := by
    have h1 : argOf (env ++ [.own (.ins t [])]) (.s env.length) = some (.own (.ins t [])) := by simp [argOf, argS]
    show (argOf (env ++ [.own (.ins t [])]) (.s env.length)).bind _ = _
    rw [h1]
    show (argsOf (env ++ [.own (.ins t [])]) (ds.map AV.v)).map _ = _
    rw [argsOf_vals]; rfl
  refine wp_makeM (by simp [sidx, sidx_vals]) ha (wp_mono h (fun v o hh => ?_) fun x o hh e' he' => ?_)
  · obtain ⟨h1, fs, o', rfl, h2, h3⟩ := hh
    refine ⟨h1, fs, o', rfl, h2, fun e' he' => ?_⟩
    have e1 : back (env ++ [.own (.ins t [])]) (.s env.length :: ds.map AV.v) (.own (.ins t fs) :: o') = env ++ [.own (.ins t fs)] := by
      show back (put1 _ _ _) _ _ = _
      rw [back_vals, put_last]
    rw [e1] at he' ⊢
    have : env = e' := by rw [← he']; simp
    subst this
    exact ⟨by simp, h3⟩
  · have : e' = env := by
      cases o with
      | nil => rw [← he']; show List.take env.length (env ++ [_]) = env; simp
      | cons s o =>
        have e1 : back (env ++ [.own (.ins t [])]) (.s env.length :: ds.map AV.v) (s :: o) = env ++ [s] := by
          show back (put1 _ _ _) _ _ = _
          rw [back_vals, put_last]
        rw [← he', e1]; simp
    subst this
    exact hh
/-! ### keys -/
theorem put_keys : ∀ {ks : List L2.Key} {vs : List D} {k : L2.Key} {d : D}, ks.length = vs.length → (dicPut ks vs k d).1.length = (dicPut ks vs k d).2.length ∧ (∀ x, x ∈ (dicPut ks vs k d).1 ↔ x ∈ ks ∨ x = k) ∧ (ks.Nodup → (dicPut ks vs k d).1.Nodup) ∧ (dicPut ks vs k d).1.length ≤ ks.length + 1
  | [], [], _, _, _ => by simp [dicPut]
  | [], _ :: _, _, _, h => by simp at h
  | _ :: _, [], _, _, h => by simp at h
  | a :: ks, x :: vs, k, d, h => by
    have h' : ks.length = vs.length := by simpa using h
    obtain ⟨i1, i2, i3, i4⟩ := put_keys (k := k) (d := d) h'
    by_cases e : a = k
    · subst e
      refine ⟨by simp [dicPut, h'], fun x => ?_, fun n => by simpa [dicPut] using n, by simp [dicPut]⟩
      simp only [dicPut, if_true, List.mem_cons]
      constructor
      · rintro (q | q) <;> simp [q]
      · rintro ((q | q) | q) <;> simp [q]
    · refine ⟨by simp [dicPut, e, i1], fun x => ?_, fun n => ?_, by simp [dicPut, e]; omega⟩
      · simp only [dicPut, e, if_false, List.mem_cons, i2, or_assoc]
      · obtain ⟨n1, n2⟩ := List.nodup_cons.mp n
        simp only [dicPut, e, if_false]
        refine List.nodup_cons.mpr ⟨fun q => ?_, i3 n2⟩
        rcases (i2 a).mp q with q | q
        · exact n1 q
        · exact e q
/-- a dict that is a set of texts -/
structure DSet (ks : List L2.Key) (vs : List D) (P : List Nat → Prop) (n : Nat) : Prop where
  len : ks.length = vs.length
  nd : ks.Nodup
  mem : ∀ k, k ∈ ks ↔ ∃ s, k = .inr (mkS s) ∧ P s
  sz : ks.length ≤ n
theorem DSet.nil {n : Nat} : DSet [] [] (fun _ => False) n := ⟨rfl, List.nodup_nil, fun k => by simp, Nat.zero_le _⟩
theorem DSet.put {ks : List L2.Key} {vs : List D} {P : List Nat → Prop} {n : Nat} (h : DSet ks vs P n) (s : List Nat) (d : D) : DSet (dicPut ks vs (.inr (mkS s)) d).1 (dicPut ks vs (.inr (mkS s)) d).2 (fun x => P x ∨ x = s) (n + 1) := by
  obtain ⟨h1, h2, h3, h4⟩ := put_keys (k := .inr (mkS s)) (d := d) h.len
  refine ⟨h1, h3 h.nd, fun k => ?_, by have := h.sz; omega⟩
  rw [h2, h.mem]
  constructor
  · rintro (⟨x, e, hx⟩ | e)
    · exact ⟨x, e, .inl hx⟩
    · exact ⟨s, e, .inr rfl⟩
  · rintro ⟨x, e, hx | rfl⟩
    · exact .inl ⟨x, e, hx⟩
    · exact .inr e
theorem DSet.has {ks : List L2.Key} {vs : List D} {P : List Nat → Prop} {n : Nat} (h : DSet ks vs P n) (s : List Nat) {b : Bool} (hb : b = true ↔ P s) : (ks.any fun a => decide (a = .inr (mkS s))) = b := by
  rw [Bool.eq_iff_iff, hb, List.any_eq_true]
  constructor
  · rintro ⟨a, ha, e⟩
    obtain ⟨x, rfl, hx⟩ := (h.mem a).mp ha
    have e := of_decide_eq_true e
    have e2 : mkS x = mkS s := by injection e
    rw [mkS_inj] at e2
    exact e2 ▸ hx
  · intro hs
    exact ⟨_, (h.mem _).mpr ⟨s, rfl, hs⟩, by simp⟩
/-- a sign among signs -/
theorem wpo_inSign {c : Nat} {s : List Nat} {K : EV → Prop} (k : K (.v (.bl (decide (c ∈ s))))) : wpo (inX (.str [c]) (.str s)) K := by
  refine wpo_of (a := .v (.bl (decide (c ∈ s)))) ?_ k
  show some (vB (false ^^ decide (c ∈ s))) = _
  simp [vB]
end Dt
end
section
set_option maxRecDepth 100000
set_option maxHeartbeats 4000000
/-! WH: e[::-1], repr with dicts, values of any kind. -/
namespace Dt
open PySem L2
section
variable {env : Sl} {X : ExD → Sl → Prop}
end
/-! ### plain values of any kind -/
def Pln (d : D) : Prop := (∃ p, toP d = some p) ∨ ∃ p, toQ d = some p
theorem toPL_mem : ∀ {ds : List D} {ps : List PyData}, toPL ds = some ps → ∀ d ∈ ds, ∃ p, toP d = some p
  | [], _, _, d, h => by cases h
  | e :: ds, _, h, d, hd => by
    unfold toPL at h
    obtain ⟨p, h1, h⟩ := opt_bind h
    obtain ⟨qs, h2, rfl⟩ := Option.map_eq_some_iff.mp h
    rcases List.mem_cons.mp hd with rfl | hd
    · exact ⟨p, h1⟩
    · exact toPL_mem h2 d hd
theorem toQL_mem : ∀ {ds : List D} {ps : List PyData}, toQL ds = some ps → ∀ d ∈ ds, ∃ p, toQ d = some p
  | [], _, _, d, h => by cases h
  | e :: ds, _, h, d, hd => by
    unfold toQL at h
    obtain ⟨p, h1, h⟩ := opt_bind h
    obtain ⟨qs, h2, rfl⟩ := Option.map_eq_some_iff.mp h
    rcases List.mem_cons.mp hd with rfl | hd
    · exact ⟨p, h1⟩
    · exact toQL_mem h2 d hd
theorem Pln.tup {ds : List D} (h : Pln (.tup ds)) : ∀ d ∈ ds, Pln d := by
  rcases h with ⟨p, h⟩ | ⟨p, h⟩
  · unfold toP at h
    obtain ⟨ps, h1, _⟩ := Option.map_eq_some_iff.mp h
    exact fun d hd => .inl (toPL_mem h1 d hd)
  · unfold toQ at h
    obtain ⟨ps, h1, _⟩ := Option.map_eq_some_iff.mp h
    exact fun d hd => .inr (toQL_mem h1 d hd)
theorem Pln.lst {ds : List D} (h : Pln (.lst ds)) : ∀ d ∈ ds, Pln d := by
  rcases h with ⟨p, h⟩ | ⟨p, h⟩
  · unfold toP at h
    obtain ⟨ps, h1, _⟩ := Option.map_eq_some_iff.mp h
    exact fun d hd => .inl (toPL_mem h1 d hd)
  · cases h
theorem Pln.no_obj {t : Nat} {fs : List D} (h : Pln (.obj t fs)) : False := by
  rcases h with ⟨p, h⟩ | ⟨p, h⟩ <;> cases h
theorem Pln.no_raw {v : V} (h : Pln (.raw v)) : False := by
  rcases h with ⟨p, h⟩ | ⟨p, h⟩ <;> cases h
theorem Pln.no_scr {v : List Int} (h : Pln (.scr v)) : False := by
  rcases h with ⟨p, h⟩ | ⟨p, h⟩ <;> cases h
theorem Pln.no_clo {f : Addr} {us : List L2.V} {ds : List D} (h : Pln (.clo f us ds)) : False := by
  rcases h with ⟨p, h⟩ | ⟨p, h⟩ <;> cases h
theorem pln_str (s : List Nat) : Pln (.str s) := .inl ⟨_, rfl⟩
/-- it can be shown: by both roads -/
def Sh (d : D) (w k : Nat) : Prop := Shw d w k ∨ ShQ d w k
theorem Sh.pln {d : D} {w k : Nat} (h : Sh d w k) : Pln d := by
  rcases h with ⟨p, h, _⟩ | ⟨p, h, _⟩
  · exact .inl ⟨p, h⟩
  · exact .inr ⟨p, h⟩
theorem Sh.mono {d : D} {w w' k k' : Nat} (h : Sh d w k) (h1 : w ≤ w') (h2 : k ≤ k') : Sh d w' k' := h.elim (fun h => .inl (h.mono h1 h2)) fun h => .inr (h.mono h1 h2)
/-- data without lists and dicts: shown by both roads -/
def Sh2 (d : D) (w k : Nat) : Prop := Shw d w k ∧ ShQ d w k
theorem Sh2.sh {d : D} {w k : Nat} (h : Sh2 d w k) : Sh d w k := .inl h.1
theorem Sh2.mono {d : D} {w w' k k' : Nat} (h : Sh2 d w k) (h1 : w ≤ w') (h2 : k ≤ k') : Sh2 d w' k' := ⟨h.1.mono h1 h2, h.2.mono h1 h2⟩
def Sh2L (ds : List D) (w k : Nat) : Prop := ShwL ds w k ∧ ShQL ds w k
theorem Sh2L.mono {d : List D} {w w' k k' : Nat} (h : Sh2L d w k) (h1 : w ≤ w') (h2 : k ≤ k') : Sh2L d w' k' := ⟨h.1.mono h1 h2, h.2.mono h1 h2⟩
theorem joinS_L (a : List Nat) (ys : List (List Nat)) : joinS a ys = TL.joinL a ys := by
  have h := TL.tl_join (mkS a) (ys.map mkS)
  rw [← TL.join_eq, List.map_map] at h
  have e : ys.map (TL.tl ∘ mkS) = ys := (List.map_congr_left fun r _ => by simp [TL.tl, mkS]).trans (List.map_id ys)
  rw [e, show TL.tl (mkS a) = a from mkS_cps a] at h
  exact h
theorem joinL_mem {S : List Nat} {c : Nat} : ∀ {l : List (List Nat)}, c ∈ TL.joinL S l → c ∈ S ∨ ∃ p ∈ l, c ∈ p
  | [], h => by cases h
  | [p], h => .inr ⟨p, List.mem_cons_self .., h⟩
  | p :: q :: r, h => by
    rcases List.mem_append.mp h with h | h
    · exact .inr ⟨p, List.mem_cons_self .., h⟩
    · rcases List.mem_append.mp h with h | h
      · exact .inl h
      · rcases joinL_mem h with h | ⟨x, hx, h⟩
        · exact .inl h
        · exact .inr ⟨x, List.mem_cons_of_mem _ hx, h⟩
theorem joinS_mem {S : List Nat} {c : Nat} {l : List (List Nat)} (h : c ∈ joinS S l) : c ∈ S ∨ ∃ p ∈ l, c ∈ p := joinL_mem (by rwa [joinS_L] at h)
end Dt
end
section
set_option maxRecDepth 100000
set_option maxHeartbeats 4000000
/-! WI: rules of R7. -/
namespace Dt
open PySem L2
section
variable {env e1 : Sl} {X : ExD → Sl → Prop} {N : Sl → Prop} {P : Ps}
instance {p q : Bool} : Op2 (isB true) (.bl p) (.bl q) True (.v (.bl (!(p == q)))) := ⟨fun _ => by simp [isB, vB]⟩
end
end Dt
end
section
set_option maxRecDepth 100000
set_option maxHeartbeats 4000000
/-! WJ: while, try .. as. -/
namespace Dt
open PySem L2
section
variable {env e1 : Sl} {X : ExD → Sl → Prop} {N : Sl → Prop} {P : Ps}
section
variable {vs : List Nat} {t : D → Sl → Option Sl} {f : M EV} {K : List D → Sl → Prop}
end
end
theorem rgD_nat (n : Nat) : rgD 0 (n : Int) = (List.range n).map fun i : Nat => D.int (i : Int) := by simp [rgD]
instance {n : Nat} : Op1 (rg1 true) [.int (n : Int)] (n ≤ 1000) (.o (.lst ((List.range n).map fun i : Nat => D.int (i : Int)))) := ⟨fun h => by
  show (if small62 (n : Int) = true then some (if true = true then EV.o (.lst (rgD 0 n)) else .v (.tup (rgD 0 n))) else none) = _
  rw [if_pos (show small62 (n : Int) = true from decide_eq_true (by omega)), if_pos rfl, rgD_nat]⟩
end Dt
end
section
set_option maxRecDepth 100000
set_option maxHeartbeats 4000000
/-! WK: e.replace(one sign, text). -/
namespace Dt
open PySem L2
section
variable {env : Sl} {X : ExD → Sl → Prop}
theorem wp_eRepl {Q : EV → Sl → Prop} {y z : List Nat} {fa : M AV} (h : wp fa env (fun a e => wpo (deref e a) fun d => wpo (replD y z d) fun r => Q r e) X) : wp (eRepl y z fa) env Q X := by
  unfold eRepl
  refine wp_bind (wp_mono h (fun a e q => ?_) fun _ _ q => q)
  unfold wp; try dsimp only
  cases w : deref e a with
  | none => rw [w] at q; exact q.elim
  | some d =>
    rw [w] at q
    dsimp only [Option.bind]
    exact wp_lift q
theorem wpo_replS {s y z : List Nat} {K : EV → Prop} (hl : s.length + (s.length + 1) * z.length ≤ 16777216) (k : K (.v (.str (replS s y z)))) : wpo (replD y z (.str s)) K := wpo_of (if_pos hl) k
end
/-- each c becomes z -/
def sub1 (c : Nat) (z l : List Nat) : List Nat := l.flatMap fun k => if k = c then z else [k]
theorem sub1_app (c : Nat) (z a b : List Nat) : sub1 c z (a ++ b) = sub1 c z a ++ sub1 c z b := List.flatMap_append
theorem sub1_free (c : Nat) (z : List Nat) : ∀ l : List Nat, c ∉ l → sub1 c z l = l
  | [], _ => rfl
  | k :: r, h => by
    have h1 : ¬ k = c := fun e => h (e ▸ List.mem_cons_self ..)
    have h2 : c ∉ r := fun m => h (List.mem_cons_of_mem _ m)
    have := sub1_free c z r h2
    unfold sub1 at this ⊢
    rw [List.flatMap_cons, if_neg h1, this]
    rfl
theorem sub1_one (c : Nat) (z : List Nat) : sub1 c z [c] = z := by simp [sub1]
theorem sub1_join (c : Nat) (z : Str) : ∀ parts : List Str, (∀ p ∈ parts, c ∉ p.cps.toList) → sub1 c z.cps.toList (Str.join ⟨#[c]⟩ parts).cps.toList = (Str.join z parts).cps.toList
  | [], _ => rfl
  | [p], h => sub1_free c _ _ (h p (List.mem_singleton.mpr rfl))
  | p :: q :: r, h => by
    have ih := sub1_join c z (q :: r) fun a ha => h a (List.mem_cons_of_mem _ ha)
    show sub1 c z.cps.toList (p ++ ⟨#[c]⟩ ++ Str.join ⟨#[c]⟩ (q :: r)).cps.toList = (p ++ z ++ Str.join z (q :: r)).cps.toList
    simp only [Str.cps_append, Array.toList_append]
    rw [sub1_app, sub1_app, ih, sub1_free c _ _ (h p (List.mem_cons_self ..))]
    show p.cps.toList ++ sub1 c z.cps.toList [c] ++ _ = _
    rw [sub1_one]
theorem replS_one (s : List Nat) (c : Nat) (z : List Nat) : replS s [c] z = sub1 c z s := by
  unfold replS
  show (Txt.replace (mkS s) ⟨#[c]⟩ (mkS z)).cps.toList = _
  rw [StrLaws.replace_one, ← sub1_join c (mkS z) _ (StrLaws.split_free (mkS s) c), StrLaws.join_split, mkS_cps, mkS_cps]
end Dt
end
section
set_option maxRecDepth 100000
set_option maxHeartbeats 4000000
/-! WL: several clauses, own +. -/
namespace Dt
open PySem L2
section
variable {env : Sl} {X : ExD → Sl → Prop} {N : Sl → Prop} {P : Ps}
end
end Dt
end
section
set_option maxRecDepth 100000
set_option maxHeartbeats 400000
/-! WM: x(lambda: ..) and list(f(..)) of generators that may raise. -/
namespace Dt
open PySem PySem.Spec L2
open PyProof.Rows hiding St
variable {X : ExD → Sl → Prop}
end Dt
end
section
set_option maxRecDepth 100000
set_option maxHeartbeats 400000
/-! WN: walks over generators. -/
namespace Dt
open PySem PySem.Spec L2
open PyProof.Rows hiding St
section
variable {X : ExD → Sl → Prop} {env : Sl} {N : Sl → Prop} {P : Ps} {Q : List D → Sl → Prop} {g : M (List D)} {fs : M (List AV)}
end
end Dt
end
section
set_option maxRecDepth 100000
set_option maxHeartbeats 4000000
/-! PV: votes, results, clashes: plain. -/
namespace Pm
/-- how many votes have yes at an issue -/
def cnt (vs : List (List Nat)) (i : Nat) : Nat := vs.countP fun v => v.getD i 0 == 49
def res (qs : List Int) (vs : List (List Nat)) : List Nat := (List.range qs.length).map fun i => if qs.getD i 0 ≤ (cnt vs i : Int) then 49 else 48
/-- votes put together: each row as often as there is room -/
def fill (n : Nat) : List (List Nat × Int) → List (List Nat) → List (List Nat)
  | [], acc => acc
  | (r, k) :: t, acc => fill n t (acc ++ List.replicate (min k ((n : Int) - acc.length)).toNat r)
def votes (n : Nat) (qs : List Int) (p : List Nat) (w : Nat → List Nat) : List (List Nat) := fill n ((ans p).map fun i => (w i, room n (qs.getD i 0) (p.getD i 0))) []
theorem le_tr {a b c : List Nat} (h1 : ¬ b < a) (h2 : ¬ c < b) : ¬ c < a := List.le_trans (show a ≤ b from h1) (show b ≤ c from h2)
end Pm
end
section
namespace Pg
open PySem Dt Pm
local macro_rules
  | `(tactic| array_get_dec) => `(tactic| first
    | ((with_reducible refine guard_E ?_); (first
      | (with_reducible refine wp_toA ?_)
      | ((with_reducible refine v_oName ?_); (refine ⟨_, rfl, ?_⟩))
      | ((with_reducible refine o_oName ?_); (refine ⟨_, rfl, ?_⟩))
      | (with_reducible refine wp_asCons ?_)
      | (with_reducible refine wp_asNil ?_)
      | (with_reducible refine wp_eC ?_)
      | (with_reducible refine wp_eOp ?_)
      | ((with_reducible refine v_opM ?_); (refine ⟨_, _, rfl, rfl, ?_⟩))
      | (with_reducible refine wp_eCall ?_)
      | ((with_reducible refine v_callM ?_ ?_); (focus (simp only [Dt.sidx]; decide)))
      | ((with_reducible refine v_eName ?_); (refine ⟨_, rfl, ?_⟩))
      | ((with_reducible refine o_eName ?_); (refine ⟨_, _, rfl, rfl, ?_⟩))
      | ((with_reducible refine r_eName ?_); (refine ⟨_, _, rfl, by assumption, ?_⟩))
      | (with_reducible refine wp_toB ?_)
      | (with_reducible refine wp_eTup ?_)
      | (with_reducible refine wp_eLst ?_)
      | (with_reducible refine wp_eB ?_)
      | (with_reducible refine v_bM ?_)
      | (with_reducible refine wp_eBM ?_)
      | ((with_reducible refine v_tyM ?_); (refine ⟨_, rfl, rfl, ?_⟩))
      | (with_reducible refine wp_bind ?_)
      | (with_reducible refine wp_ret ?_)
      | (with_reducible refine wp_eChain ?_)
      | (with_reducible refine wp_bAnd ?_)
      | (with_reducible refine wp_bOr ?_)
      | (with_reducible refine wp_bNot ?_)
      | (with_reducible refine wp_eAnd ?_)
      | (with_reducible refine wp_eOr ?_)
      | (with_reducible refine wp_eNot ?_)
      | (with_reducible refine wp_eIf ?_)
      | (with_reducible refine wp_iOf ?_)
      | (with_reducible refine wp_iRange1 ?_)
      | (with_reducible refine wp_iRange2 ?_)
      | (with_reducible refine wp_iEnum1 ?_)
      | (with_reducible refine wp_iZip2 ?_)
      | ((with_reducible refine wp_mutM ?_ ?_); (focus exact rfl))
      | (with_reducible refine wp_atV ?_)
      | ((with_reducible refine wp_grd ?_ ?_); (focus exact rfl))
      | ((with_reducible refine v_setLM ?_); (refine ⟨_, rfl, ?_⟩))
      | (with_reducible refine wp_eSlice ?_)
      | (with_reducible refine wp_pNo ?_)
      | (with_reducible refine wp_pYes ?_)
      | (with_reducible refine wp_eIsi ?_)
      | (with_reducible refine wp_eMaxD ?_)
      | (with_reducible refine wp_eNeg ?_)
      | (with_reducible refine wp_eDict0 ?_)
      | ((with_reducible refine v_disp1 ?_); (refine ⟨_, rfl, ?_⟩))
      | (with_reducible refine wp_eFld ?_)
      | ((with_reducible refine v_setFM ?_); (refine ⟨_, _, _, rfl, rfl, rfl, ?_⟩))
      | (with_reducible refine wp_eMeth ?_)
      | (with_reducible refine wp_eProp ?_)
      | (with_reducible refine wp_eOpM ?_)
      | (with_reducible refine wp_inO ?_)
      | (with_reducible refine wp_spO ?_)
      | (with_reducible refine wp_spO1 ?_)
      | (with_reducible refine wp_eCMeth ?_)
      | (with_reducible refine wp_eMake ?_)
      | (with_reducible refine wp_eMakeS ?_)
      | ((with_reducible refine wp_eMakeSL ?_ ?_); (focus exact rfl))
      | (with_reducible refine wp_eComp ?_)
      | (with_reducible refine wp_eComp2 ?_)
      | ((with_reducible refine v_funD ?_ ?_); (focus exact rfl); (apply fin_mk); (focus (first | (conv => lhs; simp only [List.set_cons_zero, List.set_cons_succ, slotOf, vI, vB, back, put1, isOwn, wipeE, List.take_succ_cons, List.take_zero, List.cons_append, List.nil_append, List.replicate_succ, List.replicate_zero, Nat.reduceSub, List.getElem?_cons_zero, List.getElem?_cons_succ, if_true, if_false, Bool.false_eq_true, List.set_nil]) | skip); (first | done | exact rfl)))))
    | ((with_reducible refine guard_O ?_); (first
      | (with_reducible refine wpo_frz_v ?_)
      | (with_reducible refine wpo_frz_I ?_)
      | (with_reducible refine wpo_frz_B ?_)
      | (with_reducible refine wpo_frz_l ?_)
      | (with_reducible refine wpo_frz_d ?_)
      | (with_reducible refine v_vals ?_)
      | (with_reducible refine wpo_it_l ?_)
      | (with_reducible refine wpo_it_t ?_)
      | ((with_reducible refine wpo_it_s ?_ ?_); (focus first | exact trivial | assumption | omega | (simp only [List.length_cons, List.length_nil, List.length_map]; omega) | (exact rfl)))
      | ((with_reducible refine v_objOf ?_); (refine ⟨_, rfl, ?_⟩))
      | ((with_reducible refine v_objIs ?_); (refine ⟨_, rfl, ?_⟩))
      | (with_reducible refine wpo_isi ?_)
      | ((with_reducible refine v_deref ?_); (refine ⟨_, rfl, ?_⟩))
      | ((with_reducible refine wpo_one ?_ ?_); (focus exact rfl))
      | ((with_reducible refine v_starD ?_); (refine ⟨_, rfl, ?_⟩))
      | (with_reducible refine wpo_ints ?_)
      | (with_reducible refine wpo_ints1 ?_)
      | (with_reducible refine wpo_ints0 ?_)
      | ((with_reducible refine v_ixS ?_ ?_); (focus first | exact trivial | assumption | omega | (simp only [List.length_cons, List.length_nil, List.length_map]; omega) | (exact rfl)))
      | (with_reducible refine v_ix ?_)
      | (with_reducible refine wpo_inSign ?_)
      | ((with_reducible refine wpo_op2 ?_ ?_); (focus first | exact trivial | assumption | omega | (simp only [List.length_cons, List.length_nil, List.length_map]; omega) | (exact rfl)))
      | ((with_reducible refine wpo_op1 ?_ ?_); (focus first | exact trivial | assumption | omega | (simp only [List.length_cons, List.length_nil, List.length_map]; omega) | (exact rfl)))
      | ((with_reducible refine wpo_slS ?_ ?_); (focus first | exact trivial | assumption | omega | (simp only [List.length_cons, List.length_nil, List.length_map]; omega) | (exact rfl)))
      | (with_reducible refine wpo_slL ?_)
      | (with_reducible refine wpo_slT ?_)
      | (with_reducible refine v_get ?_)
      | (with_reducible refine wpo_bind ?_)
      | (with_reducible refine wpo_map ?_)))
    | ((with_reducible refine guard_S ?_); (first
      | (with_reducible refine wps_seq ?_)
      | (with_reducible refine wps_set ?_)
      | (with_reducible refine wps_expr ?_)
      | (with_reducible refine wps_ret ?_)
      | (with_reducible refine wps_if ?_)
      | (with_reducible refine wps_for ?_)
      | (with_reducible refine wps_nil ?_)
      | (with_reducible refine wps_setL ?_)
      | (with_reducible refine wps_par ?_)
      | (with_reducible refine wps_par1 ?_)
      | (with_reducible refine wps_parC' ?_)
      | (with_reducible refine wps_parN ?_)
      | ((with_reducible refine v_retV ?_); (refine ⟨_, rfl, ?_⟩))
      | ((with_reducible refine o_retV ?_); (refine ⟨_, rfl, rfl, ?_⟩))
      | ((with_reducible refine p_retV ?_); (refine ⟨_, _, rfl, rfl, rfl, ?_⟩))
      | (with_reducible refine wps_retN ?_)
      | (with_reducible refine wps_raise ?_)
      | (with_reducible refine wps_break ?_)
      | (with_reducible refine wps_cont ?_)
      | (with_reducible refine wps_try ?_)
      | (with_reducible refine wps_setF ?_)
      | (with_reducible refine wps_setD ?_)
      | (with_reducible refine wps_asg ?_)))
    | ((with_reducible refine fin_g ?_); (apply fin_mk); (focus (first | (conv => lhs; simp only [List.set_cons_zero, List.set_cons_succ, slotOf, vI, vB, back, put1, isOwn, wipeE, List.take_succ_cons, List.take_zero, List.cons_append, List.nil_append, List.replicate_succ, List.replicate_zero, Nat.reduceSub, List.getElem?_cons_zero, List.getElem?_cons_succ, if_true, if_false, Bool.false_eq_true, List.set_nil]) | skip); (first | done | exact rfl)))
    | (with_reducible refine rt_mk ?_)
    | (with_reducible refine bk_mk ?_)
    | (with_reducible refine ct_mk ?_)
    | (with_reducible refine ex_mk ?_)
    | (with_reducible refine der_nil ?_)
    | (with_reducible refine der_v ?_)
    | ((with_reducible refine der_s ?_); (refine ⟨_, rfl, ?_⟩))
    | (with_reducible refine val_nil ?_)
    | (with_reducible refine val_v ?_)
    | (with_reducible refine arg_nil ?_)
    | (with_reducible refine arg_v ?_)
    | ((with_reducible refine arg_s ?_); (refine ⟨_, rfl, ?_⟩))
    | ((with_reducible refine v_append ?_); (refine ⟨_, rfl, ?_, ?_⟩); (focus first | exact trivial | assumption | omega | (simp only [List.length_cons, List.length_nil, List.length_map]; omega) | (exact rfl)))
    | ((with_reducible refine v_extend ?_); (refine ⟨_, rfl, ?_, ?_⟩); (focus first | exact trivial | assumption | omega | (simp only [List.length_cons, List.length_nil, List.length_map]; omega) | (exact rfl)))
    | ((with_reducible refine v_pop ?_); (refine ⟨_, rfl, ?_, ?_⟩); (focus first | exact trivial | assumption | omega | (simp only [List.length_cons, List.length_nil, List.length_map]; omega) | (exact rfl)))
    | ((with_reducible refine v_pop0 ?_); (refine ⟨_, rfl, ?_⟩))
    | (with_reducible refine isbl ?_)
    | (with_reducible refine isbl2 ?_)
    | (with_reducible refine isV ?_)
    | (with_reducible refine isI ?_)
    | (with_reducible refine is1v ?_)
    | (with_reducible refine is2v ?_)
    | (with_reducible refine is3 ?_)
    | (with_reducible refine isTI ?_)
    | (with_reducible refine is1i ?_)
    | (with_reducible refine is2i ?_)
    | (with_reducible refine isCons ?_)
    | (with_reducible refine cond_not ?_)
    | (with_reducible refine cond_t ?_)
    | (with_reducible refine cond_f ?_)
    | ((with_reducible refine ixg_mk ?_); (refine ⟨_, rfl, ?_⟩))
    | ((with_reducible refine ixg_neg ?_ ?_); (focus first | exact trivial | assumption | omega | (simp only [List.length_cons, List.length_nil, List.length_map]; omega) | (exact rfl)))
    | ((with_reducible refine ixg_nat ?_ ?_); (focus first | exact trivial | assumption | omega | (simp only [List.length_cons, List.length_nil, List.length_map]; omega) | (exact rfl)))
    | ((with_reducible refine ixg_of ?_ ?_); (focus first | exact trivial | assumption | omega | (simp only [List.length_cons, List.length_nil, List.length_map]; omega) | (exact rfl)))
    | ((with_reducible refine get_mk ?_); (refine ⟨_, rfl, ?_⟩))
    | ((with_reducible refine get_mapE ?_); (refine ⟨_, by assumption, ?_⟩))
    | ((with_reducible refine get_mapI ?_ ?_); (focus first | exact trivial | assumption | omega | (simp only [List.length_cons, List.length_nil, List.length_map]; omega) | (exact rfl)))
    | ((with_reducible refine get_mapS ?_ ?_); (focus first | exact trivial | assumption | omega | (simp only [List.length_cons, List.length_nil, List.length_map]; omega) | (exact rfl)))
    | ((with_reducible refine get_c ?_ ?_); (focus first | exact trivial | assumption | omega | (simp only [List.length_cons, List.length_nil, List.length_map]; omega) | (exact rfl)))
    | ((with_reducible refine get_map ?_ ?_); (focus first | exact trivial | assumption | omega | (simp only [List.length_cons, List.length_nil, List.length_map]; omega) | (exact rfl)))
    | ((with_reducible refine le_and ?_ ?_); (focus first | exact trivial | assumption | omega | (simp only [List.length_cons, List.length_nil, List.length_map]; omega) | (exact rfl)))
    | ((with_reducible refine rg1_and ?_ ?_); (focus first | exact trivial | assumption | omega | (simp only [List.length_cons, List.length_nil, List.length_map]; omega) | (exact rfl)))
    | ((with_reducible refine rg2_and ?_ ?_); (focus first | exact trivial | assumption | omega | (simp only [List.length_cons, List.length_nil, List.length_map]; omega) | (exact rfl)))
    | (with_reducible refine eq_and ?_)
    | (with_reducible refine wpB_two ?_)
    | (with_reducible refine wpB_one ?_)
    | (with_reducible refine wpG_nil ?_)
    | (with_reducible refine wpG_cons ?_)
    | (with_reducible refine wpG_mnil ?_)
    | (with_reducible refine wpG_mcons ?_)
    | (with_reducible refine tgt_gN ?_)
    | (with_reducible refine tgt_gT2 ?_)
    | (with_reducible refine tgt_gT3 ?_))
local macro_rules
  | `(tactic| sizeOf_list_dec) => `(tactic| repeat array_get_dec)

section
set_option maxRecDepth 100000
set_option maxHeartbeats 4000000
/-! DA: the laws' draws. -/
open PySem Dt
/-- a source of numbers -/
def Src (s : List D) : Prop := ∃ a b c : Int, s = [.int a, .int b, .int c]
variable {X : ExD → Sl → Prop}
theorem source_wp {c : Int} {Q : EV → Sl → Prop} (k : ∀ s, Src s → Q (.o (.lst s)) [.val (.int c)]) : wp sem__law_source [.val (.int c)] Q X := by
  unfold sem__law_source bd__law_source
  sizeOf_list_dec
  exact k _ ⟨_, _, _, rfl⟩
theorem draw_wp {s : List D} {m : Int} {Q : EV → Sl → Prop} (hs : Src s) (h1 : 0 < m) (h2 : m < 1000000) (k : ∀ r s', Src s' → 0 ≤ r → r < m → Q (.v (.int r)) [.own (.lst s'), .val (.int m)]) : wp sem__law_draw [.own (.lst s), .val (.int m)] Q X := by
  obtain ⟨a, b, c, rfl⟩ := hs
  unfold sem__law_draw bd__law_draw
  sizeOf_list_dec
  refine cond_d (fun h => ?_) (fun h => ?_)
  · sizeOf_list_dec
    exact k _ _ ⟨_, _, _, rfl⟩ (Int.emod_nonneg _ (by omega)) (Int.emod_lt_of_pos _ h1)
  · sizeOf_list_dec
    exact k _ _ ⟨_, _, _, rfl⟩ (Int.emod_nonneg _ (by omega)) (Int.emod_lt_of_pos _ h1)
theorem cell_wp {ns : List Int} {i : Nat} {Q : EV → Sl → Prop} (k : ∀ c : Int, Q (.v (.int c)) [.val (.scr ns), .val (.int i)]) : wp sem__law_cell [.val (.scr ns), .val (.int i)] Q X := by
  unfold sem__law_cell bd__law_cell
  sizeOf_list_dec
  refine cond_d (fun h => ?_) (fun h => ?_)
  · sizeOf_list_dec
    exact k _
  · sizeOf_list_dec
    exact k _
theorem choose_wp {α : Type} {inj : α → D} {l : List α} {s : List D} {Q : EV → Sl → Prop} (hs : Src s) (h0 : 0 < l.length) (h1 : l.length < 1000000) {sl : Dt.Slot} (hl : sl = .val (.lst (l.map inj)) ∨ sl = .own (.lst (l.map inj)))
    (k : ∀ a s', a ∈ l → Src s' → Q (.v (inj a)) [.own (.lst s'), sl]) : wp sem__law_choose [.own (.lst s), sl] Q X := by
  unfold sem__law_choose bd__law_choose
  rcases hl with rfl | rfl
  · sizeOf_list_dec
    refine draw_wp hs (by simpa using h0) (by simp; omega) fun r s' hs' h2 h3 => ?_
    sizeOf_list_dec
    refine get_map (by rw [List.length_map] at h3; omega) ?_
    sizeOf_list_dec
    exact k _ _ (List.getElem_mem _) hs'
  · sizeOf_list_dec
    refine draw_wp hs (by simpa using h0) (by simp; omega) fun r s' hs' h2 h3 => ?_
    sizeOf_list_dec
    refine get_map (by rw [List.length_map] at h3; omega) ?_
    sizeOf_list_dec
    exact k _ _ (List.getElem_mem _) hs'
/-- all texts of n answers, ascending -/
def dbl : List (List Nat) → List (List Nat)
  | [] => []
  | r :: l => (r ++ [48]) :: (r ++ [49]) :: dbl l
def allR : Nat → List (List Nat)
  | 0 => [[]]
  | n + 1 => dbl (allR n)
theorem dbl_app : ∀ (l m : List (List Nat)), dbl (l ++ m) = dbl l ++ dbl m
  | [], m => rfl
  | r :: l, m => by simp [dbl, dbl_app l m]
theorem len_dbl : ∀ (l : List (List Nat)), (dbl l).length = 2 * l.length
  | [] => rfl
  | r :: l => by simp [dbl, len_dbl l]; omega
theorem mem_dbl {x : List Nat} : ∀ {l : List (List Nat)}, x ∈ dbl l ↔ ∃ r ∈ l, x = r ++ [48] ∨ x = r ++ [49]
  | [] => by simp [dbl]
  | r :: l => by simp [dbl, mem_dbl (l := l), or_assoc]
theorem len_allR : ∀ n, (allR n).length = 2 ^ n
  | 0 => rfl
  | n + 1 => by rw [allR, len_dbl, len_allR n, Nat.pow_succ]; omega
theorem mem_allR {r : List Nat} : ∀ {n}, r ∈ allR n ↔ r.length = n ∧ ∀ c ∈ r, c = 48 ∨ c = 49
  | 0 => by simp [allR]; rintro rfl; simp
  | n + 1 => by
    simp only [allR, mem_dbl, mem_allR (n := n)]
    constructor
    · rintro ⟨s, ⟨h1, h2⟩, rfl | rfl⟩
      · exact ⟨by simp [h1], fun c hc => (List.mem_append.mp hc).elim (h2 c) fun q => .inl (by simpa using q)⟩
      · exact ⟨by simp [h1], fun c hc => (List.mem_append.mp hc).elim (h2 c) fun q => .inr (by simpa using q)⟩
    · rintro ⟨h1, h2⟩
      have hne : r ≠ [] := by rintro rfl; simp at h1
      refine ⟨r.dropLast, ⟨by simp [h1], fun c hc => h2 c (List.dropLast_subset _ hc)⟩, ?_⟩
      have := h2 _ (List.getLast_mem hne)
      have e := List.dropLast_concat_getLast hne
      rcases this with q | q
      · exact .inl (by rw [q] at e; exact e.symm)
      · exact .inr (by rw [q] at e; exact e.symm)
theorem nodup_dbl : ∀ {l : List (List Nat)}, l.Nodup → (dbl l).Nodup
  | [], _ => List.nodup_nil
  | r :: l, h => by
    obtain ⟨h1, h2⟩ := List.nodup_cons.mp h
    refine List.nodup_cons.mpr ⟨?_, List.nodup_cons.mpr ⟨?_, nodup_dbl h2⟩⟩
    · simp only [List.mem_cons, mem_dbl, not_or]
      refine ⟨by simp, ?_⟩
      rintro ⟨s, hs, q | q⟩
      · exact h1 ((List.append_inj_left' q rfl) ▸ hs)
      · simp at q
    · simp only [mem_dbl]
      rintro ⟨s, hs, q | q⟩
      · simp at q
      · exact h1 ((List.append_inj_left' q rfl) ▸ hs)
theorem nodup_allR : ∀ n, (allR n).Nodup
  | 0 => by simp [allR]
  | n + 1 => nodup_dbl (nodup_allR n)
theorem allR_le {n : Nat} (hn : n ≤ 6) : (allR n).length ≤ 64 := by rw [len_allR]; exact Nat.pow_le_pow_right (by omega) hn
theorem all_wp {n : Nat} {Q : EV → Sl → Prop} (h0 : 1 ≤ n) (hn : n ≤ 6) (k : Q (.v (.lst (strL (allR n)))) [.val (.int n)]) : wp sem__law_all [.val (.int n)] Q X := by
  unfold sem__law_all bd__law_all
  sizeOf_list_dec
  refine wps_forN (fun j e => ∃ sl x y z, (sl = .val (.lst (strL (allR j))) ∨ (j = 0 ∧ sl = .own (.lst (strL (allR j))))) ∧ e = [.val (.int n), sl, x, y, z]) ⟨_, _, _, _, .inr ⟨rfl, rfl⟩, rfl⟩ (fun j e hj ⟨sl, x, y, z, hs, he⟩ => ?_) (fun e ⟨sl, x, y, z, hs, he⟩ => ?_)
  · subst he
    have hr : Rds sl (.lst (strL (allR j))) := hs.elim .inl fun h => h.2 ▸ .l _
    have hl := allR_le (n := j) (by omega)
    sizeOf_list_dec
    unfold lp__law_all_1
    sizeOf_list_dec
    refine wps_forI (fun pre e => ∃ z, e = [.val (.int n), .val (.lst (strL (allR j))), .val (.int j), .own (.lst (strL (dbl pre))), z]) ⟨_, rfl⟩ (fun pre a post hp e ⟨z, he⟩ => ?_) (fun e ⟨z, he⟩ => ?_)
    · subst he
      have ha := (mem_allR.mp (show a ∈ allR j by rw [hp]; simp)).1
      have hl2 : pre.length + 1 ≤ (allR j).length := by rw [hp]; simp
      have hl3 := len_dbl pre
      sizeOf_list_dec
      unfold lp__law_all_0
      sizeOf_list_dec
      simp only [strL, dbl_app, List.map_append]
      exact ⟨_, rfl⟩
    · subst he
      sizeOf_list_dec
      exact ⟨_, _, _, _, .inl rfl, rfl⟩
  · subst he
    rcases hs with rfl | ⟨h, _⟩
    · sizeOf_list_dec
      exact k
    · omega
/-- what the laws' boards have: rows of n answers, each once -/
structure Rows (n : Nat) (l : List (List Nat)) : Prop where
  n1 : 1 ≤ n
  n6 : n ≤ 6
  ne : l ≠ []
  sub : l.Sublist (allR n)
theorem Rows.len {n : Nat} {l : List (List Nat)} (h : Rows n l) : l.length ≤ 64 := Nat.le_trans h.sub.length_le (allR_le h.n6)
theorem Rows.mem {n : Nat} {l : List (List Nat)} (h : Rows n l) {r : List Nat} (hr : r ∈ l) : r.length = n ∧ ∀ c ∈ r, c = 48 ∨ c = 49 := mem_allR.mp (h.sub.subset hr)
theorem Rows.nodup {n : Nat} {l : List (List Nat)} (h : Rows n l) : l.Nodup := h.sub.nodup (nodup_allR n)
theorem zeros_mem (n : Nat) : List.replicate n 48 ∈ allR n := mem_allR.mpr ⟨by simp, fun c hc => .inl (List.eq_of_mem_replicate hc)⟩
theorem ones_mem (n : Nat) : List.replicate n 49 ∈ allR n := mem_allR.mpr ⟨by simp, fun c hc => .inr (List.eq_of_mem_replicate hc)⟩
theorem allR_ne {m : Nat} : allR m ≠ [] := fun e => by have := zeros_mem m; rw [e] at this; cases this
end
end Pg
end
section
namespace Pg
open PySem Dt Pm
local macro_rules
  | `(tactic| array_get_dec) => `(tactic| first
    | ((with_reducible refine guard_E ?_); (first
      | (with_reducible refine wp_toA ?_)
      | ((with_reducible refine v_oName ?_); (refine ⟨_, rfl, ?_⟩))
      | ((with_reducible refine o_oName ?_); (refine ⟨_, rfl, ?_⟩))
      | (with_reducible refine wp_asCons ?_)
      | (with_reducible refine wp_asNil ?_)
      | (with_reducible refine wp_eC ?_)
      | (with_reducible refine wp_eOp ?_)
      | ((with_reducible refine v_opM ?_); (refine ⟨_, _, rfl, rfl, ?_⟩))
      | (with_reducible refine wp_eCall ?_)
      | ((with_reducible refine v_callM ?_ ?_); (focus (simp only [Dt.sidx]; decide)))
      | ((with_reducible refine v_eName ?_); (refine ⟨_, rfl, ?_⟩))
      | ((with_reducible refine o_eName ?_); (refine ⟨_, _, rfl, rfl, ?_⟩))
      | ((with_reducible refine r_eName ?_); (refine ⟨_, _, rfl, by assumption, ?_⟩))
      | (with_reducible refine wp_toB ?_)
      | (with_reducible refine wp_eTup ?_)
      | (with_reducible refine wp_eLst ?_)
      | (with_reducible refine wp_eB ?_)
      | (with_reducible refine v_bM ?_)
      | (with_reducible refine wp_eBM ?_)
      | ((with_reducible refine v_tyM ?_); (refine ⟨_, rfl, rfl, ?_⟩))
      | (with_reducible refine wp_bind ?_)
      | (with_reducible refine wp_ret ?_)
      | (with_reducible refine wp_eChain ?_)
      | (with_reducible refine wp_bAnd ?_)
      | (with_reducible refine wp_bOr ?_)
      | (with_reducible refine wp_bNot ?_)
      | (with_reducible refine wp_eAnd ?_)
      | (with_reducible refine wp_eOr ?_)
      | (with_reducible refine wp_eNot ?_)
      | (with_reducible refine wp_eIf ?_)
      | (with_reducible refine wp_iOf ?_)
      | (with_reducible refine wp_iRange1 ?_)
      | (with_reducible refine wp_iRange2 ?_)
      | (with_reducible refine wp_iEnum1 ?_)
      | (with_reducible refine wp_iZip2 ?_)
      | ((with_reducible refine wp_mutM ?_ ?_); (focus exact rfl))
      | (with_reducible refine wp_atV ?_)
      | ((with_reducible refine wp_grd ?_ ?_); (focus exact rfl))
      | ((with_reducible refine v_setLM ?_); (refine ⟨_, rfl, ?_⟩))
      | (with_reducible refine wp_eSlice ?_)
      | (with_reducible refine wp_pNo ?_)
      | (with_reducible refine wp_pYes ?_)
      | (with_reducible refine wp_eIsi ?_)
      | (with_reducible refine wp_eMaxD ?_)
      | (with_reducible refine wp_eNeg ?_)
      | (with_reducible refine wp_eDict0 ?_)
      | ((with_reducible refine v_disp1 ?_); (refine ⟨_, rfl, ?_⟩))
      | (with_reducible refine wp_eFld ?_)
      | ((with_reducible refine v_setFM ?_); (refine ⟨_, _, _, rfl, rfl, rfl, ?_⟩))
      | (with_reducible refine wp_eMeth ?_)
      | (with_reducible refine wp_eProp ?_)
      | (with_reducible refine wp_eOpM ?_)
      | (with_reducible refine wp_inO ?_)
      | (with_reducible refine wp_spO ?_)
      | (with_reducible refine wp_spO1 ?_)
      | (with_reducible refine wp_eCMeth ?_)
      | (with_reducible refine wp_eMake ?_)
      | (with_reducible refine wp_eMakeS ?_)
      | ((with_reducible refine wp_eMakeSL ?_ ?_); (focus exact rfl))
      | (with_reducible refine wp_eComp ?_)
      | (with_reducible refine wp_eComp2 ?_)
      | ((with_reducible refine v_funD ?_ ?_); (focus exact rfl); (with_reducible apply fin_mk); (focus (first | (conv => lhs; simp only [List.set_cons_zero, List.set_cons_succ, slotOf, vI, vB, back, put1, isOwn, wipeE, List.take_succ_cons, List.take_zero, List.cons_append, List.nil_append, List.replicate_succ, List.replicate_zero, Nat.reduceSub, List.getElem?_cons_zero, List.getElem?_cons_succ, if_true, if_false, Bool.false_eq_true, List.set_nil]) | skip); (first | done | exact rfl)))))
    | ((with_reducible refine guard_O ?_); (first
      | (with_reducible refine wpo_frz_v ?_)
      | (with_reducible refine wpo_frz_I ?_)
      | (with_reducible refine wpo_frz_B ?_)
      | (with_reducible refine wpo_frz_l ?_)
      | (with_reducible refine wpo_frz_d ?_)
      | (with_reducible refine v_vals ?_)
      | (with_reducible refine wpo_it_l ?_)
      | (with_reducible refine wpo_it_t ?_)
      | ((with_reducible refine wpo_it_s ?_ ?_); (focus first | exact trivial | assumption | omega | (simp only [List.length_cons, List.length_nil, List.length_map]; omega) | (exact rfl)))
      | ((with_reducible refine v_objOf ?_); (refine ⟨_, rfl, ?_⟩))
      | ((with_reducible refine v_objIs ?_); (refine ⟨_, rfl, ?_⟩))
      | (with_reducible refine wpo_isi ?_)
      | ((with_reducible refine v_deref ?_); (refine ⟨_, rfl, ?_⟩))
      | ((with_reducible refine wpo_one ?_ ?_); (focus exact rfl))
      | ((with_reducible refine v_starD ?_); (refine ⟨_, rfl, ?_⟩))
      | (with_reducible refine wpo_ints ?_)
      | (with_reducible refine wpo_ints1 ?_)
      | (with_reducible refine wpo_ints0 ?_)
      | ((with_reducible refine v_ixS ?_ ?_); (focus first | exact trivial | assumption | omega | (simp only [List.length_cons, List.length_nil, List.length_map]; omega) | (exact rfl)))
      | (with_reducible refine v_ix ?_)
      | (with_reducible refine wpo_inSign ?_)
      | ((with_reducible refine wpo_op2 ?_ ?_); (focus first | exact trivial | assumption | omega | (simp only [List.length_cons, List.length_nil, List.length_map]; omega) | (exact rfl)))
      | ((with_reducible refine wpo_op1 ?_ ?_); (focus first | exact trivial | assumption | omega | (simp only [List.length_cons, List.length_nil, List.length_map]; omega) | (exact rfl)))
      | ((with_reducible refine wpo_slS ?_ ?_); (focus first | exact trivial | assumption | omega | (simp only [List.length_cons, List.length_nil, List.length_map]; omega) | (exact rfl)))
      | (with_reducible refine wpo_slL ?_)
      | (with_reducible refine wpo_slT ?_)
      | (with_reducible refine v_get ?_)
      | (with_reducible refine wpo_bind ?_)
      | (with_reducible refine wpo_map ?_)))
    | ((with_reducible refine guard_S ?_); (first
      | (with_reducible refine wps_seq ?_)
      | (with_reducible refine wps_set ?_)
      | (with_reducible refine wps_expr ?_)
      | (with_reducible refine wps_ret ?_)
      | (with_reducible refine wps_if ?_)
      | (with_reducible refine wps_for ?_)
      | (with_reducible refine wps_nil ?_)
      | (with_reducible refine wps_setL ?_)
      | (with_reducible refine wps_par ?_)
      | (with_reducible refine wps_par1 ?_)
      | (with_reducible refine wps_parC' ?_)
      | (with_reducible refine wps_parN ?_)
      | ((with_reducible refine v_retV ?_); (refine ⟨_, rfl, ?_⟩))
      | ((with_reducible refine o_retV ?_); (refine ⟨_, rfl, rfl, ?_⟩))
      | ((with_reducible refine p_retV ?_); (refine ⟨_, _, rfl, rfl, rfl, ?_⟩))
      | (with_reducible refine wps_retN ?_)
      | (with_reducible refine wps_raise ?_)
      | (with_reducible refine wps_break ?_)
      | (with_reducible refine wps_cont ?_)
      | (with_reducible refine wps_try ?_)
      | (with_reducible refine wps_setF ?_)
      | (with_reducible refine wps_setD ?_)
      | (with_reducible refine wps_asg ?_)))
    | ((with_reducible refine fin_g ?_); (with_reducible apply fin_mk); (focus (first | (conv => lhs; simp only [List.set_cons_zero, List.set_cons_succ, slotOf, vI, vB, back, put1, isOwn, wipeE, List.take_succ_cons, List.take_zero, List.cons_append, List.nil_append, List.replicate_succ, List.replicate_zero, Nat.reduceSub, List.getElem?_cons_zero, List.getElem?_cons_succ, if_true, if_false, Bool.false_eq_true, List.set_nil]) | skip); (first | done | exact rfl)))
    | (with_reducible refine rt_mk ?_)
    | (with_reducible refine bk_mk ?_)
    | (with_reducible refine ct_mk ?_)
    | (with_reducible refine ex_mk ?_)
    | (with_reducible refine der_nil ?_)
    | (with_reducible refine der_v ?_)
    | ((with_reducible refine der_s ?_); (refine ⟨_, rfl, ?_⟩))
    | (with_reducible refine val_nil ?_)
    | (with_reducible refine val_v ?_)
    | (with_reducible refine arg_nil ?_)
    | (with_reducible refine arg_v ?_)
    | ((with_reducible refine arg_s ?_); (refine ⟨_, rfl, ?_⟩))
    | ((with_reducible refine v_append ?_); (refine ⟨_, rfl, ?_, ?_⟩); (focus first | exact trivial | assumption | omega | (simp only [List.length_cons, List.length_nil, List.length_map]; omega) | (exact rfl)))
    | ((with_reducible refine v_extend ?_); (refine ⟨_, rfl, ?_, ?_⟩); (focus first | exact trivial | assumption | omega | (simp only [List.length_cons, List.length_nil, List.length_map]; omega) | (exact rfl)))
    | ((with_reducible refine v_pop ?_); (refine ⟨_, rfl, ?_, ?_⟩); (focus first | exact trivial | assumption | omega | (simp only [List.length_cons, List.length_nil, List.length_map]; omega) | (exact rfl)))
    | ((with_reducible refine v_pop0 ?_); (refine ⟨_, rfl, ?_⟩))
    | (with_reducible refine isbl ?_)
    | (with_reducible refine isbl2 ?_)
    | (with_reducible refine isV ?_)
    | (with_reducible refine isI ?_)
    | (with_reducible refine is1v ?_)
    | (with_reducible refine is2v ?_)
    | (with_reducible refine is3 ?_)
    | (with_reducible refine isTI ?_)
    | (with_reducible refine is1i ?_)
    | (with_reducible refine is2i ?_)
    | (with_reducible refine isCons ?_)
    | (with_reducible refine cond_not ?_)
    | (with_reducible refine cond_t ?_)
    | (with_reducible refine cond_f ?_)
    | ((with_reducible refine ixg_mk ?_); (refine ⟨_, rfl, ?_⟩))
    | ((with_reducible refine ixg_neg ?_ ?_); (focus first | exact trivial | assumption | omega | (simp only [List.length_cons, List.length_nil, List.length_map]; omega) | (exact rfl)))
    | ((with_reducible refine ixg_nat ?_ ?_); (focus first | exact trivial | assumption | omega | (simp only [List.length_cons, List.length_nil, List.length_map]; omega) | (exact rfl)))
    | ((with_reducible refine ixg_of ?_ ?_); (focus first | exact trivial | assumption | omega | (simp only [List.length_cons, List.length_nil, List.length_map]; omega) | (exact rfl)))
    | ((with_reducible refine get_mk ?_); (refine ⟨_, rfl, ?_⟩))
    | ((with_reducible refine get_mapE ?_); (refine ⟨_, by assumption, ?_⟩))
    | ((with_reducible refine get_mapI ?_ ?_); (focus first | exact trivial | assumption | omega | (simp only [List.length_cons, List.length_nil, List.length_map]; omega) | (exact rfl)))
    | ((with_reducible refine get_mapS ?_ ?_); (focus first | exact trivial | assumption | omega | (simp only [List.length_cons, List.length_nil, List.length_map]; omega) | (exact rfl)))
    | ((with_reducible refine get_c ?_ ?_); (focus first | exact trivial | assumption | omega | (simp only [List.length_cons, List.length_nil, List.length_map]; omega) | (exact rfl)))
    | ((with_reducible refine get_map ?_ ?_); (focus first | exact trivial | assumption | omega | (simp only [List.length_cons, List.length_nil, List.length_map]; omega) | (exact rfl)))
    | ((with_reducible refine le_and ?_ ?_); (focus first | exact trivial | assumption | omega | (simp only [List.length_cons, List.length_nil, List.length_map]; omega) | (exact rfl)))
    | ((with_reducible refine rg1_and ?_ ?_); (focus first | exact trivial | assumption | omega | (simp only [List.length_cons, List.length_nil, List.length_map]; omega) | (exact rfl)))
    | ((with_reducible refine rg2_and ?_ ?_); (focus first | exact trivial | assumption | omega | (simp only [List.length_cons, List.length_nil, List.length_map]; omega) | (exact rfl)))
    | (with_reducible refine eq_and ?_)
    | (with_reducible refine wpB_two ?_)
    | (with_reducible refine wpB_one ?_)
    | (with_reducible refine wpG_nil ?_)
    | (with_reducible refine wpG_cons ?_)
    | (with_reducible refine wpG_mnil ?_)
    | (with_reducible refine wpG_mcons ?_)
    | (with_reducible refine tgt_gN ?_)
    | (with_reducible refine tgt_gT2 ?_)
    | (with_reducible refine tgt_gT3 ?_))
local macro_rules
  | `(tactic| sizeOf_list_dec) => `(tactic| repeat array_get_dec)

section
set_option maxRecDepth 100000
set_option maxHeartbeats 4000000
/-! DB: boards, clashes, loads. -/
open PySem Dt Pm
variable {X : ExD → Sl → Prop}
theorem is_answers_wp {m : Nat} {r : List Nat} {Q : EV → Sl → Prop} (h : r.length = m) (hm : m ≤ 6) (hc : ∀ c ∈ r, c = 48 ∨ c = 49) (k : Q (.v (.bl true)) [.val (.str r), .val (.int m)]) : wp sem_is_answers [.val (.str r), .val (.int m)] Q X := by
  unfold sem_is_answers bd_is_answers
  sizeOf_list_dec
  refine ⟨fun h1 => ?_, fun h1 => by simp [h] at h1⟩
  sizeOf_list_dec
  refine wpc_map (fun c => .bl (decide (c ∈ [48, 49]))) (fun c hc => ?_) ?_
  · sizeOf_list_dec
    unfold lp_is_answers_0
    sizeOf_list_dec
    exact ⟨rfl, rfl⟩
  · sizeOf_list_dec
    have : (r.all fun c => decide (c ∈ [48, 49])) = true := List.all_eq_true.mpr fun c h => decide_eq_true (by have := hc c h; simp; exact this)
    rw [this]
    exact k
/-- different rows of equal length -/
structure Good (n : Nat) (l : List (List Nat)) : Prop where
  n1 : 1 ≤ n
  n6 : n ≤ 6
  ne : l ≠ []
  sz : l.length ≤ 64
  nd : l.Nodup
  row : ∀ r ∈ l, r.length = n ∧ ∀ c ∈ r, c = 48 ∨ c = 49
theorem Rows.good {n : Nat} {l : List (List Nat)} (h : Rows n l) : Good n l := ⟨h.n1, h.n6, h.ne, h.len, h.nodup, fun r hr => h.mem hr⟩
theorem Good.ok {n : Nat} {l : List (List Nat)} (h : Good n l) : StrsOk 6 l := fun r hr => ⟨by have := (h.row r hr).1; have := h.n6; omega, fun c hc => by rcases (h.row r hr).2 c hc with e | e <;> omega⟩
theorem are_rows_wp {n : Nat} {l : List (List Nat)} {sl : Dt.Slot} {Q : EV → Sl → Prop} (h : Good n l) (hs : sl = .val (.tup (strL l)) ∨ sl = .own (.lst (strL l))) (k : ∀ sl', sl' = sl ∨ sl' = .val (.lst (strL l)) → Q (.v (.bl true)) [sl']) : wp sem_are_rows [sl] Q X := by
  unfold sem_are_rows bd_are_rows
  obtain ⟨r, l', e⟩ := List.exists_cons_of_ne_nil h.ne
  have hr := (h.row r (by rw [e]; simp)).1
  have hl : 0 < l.length := by rw [e]; simp
  have hn1 := h.n1
  have hn6 := h.n6
  have hsz := h.sz
  have h0 : l[(0 : Int).toNat]? = some r := by rw [e]; rfl
  have hi : ((l.length : Int) == 0) = false := beq_eq_false_iff_ne.mpr (by omega)
  have hmet := met_nodup h.nd
  have hrb : r.length ≤ 1000000 := by omega
  have tst : ∀ (sl : Dt.Slot) (d : D), (sl = .val d ∨ ∃ c, sl = .own c ∧ frzC c = some d) → (d = .tup (strL l) ∨ d = .lst (strL l)) → ∀ a ∈ l, wp lp_are_rows_0 [sl, .val (.str a)] (fun v e3 => frz v = some (.bl true) ∧ wipeE e3 [1] = [sl, .emp]) NoX := by
    intro sl d hs hd a ha
    have har := h.row a ha
    unfold lp_are_rows_0
    rcases hs with rfl | ⟨c, rfl, hc⟩ <;> rcases hd with rfl | rfl
    · sizeOf_list_dec
      refine is_answers_wp (by omega) (by omega) har.2 ?_
      sizeOf_list_dec
      exact ⟨rfl, rfl⟩
    · sizeOf_list_dec
      refine is_answers_wp (by omega) (by omega) har.2 ?_
      sizeOf_list_dec
      exact ⟨rfl, rfl⟩
    · cases c <;> cases hc
    · cases c with
      | lst ds =>
        cases hc
        sizeOf_list_dec
        refine is_answers_wp (by omega) (by omega) har.2 ?_
        sizeOf_list_dec
        exact ⟨rfl, rfl⟩
      | dic a b => cases hc
      | ins a b => cases hc
  have len0 : (strL l).length = l.length := by simp [strL]
  rcases hs with rfl | rfl
  · sizeOf_list_dec
    refine cond_eq (fun q => absurd q (by rw [len0]; omega)) (fun _ => ?_)
    sizeOf_list_dec
    refine cond_d (fun q => ?_) (fun q => absurd q (by omega))
    sizeOf_list_dec
    refine cond_d (fun q => ?_) (fun q => absurd q (by omega))
    sizeOf_list_dec
    refine wpc_map (fun _ => .bl true) (fun a ha => tgt_gN ?_) ?_
    · sizeOf_list_dec
      exact tst _ _ (.inl rfl) (.inl rfl) a ha
    · sizeOf_list_dec
      refine cond_b (fun q => ?_) (fun q => absurd q (by simp))
      sizeOf_list_dec
      refine wpo_lenSet (f := fun a => a) (l := l) rfl (by omega) ?_
      sizeOf_list_dec
      rw [List.map_id', hmet, len0, beq_self_eq_true]
      exact k _ (.inl rfl)
  · sizeOf_list_dec
    refine cond_no (beq_eq_false_iff_ne.mpr (by rw [len0]; omega)) ?_
    sizeOf_list_dec
    refine cond_yes (decide_eq_true (by omega)) ?_
    sizeOf_list_dec
    refine cond_yes (decide_eq_true (by omega)) ?_
    sizeOf_list_dec
    refine wpc_map (fun _ => .bl true) (fun a ha => tgt_gN ?_) ?_
    · sizeOf_list_dec
      exact tst _ _ (.inl rfl) (.inr rfl) a ha
    · sizeOf_list_dec
      refine cond_yes (by simp) ?_
      sizeOf_list_dec
      refine wpo_lenSet (f := fun a => a) (l := l) rfl (by omega) ?_
      sizeOf_list_dec
      rw [List.map_id', hmet, len0, beq_self_eq_true]
      exact k _ (.inr rfl)
/-- a board's rows, in order -/
def bd (l : List (List Nat)) : D := .obj 0 [.tup (strL l)]
theorem sorted_allR : ∀ n, SortedS (allR n) := by
  intro n
  unfold SortedS
  induction n with
  | zero => simp [allR]
  | succ n ih =>
    have lens : ∀ r ∈ allR n, r.length = n := fun r hr => (mem_allR.mp hr).1
    have app : ∀ {a b : List Nat} (x y : List Nat), a.length = b.length → ¬ b < a → a ≠ b → ¬ b ++ y < a ++ x := by
      intro a
      induction a with
      | nil => intro b x y h1 _ h3; cases b with | nil => exact absurd rfl h3 | cons _ _ => simp at h1
      | cons u a ih =>
        intro b x y h1 h2 h3
        cases b with
        | nil => simp at h1
        | cons v b =>
          rw [List.cons_append, List.cons_append, List.cons_lt_cons_iff]
          rw [List.cons_lt_cons_iff] at h2
          rintro (q | ⟨q1, q2⟩)
          · exact h2 (.inl q)
          · subst q1
            exact ih x y (by simpa using h1) (fun z => h2 (.inr ⟨rfl, z⟩)) (fun z => h3 (by rw [z])) q2
    have nd := nodup_allR n
    have key : ∀ l : List (List Nat), l.Pairwise (fun a b => ¬ b < a) → l.Nodup → (∀ r ∈ l, r.length = n) → (dbl l).Pairwise fun a b => ¬ b < a := by
      intro l
      induction l with
      | nil => intro _ _ _; exact List.Pairwise.nil
      | cons r l ih =>
        intro h1 h2 h3
        obtain ⟨g1, g2⟩ := List.pairwise_cons.mp h1
        obtain ⟨f1, f2⟩ := List.nodup_cons.mp h2
        have hr := h3 r (List.mem_cons_self ..)
        have oth : ∀ (x : List Nat), ∀ b ∈ dbl l, ¬ b < r ++ x := fun x b hb => by
          obtain ⟨s, hs, e⟩ := mem_dbl.mp hb
          have hsl := h3 s (List.mem_cons_of_mem _ hs)
          have hne : r ≠ s := fun z => f1 (z ▸ hs)
          rcases e with rfl | rfl
          · exact app _ _ (by omega) (g1 s hs) hne
          · exact app _ _ (by omega) (g1 s hs) hne
        refine List.Pairwise.cons ?_ (List.Pairwise.cons (oth _) (ih g2 f2 fun r hr => h3 r (List.mem_cons_of_mem _ hr)))
        intro b hb
        rcases List.mem_cons.mp hb with rfl | hb
        · intro z
          have : ∀ (r : List Nat), ¬ r ++ [49] < r ++ [48] := by
            intro r
            induction r with
            | nil => decide
            | cons c r ih => rw [List.cons_append, List.cons_append, List.cons_lt_cons_iff]; rintro (q | ⟨_, q⟩); exact Nat.lt_irrefl _ q; exact ih q
          exact this r z
        · exact oth _ b hb
    exact key _ ih nd lens
theorem Rows.sorted {n : Nat} {l : List (List Nat)} (h : Rows n l) : SortedS l := List.Pairwise.sublist h.sub (sorted_allR n)
theorem valsOf_map (L : List D) : valsOf (L.map Dt.Slot.val) = some L := by
  induction L with
  | nil => rfl
  | cons d l ih => simp [valsOf, ih]
theorem init_wp {n : Nat} {l l' : List (List Nat)} {Q : EV → Sl → Prop} (h : Good n l) (hp : l'.Perm l) (hs : SortedS l') (k : Q (.v .non) (.own (.ins 0 [.tup (strL l')]) :: (strL l).map Dt.Slot.val)) : wp sem_Board___init__ (.own (.ins 0 []) :: (strL l).map Dt.Slot.val) Q X := by
  unfold sem_Board___init__ bd_Board___init__
  have hsz := h.sz
  refine v_funV ⟨_, valsOf_map _, by simp [strL]; omega, ?_⟩
  sizeOf_list_dec
  refine are_rows_wp h (.inl rfl) fun sl hsl => ?_
  rcases hsl with rfl | rfl
  · sizeOf_list_dec
    refine wpo_sortS rfl hp hs h.ok (by omega) ?_
    sizeOf_list_dec
    exact k
  · sizeOf_list_dec
    refine wpo_sortS rfl hp hs h.ok (by omega) ?_
    sizeOf_list_dec
    exact k
theorem rows_wp {l : List (List Nat)} {Q : EV → Sl → Prop} (k : Q (.v (.tup (strL l))) [.val (bd l)]) : wp sem_Board_rows [.val (bd l)] Q X := by
  unfold sem_Board_rows bd_Board_rows bd
  sizeOf_list_dec
  exact k
theorem issues_wp {n : Nat} {l : List (List Nat)} {Q : EV → Sl → Prop} (h : Good n l) (k : Q (.v (.int n)) [.val (bd l)]) : wp sem_Board_issues [.val (bd l)] Q X := by
  unfold sem_Board_issues bd_Board_issues bd
  obtain ⟨r, l', e⟩ := List.exists_cons_of_ne_nil h.ne
  have hr := (h.row r (by rw [e]; simp)).1
  have hl : 0 < (strL l).length := by rw [e]; simp
  have h0 : l[(0 : Int).toNat]? = some r := by rw [e]; rfl
  have hrb : r.length ≤ 1000000 := by have := h.n6; omega
  sizeOf_list_dec
  rw [hr]
  exact k
/-- the parts that rows have, as a dict -/
def HeldD (l : List (List Nat)) (ks : List L2.Key) (vs : List D) : Prop := DSet ks vs (fun p => ∃ r ∈ l, has r p = true) 4096
theorem HeldD.b {l : List (List Nat)} {ks : List L2.Key} {vs : List D} (h : HeldD l ks vs) (p : List Nat) : hasAny l p = true ↔ (fun p => ∃ r ∈ l, has r p = true) p := by simp [hasAny]
end
section
set_option maxRecDepth 100000
set_option maxHeartbeats 4000000
/-! DC: the D laws' own clashes, loads. -/
open PySem Dt Pm
variable {X : ExD → Sl → Prop}
end
section
set_option maxRecDepth 100000
set_option maxHeartbeats 4000000
/-! D30: strain. -/
open PySem Dt Pm
variable {X : ExD → Sl → Prop}
theorem is_equal_wp {d : D} {w k : Nat} {Q : EV → Sl → Prop} (h : Shw d w k) (hw : w ≤ 40000) (hk : k ≤ 60) (q : Q (.v (.bl true)) [.val d, .val d]) : wp sem__law_is_equal [.val d, .val d] Q X := by
  unfold sem__law_is_equal bd__law_is_equal
  sizeOf_list_dec
  refine wpo_repr h ⟨hw, hk⟩ ?_
  sizeOf_list_dec
  refine wpo_repr h ⟨hw, hk⟩ ?_
  sizeOf_list_dec
  rw [beq_self_eq_true]
  exact q
theorem Good.sub {n : Nat} {l l' : List (List Nat)} (h : Good n l) (hs : ∀ r ∈ l', r ∈ l) : StrsOk 6 l' := fun r hr => h.ok r (hs r hr)
theorem true_of_wp {g : M EV} {env : Sl} (h : wp g env (fun v _ => v = .v (.bl true)) NoX) : ∃ e, g env = some (.ok (.v (.bl true)) e) := by
  unfold wp at h
  split at h
  · subst h; exact ⟨_, by assumption⟩
  · exact False.elim h
  · exact False.elim h
end
section
set_option maxRecDepth 100000
set_option maxHeartbeats 400000
/-! D30b: the law. -/
open PySem Dt Pm
variable {X : ExD → Sl → Prop}
theorem rangeD0 (x : Int) : rangeD 0 x = (List.range x.toNat).map fun i : Nat => D.int (i : Int) := by simp [rangeD]
end
section
set_option maxRecDepth 100000
set_option maxHeartbeats 400000
/-! D31a: results, all votes, holds. -/
open PySem Dt Pm
variable {X : ExD → Sl → Prop}
end
section
set_option maxRecDepth 100000
set_option maxHeartbeats 400000
/-! D32a: rows shown, judged, verdict; the law's own. -/
open PySem Dt Pm
variable {X : ExD → Sl → Prop}
end
section
set_option maxRecDepth 100000
set_option maxHeartbeats 400000
/-! D32b: what is due, the law. -/
open PySem Dt Pm
variable {X : ExD → Sl → Prop}
end
end Pg
end
section
namespace Pg
open PySem Dt Pm
local macro_rules
  | `(tactic| array_get_dec) => `(tactic| first
    | ((with_reducible refine guard_E ?_); (first
      | (with_reducible refine wp_toA ?_)
      | ((with_reducible refine v_oName ?_); (refine ⟨_, rfl, ?_⟩))
      | ((with_reducible refine o_oName ?_); (refine ⟨_, rfl, ?_⟩))
      | (with_reducible refine wp_asCons ?_)
      | (with_reducible refine wp_asNil ?_)
      | (with_reducible refine wp_eC ?_)
      | (with_reducible refine wp_eOp ?_)
      | ((with_reducible refine v_opM ?_); (refine ⟨_, _, rfl, rfl, ?_⟩))
      | (with_reducible refine wp_eCall ?_)
      | ((with_reducible refine v_callM ?_ ?_); (focus (simp only [Dt.sidx]; decide)))
      | ((with_reducible refine v_eName ?_); (refine ⟨_, rfl, ?_⟩))
      | ((with_reducible refine o_eName ?_); (refine ⟨_, _, rfl, rfl, ?_⟩))
      | ((with_reducible refine r_eName ?_); (refine ⟨_, _, rfl, by assumption, ?_⟩))
      | (with_reducible refine wp_toB ?_)
      | (with_reducible refine wp_eTup ?_)
      | (with_reducible refine wp_eLst ?_)
      | (with_reducible refine wp_eB ?_)
      | (with_reducible refine v_bM ?_)
      | (with_reducible refine wp_eBM ?_)
      | ((with_reducible refine v_tyM ?_); (refine ⟨_, rfl, rfl, ?_⟩))
      | (with_reducible refine wp_bind ?_)
      | (with_reducible refine wp_ret ?_)
      | (with_reducible refine wp_eChain ?_)
      | (with_reducible refine wp_eChain3 ?_)
      | (with_reducible refine wp_bAnd ?_)
      | (with_reducible refine wp_bOr ?_)
      | (with_reducible refine wp_bNot ?_)
      | (with_reducible refine wp_eAnd ?_)
      | (with_reducible refine wp_eOr ?_)
      | (with_reducible refine wp_eNot ?_)
      | (with_reducible refine wp_eIf ?_)
      | (with_reducible refine wp_iOf ?_)
      | (with_reducible refine wp_iRange1 ?_)
      | (with_reducible refine wp_iRange2 ?_)
      | (with_reducible refine wp_iEnum1 ?_)
      | (with_reducible refine wp_iZip2 ?_)
      | ((with_reducible refine wp_mutM ?_ ?_); (focus exact rfl))
      | (with_reducible refine wp_atV ?_)
      | ((with_reducible refine wp_grd ?_ ?_); (focus exact rfl))
      | ((with_reducible refine v_setLM ?_); (refine ⟨_, rfl, ?_⟩))
      | (with_reducible refine wp_eSlice ?_)
      | (with_reducible refine wp_eRev ?_)
      | (with_reducible refine wp_eRepl ?_)
      | (with_reducible refine wp_pNo ?_)
      | (with_reducible refine wp_pYes ?_)
      | (with_reducible refine wp_eIsi ?_)
      | (with_reducible refine wp_eMaxD ?_)
      | (with_reducible refine wp_eNeg ?_)
      | (with_reducible refine wp_eDict0 ?_)
      | ((with_reducible refine v_disp1 ?_); (refine ⟨_, rfl, ?_⟩))
      | (with_reducible refine wp_eFld ?_)
      | ((with_reducible refine v_setFM ?_); (refine ⟨_, _, _, rfl, rfl, rfl, ?_⟩))
      | (with_reducible refine wp_eMeth ?_)
      | (with_reducible refine wp_eProp ?_)
      | (with_reducible refine wp_eOpM ?_)
      | (with_reducible refine wp_inO ?_)
      | (with_reducible refine wp_spO ?_)
      | (with_reducible refine wp_spO1 ?_)
      | (with_reducible refine wp_addO ?_)
      | (with_reducible refine wp_eCMeth ?_)
      | (with_reducible refine wp_eMake ?_)
      | (with_reducible refine wp_eMakeS ?_)
      | ((with_reducible refine wp_eMakeSL ?_ ?_); (focus exact rfl))
      | (with_reducible refine wp_eComp ?_)
      | (with_reducible refine wp_eComp2 ?_)
      | ((with_reducible refine v_funD ?_ ?_); (focus exact rfl); (with_reducible apply fin_mk); (focus (first | (conv => lhs; simp only [List.set_cons_zero, List.set_cons_succ, slotOf, vI, vB, back, put1, isOwn, wipeE, List.take_succ_cons, List.take_zero, List.cons_append, List.nil_append, List.replicate_succ, List.replicate_zero, Nat.reduceSub, List.getElem?_cons_zero, List.getElem?_cons_succ, if_true, if_false, Bool.false_eq_true, List.set_nil]) | skip); (first | done | exact rfl)))))
    | ((with_reducible refine guard_O ?_); (first
      | (with_reducible refine wpo_frz_v ?_)
      | (with_reducible refine wpo_frz_I ?_)
      | (with_reducible refine wpo_frz_B ?_)
      | (with_reducible refine wpo_frz_l ?_)
      | (with_reducible refine wpo_frz_d ?_)
      | (with_reducible refine v_vals ?_)
      | (with_reducible refine wpo_it_l ?_)
      | (with_reducible refine wpo_it_t ?_)
      | ((with_reducible refine wpo_it_s ?_ ?_); (focus first | exact trivial | assumption | omega | (simp only [List.length_cons, List.length_nil, List.length_map]; omega) | (exact rfl)))
      | ((with_reducible refine v_objOf ?_); (refine ⟨_, rfl, ?_⟩))
      | ((with_reducible refine v_objIs ?_); (refine ⟨_, rfl, ?_⟩))
      | (with_reducible refine wpo_isi ?_)
      | ((with_reducible refine v_deref ?_); (refine ⟨_, rfl, ?_⟩))
      | ((with_reducible refine wpo_one ?_ ?_); (focus exact rfl))
      | ((with_reducible refine wpo_okAdd ?_ ?_); (focus exact rfl))
      | ((with_reducible refine v_starD ?_); (refine ⟨_, rfl, ?_⟩))
      | (with_reducible refine wpo_ints ?_)
      | (with_reducible refine wpo_ints1 ?_)
      | (with_reducible refine wpo_ints0 ?_)
      | ((with_reducible refine v_ixS ?_ ?_); (focus first | exact trivial | assumption | omega | (simp only [List.length_cons, List.length_nil, List.length_map]; omega) | (exact rfl)))
      | (with_reducible refine v_ix ?_)
      | (with_reducible refine wpo_inSign ?_)
      | ((with_reducible refine wpo_op2 ?_ ?_); (focus first | exact trivial | assumption | omega | (simp only [List.length_cons, List.length_nil, List.length_map]; omega) | (exact rfl)))
      | ((with_reducible refine wpo_op1 ?_ ?_); (focus first | exact trivial | assumption | omega | (simp only [List.length_cons, List.length_nil, List.length_map]; omega) | (exact rfl)))
      | ((with_reducible refine wpo_slS ?_ ?_); (focus first | exact trivial | assumption | omega | (simp only [List.length_cons, List.length_nil, List.length_map]; omega) | (exact rfl)))
      | ((with_reducible refine wpo_revS ?_ ?_); (focus first | exact trivial | assumption | omega | (simp only [List.length_cons, List.length_nil, List.length_map]; omega) | (exact rfl)))
      | ((with_reducible refine wpo_replS ?_ ?_); (focus first | exact trivial | assumption | omega | (simp only [List.length_cons, List.length_nil, List.length_map]; omega) | (exact rfl)))
      | (with_reducible refine wpo_revL ?_)
      | (with_reducible refine wpo_revT ?_)
      | (with_reducible refine wpo_slL ?_)
      | (with_reducible refine wpo_slT ?_)
      | (with_reducible refine v_get ?_)
      | (with_reducible refine wpo_bind ?_)
      | (with_reducible refine wpo_map ?_)))
    | ((with_reducible refine guard_S ?_); (first
      | (with_reducible refine wps_seq ?_)
      | (with_reducible refine wps_set ?_)
      | (with_reducible refine wps_expr ?_)
      | (with_reducible refine wps_ret ?_)
      | (with_reducible refine wps_if ?_)
      | (with_reducible refine wps_ifW ?_)
      | (with_reducible refine wps_for ?_)
      | (with_reducible refine wps_nil ?_)
      | (with_reducible refine wps_setL ?_)
      | (with_reducible refine wps_par ?_)
      | (with_reducible refine wps_par1 ?_)
      | (with_reducible refine wps_parC' ?_)
      | (with_reducible refine wps_parN ?_)
      | ((with_reducible refine v_retV ?_); (refine ⟨_, rfl, ?_⟩))
      | ((with_reducible refine o_retV ?_); (refine ⟨_, rfl, rfl, ?_⟩))
      | ((with_reducible refine p_retV ?_); (refine ⟨_, _, rfl, rfl, rfl, ?_⟩))
      | (with_reducible refine wps_retN ?_)
      | (with_reducible refine wps_raise ?_)
      | (with_reducible refine wps_break ?_)
      | (with_reducible refine wps_cont ?_)
      | (with_reducible refine wps_try ?_)
      | (with_reducible refine wps_tryAs ?_)
      | (with_reducible refine wps_tryM ?_)
      | (with_reducible refine wps_setF ?_)
      | (with_reducible refine wps_setD ?_)
      | (with_reducible refine wps_asg ?_)))
    | ((with_reducible refine fin_g ?_); (with_reducible apply fin_mk); (focus (first | (conv => lhs; simp only [List.set_cons_zero, List.set_cons_succ, slotOf, vI, vB, back, put1, isOwn, wipeE, List.take_succ_cons, List.take_zero, List.cons_append, List.nil_append, List.replicate_succ, List.replicate_zero, Nat.reduceSub, List.getElem?_cons_zero, List.getElem?_cons_succ, if_true, if_false, Bool.false_eq_true, List.set_nil]) | skip); (first | done | exact rfl)))
    | (with_reducible refine rt_mk ?_)
    | (with_reducible refine bk_mk ?_)
    | (with_reducible refine ct_mk ?_)
    | (with_reducible refine ex_mk ?_)
    | (with_reducible refine der_nil ?_)
    | (with_reducible refine der_v ?_)
    | ((with_reducible refine der_s ?_); (refine ⟨_, rfl, ?_⟩))
    | (with_reducible refine val_nil ?_)
    | (with_reducible refine val_v ?_)
    | (with_reducible refine arg_nil ?_)
    | (with_reducible refine arg_v ?_)
    | ((with_reducible refine arg_s ?_); (refine ⟨_, rfl, ?_⟩))
    | ((with_reducible refine v_append ?_); (refine ⟨_, rfl, ?_, ?_⟩); (focus first | exact trivial | assumption | omega | (simp only [List.length_cons, List.length_nil, List.length_map]; omega) | (exact rfl)))
    | ((with_reducible refine v_extend ?_); (refine ⟨_, rfl, ?_, ?_⟩); (focus first | exact trivial | assumption | omega | (simp only [List.length_cons, List.length_nil, List.length_map]; omega) | (exact rfl)))
    | ((with_reducible refine v_pop ?_); (refine ⟨_, rfl, ?_, ?_⟩); (focus first | exact trivial | assumption | omega | (simp only [List.length_cons, List.length_nil, List.length_map]; omega) | (exact rfl)))
    | ((with_reducible refine v_pop0 ?_); (refine ⟨_, rfl, ?_⟩))
    | (with_reducible refine isbl ?_)
    | (with_reducible refine isVd ?_)
    | (with_reducible refine isbl2 ?_)
    | (with_reducible refine isV ?_)
    | (with_reducible refine isI ?_)
    | (with_reducible refine is1v ?_)
    | (with_reducible refine is2v ?_)
    | (with_reducible refine is3 ?_)
    | (with_reducible refine isTI ?_)
    | (with_reducible refine is1i ?_)
    | (with_reducible refine is2i ?_)
    | (with_reducible refine isCons ?_)
    | (with_reducible refine cond_not ?_)
    | (with_reducible refine cond_t ?_)
    | (with_reducible refine cond_f ?_)
    | ((with_reducible refine ixg_mk ?_); (refine ⟨_, rfl, ?_⟩))
    | ((with_reducible refine ixg_neg ?_ ?_); (focus first | exact trivial | assumption | omega | (simp only [List.length_cons, List.length_nil, List.length_map]; omega) | (exact rfl)))
    | ((with_reducible refine ixg_nat ?_ ?_); (focus first | exact trivial | assumption | omega | (simp only [List.length_cons, List.length_nil, List.length_map]; omega) | (exact rfl)))
    | ((with_reducible refine ixg_of ?_ ?_); (focus first | exact trivial | assumption | omega | (simp only [List.length_cons, List.length_nil, List.length_map]; omega) | (exact rfl)))
    | ((with_reducible refine get_mk ?_); (refine ⟨_, rfl, ?_⟩))
    | ((with_reducible refine get_mapE ?_); (refine ⟨_, by assumption, ?_⟩))
    | ((with_reducible refine get_mapI ?_ ?_); (focus first | exact trivial | assumption | omega | (simp only [List.length_cons, List.length_nil, List.length_map]; omega) | (exact rfl)))
    | ((with_reducible refine get_mapS ?_ ?_); (focus first | exact trivial | assumption | omega | (simp only [List.length_cons, List.length_nil, List.length_map]; omega) | (exact rfl)))
    | ((with_reducible refine get_c ?_ ?_); (focus first | exact trivial | assumption | omega | (simp only [List.length_cons, List.length_nil, List.length_map]; omega) | (exact rfl)))
    | ((with_reducible refine get_map ?_ ?_); (focus first | exact trivial | assumption | omega | (simp only [List.length_cons, List.length_nil, List.length_map]; omega) | (exact rfl)))
    | ((with_reducible refine le_and ?_ ?_); (focus first | exact trivial | assumption | omega | (simp only [List.length_cons, List.length_nil, List.length_map]; omega) | (exact rfl)))
    | ((with_reducible refine rg1_and ?_ ?_); (focus first | exact trivial | assumption | omega | (simp only [List.length_cons, List.length_nil, List.length_map]; omega) | (exact rfl)))
    | ((with_reducible refine rg2_and ?_ ?_); (focus first | exact trivial | assumption | omega | (simp only [List.length_cons, List.length_nil, List.length_map]; omega) | (exact rfl)))
    | (with_reducible refine eq_and ?_)
    | (with_reducible refine wpB_two ?_)
    | (with_reducible refine wpB_one ?_)
    | (with_reducible refine wpG_nil ?_)
    | (with_reducible refine wpG_cons ?_)
    | (with_reducible refine wpG_mnil ?_)
    | (with_reducible refine wpG_mcons ?_)
    | (with_reducible refine tgt_gN ?_)
    | (with_reducible refine tgt_gT2 ?_)
    | (with_reducible refine tgt_gT3 ?_))
local macro_rules
  | `(tactic| sizeOf_list_dec) => `(tactic| repeat array_get_dec)

section
set_option maxRecDepth 100000
set_option maxHeartbeats 400000
/-! D33a: values that are votes that fail. -/
open PySem Dt Pm
variable {X : ExD → Sl → Prop}
end
end Pg
end
section
namespace Pg
open PySem Dt Pm
local macro_rules
  | `(tactic| array_get_dec) => `(tactic| first
    | ((with_reducible refine guard_E ?_); (first
      | (with_reducible refine wp_toA ?_)
      | ((with_reducible refine v_oName ?_); (refine ⟨_, rfl, ?_⟩))
      | ((with_reducible refine o_oName ?_); (refine ⟨_, rfl, ?_⟩))
      | (with_reducible refine wp_asCons ?_)
      | (with_reducible refine wp_asNil ?_)
      | (with_reducible refine wp_eC ?_)
      | (with_reducible refine wp_eOp ?_)
      | ((with_reducible refine v_opM ?_); (refine ⟨_, _, rfl, rfl, ?_⟩))
      | (with_reducible refine wp_eCall ?_)
      | ((with_reducible refine v_callM ?_ ?_); (focus (simp only [Dt.sidx]; decide)))
      | ((with_reducible refine v_eName ?_); (refine ⟨_, rfl, ?_⟩))
      | ((with_reducible refine o_eName ?_); (refine ⟨_, _, rfl, rfl, ?_⟩))
      | ((with_reducible refine r_eName ?_); (refine ⟨_, _, rfl, by assumption, ?_⟩))
      | (with_reducible refine wp_toB ?_)
      | (with_reducible refine wp_eTup ?_)
      | (with_reducible refine wp_eLst ?_)
      | (with_reducible refine wp_eB ?_)
      | (with_reducible refine v_bM ?_)
      | (with_reducible refine wp_eBM ?_)
      | ((with_reducible refine v_tyM ?_); (refine ⟨_, rfl, rfl, ?_⟩))
      | (with_reducible refine wp_bind ?_)
      | (with_reducible refine wp_ret ?_)
      | (with_reducible refine wp_eChain ?_)
      | (with_reducible refine wp_bAnd ?_)
      | (with_reducible refine wp_bOr ?_)
      | (with_reducible refine wp_bNot ?_)
      | (with_reducible refine wp_eAnd ?_)
      | (with_reducible refine wp_eOr ?_)
      | (with_reducible refine wp_eNot ?_)
      | (with_reducible refine wp_eIf ?_)
      | (with_reducible refine wp_iOf ?_)
      | (with_reducible refine wp_iRange1 ?_)
      | (with_reducible refine wp_iRange2 ?_)
      | (with_reducible refine wp_iEnum1 ?_)
      | (with_reducible refine wp_iZip2 ?_)
      | ((with_reducible refine wp_mutM ?_ ?_); (focus exact rfl))
      | (with_reducible refine wp_atV ?_)
      | ((with_reducible refine wp_grd ?_ ?_); (focus exact rfl))
      | ((with_reducible refine v_setLM ?_); (refine ⟨_, rfl, ?_⟩))
      | (with_reducible refine wp_eSlice ?_)
      | (with_reducible refine wp_eRev ?_)
      | (with_reducible refine wp_pNo ?_)
      | (with_reducible refine wp_pYes ?_)
      | (with_reducible refine wp_eIsi ?_)
      | (with_reducible refine wp_eMaxD ?_)
      | (with_reducible refine wp_eNeg ?_)
      | (with_reducible refine wp_eDict0 ?_)
      | ((with_reducible refine v_disp1 ?_); (refine ⟨_, rfl, ?_⟩))
      | (with_reducible refine wp_eFld ?_)
      | ((with_reducible refine v_setFM ?_); (refine ⟨_, _, _, rfl, rfl, rfl, ?_⟩))
      | (with_reducible refine wp_eMeth ?_)
      | (with_reducible refine wp_eProp ?_)
      | (with_reducible refine wp_eOpM ?_)
      | (with_reducible refine wp_inO ?_)
      | (with_reducible refine wp_spO ?_)
      | (with_reducible refine wp_spO1 ?_)
      | (with_reducible refine wp_eCMeth ?_)
      | (with_reducible refine wp_eMake ?_)
      | (with_reducible refine wp_eMakeS ?_)
      | ((with_reducible refine wp_eMakeSL ?_ ?_); (focus exact rfl))
      | (with_reducible refine wp_eComp ?_)
      | (with_reducible refine wp_eComp2 ?_)
      | ((with_reducible refine v_funD ?_ ?_); (focus exact rfl); (with_reducible apply fin_mk); (focus (first | (conv => lhs; simp only [List.set_cons_zero, List.set_cons_succ, slotOf, vI, vB, back, put1, isOwn, wipeE, List.take_succ_cons, List.take_zero, List.cons_append, List.nil_append, List.replicate_succ, List.replicate_zero, Nat.reduceSub, List.getElem?_cons_zero, List.getElem?_cons_succ, if_true, if_false, Bool.false_eq_true, List.set_nil]) | skip); (first | done | exact rfl)))))
    | ((with_reducible refine guard_O ?_); (first
      | (with_reducible refine wpo_frz_v ?_)
      | (with_reducible refine wpo_frz_I ?_)
      | (with_reducible refine wpo_frz_B ?_)
      | (with_reducible refine wpo_frz_l ?_)
      | (with_reducible refine wpo_frz_d ?_)
      | (with_reducible refine v_vals ?_)
      | (with_reducible refine wpo_it_l ?_)
      | (with_reducible refine wpo_it_t ?_)
      | ((with_reducible refine wpo_it_s ?_ ?_); (focus first | exact trivial | assumption | omega | (simp only [List.length_cons, List.length_nil, List.length_map]; omega) | (exact rfl)))
      | ((with_reducible refine v_objOf ?_); (refine ⟨_, rfl, ?_⟩))
      | ((with_reducible refine v_objIs ?_); (refine ⟨_, rfl, ?_⟩))
      | (with_reducible refine wpo_isi ?_)
      | ((with_reducible refine v_deref ?_); (refine ⟨_, rfl, ?_⟩))
      | ((with_reducible refine wpo_one ?_ ?_); (focus exact rfl))
      | ((with_reducible refine v_starD ?_); (refine ⟨_, rfl, ?_⟩))
      | (with_reducible refine wpo_ints ?_)
      | (with_reducible refine wpo_ints1 ?_)
      | (with_reducible refine wpo_ints0 ?_)
      | ((with_reducible refine v_ixS ?_ ?_); (focus first | exact trivial | assumption | omega | (simp only [List.length_cons, List.length_nil, List.length_map]; omega) | (exact rfl)))
      | (with_reducible refine v_ix ?_)
      | (with_reducible refine wpo_inSign ?_)
      | ((with_reducible refine wpo_op2 ?_ ?_); (focus first | exact trivial | assumption | omega | (simp only [List.length_cons, List.length_nil, List.length_map]; omega) | (exact rfl)))
      | ((with_reducible refine wpo_op1 ?_ ?_); (focus first | exact trivial | assumption | omega | (simp only [List.length_cons, List.length_nil, List.length_map]; omega) | (exact rfl)))
      | ((with_reducible refine wpo_slS ?_ ?_); (focus first | exact trivial | assumption | omega | (simp only [List.length_cons, List.length_nil, List.length_map]; omega) | (exact rfl)))
      | ((with_reducible refine wpo_revS ?_ ?_); (focus first | exact trivial | assumption | omega | (simp only [List.length_cons, List.length_nil, List.length_map]; omega) | (exact rfl)))
      | (with_reducible refine wpo_revL ?_)
      | (with_reducible refine wpo_revT ?_)
      | (with_reducible refine wpo_slL ?_)
      | (with_reducible refine wpo_slT ?_)
      | (with_reducible refine v_get ?_)
      | (with_reducible refine wpo_bind ?_)
      | (with_reducible refine wpo_map ?_)))
    | ((with_reducible refine guard_S ?_); (first
      | (with_reducible refine wps_seq ?_)
      | (with_reducible refine wps_set ?_)
      | (with_reducible refine wps_expr ?_)
      | (with_reducible refine wps_ret ?_)
      | (with_reducible refine wps_if ?_)
      | (with_reducible refine wps_for ?_)
      | (with_reducible refine wps_nil ?_)
      | (with_reducible refine wps_setL ?_)
      | (with_reducible refine wps_par ?_)
      | (with_reducible refine wps_par1 ?_)
      | (with_reducible refine wps_parC' ?_)
      | (with_reducible refine wps_parN ?_)
      | ((with_reducible refine v_retV ?_); (refine ⟨_, rfl, ?_⟩))
      | ((with_reducible refine o_retV ?_); (refine ⟨_, rfl, rfl, ?_⟩))
      | ((with_reducible refine p_retV ?_); (refine ⟨_, _, rfl, rfl, rfl, ?_⟩))
      | (with_reducible refine wps_retN ?_)
      | (with_reducible refine wps_raise ?_)
      | (with_reducible refine wps_break ?_)
      | (with_reducible refine wps_cont ?_)
      | (with_reducible refine wps_try ?_)
      | (with_reducible refine wps_setF ?_)
      | (with_reducible refine wps_setD ?_)
      | (with_reducible refine wps_asg ?_)))
    | ((with_reducible refine fin_g ?_); (with_reducible apply fin_mk); (focus (first | (conv => lhs; simp only [List.set_cons_zero, List.set_cons_succ, slotOf, vI, vB, back, put1, isOwn, wipeE, List.take_succ_cons, List.take_zero, List.cons_append, List.nil_append, List.replicate_succ, List.replicate_zero, Nat.reduceSub, List.getElem?_cons_zero, List.getElem?_cons_succ, if_true, if_false, Bool.false_eq_true, List.set_nil]) | skip); (first | done | exact rfl)))
    | (with_reducible refine rt_mk ?_)
    | (with_reducible refine bk_mk ?_)
    | (with_reducible refine ct_mk ?_)
    | (with_reducible refine ex_mk ?_)
    | (with_reducible refine der_nil ?_)
    | (with_reducible refine der_v ?_)
    | ((with_reducible refine der_s ?_); (refine ⟨_, rfl, ?_⟩))
    | (with_reducible refine val_nil ?_)
    | (with_reducible refine val_v ?_)
    | (with_reducible refine arg_nil ?_)
    | (with_reducible refine arg_v ?_)
    | ((with_reducible refine arg_s ?_); (refine ⟨_, rfl, ?_⟩))
    | ((with_reducible refine v_append ?_); (refine ⟨_, rfl, ?_, ?_⟩); (focus first | exact trivial | assumption | omega | (simp only [List.length_cons, List.length_nil, List.length_map]; omega) | (exact rfl)))
    | ((with_reducible refine v_extend ?_); (refine ⟨_, rfl, ?_, ?_⟩); (focus first | exact trivial | assumption | omega | (simp only [List.length_cons, List.length_nil, List.length_map]; omega) | (exact rfl)))
    | ((with_reducible refine v_pop ?_); (refine ⟨_, rfl, ?_, ?_⟩); (focus first | exact trivial | assumption | omega | (simp only [List.length_cons, List.length_nil, List.length_map]; omega) | (exact rfl)))
    | ((with_reducible refine v_pop0 ?_); (refine ⟨_, rfl, ?_⟩))
    | (with_reducible refine isbl ?_)
    | (with_reducible refine isbl2 ?_)
    | (with_reducible refine isV ?_)
    | (with_reducible refine isI ?_)
    | (with_reducible refine is1v ?_)
    | (with_reducible refine is2v ?_)
    | (with_reducible refine is3 ?_)
    | (with_reducible refine isTI ?_)
    | (with_reducible refine is1i ?_)
    | (with_reducible refine is2i ?_)
    | (with_reducible refine isCons ?_)
    | (with_reducible refine cond_not ?_)
    | (with_reducible refine cond_t ?_)
    | (with_reducible refine cond_f ?_)
    | ((with_reducible refine ixg_mk ?_); (refine ⟨_, rfl, ?_⟩))
    | ((with_reducible refine ixg_neg ?_ ?_); (focus first | exact trivial | assumption | omega | (simp only [List.length_cons, List.length_nil, List.length_map]; omega) | (exact rfl)))
    | ((with_reducible refine ixg_nat ?_ ?_); (focus first | exact trivial | assumption | omega | (simp only [List.length_cons, List.length_nil, List.length_map]; omega) | (exact rfl)))
    | ((with_reducible refine ixg_of ?_ ?_); (focus first | exact trivial | assumption | omega | (simp only [List.length_cons, List.length_nil, List.length_map]; omega) | (exact rfl)))
    | ((with_reducible refine get_mk ?_); (refine ⟨_, rfl, ?_⟩))
    | ((with_reducible refine get_mapE ?_); (refine ⟨_, by assumption, ?_⟩))
    | ((with_reducible refine get_mapI ?_ ?_); (focus first | exact trivial | assumption | omega | (simp only [List.length_cons, List.length_nil, List.length_map]; omega) | (exact rfl)))
    | ((with_reducible refine get_mapS ?_ ?_); (focus first | exact trivial | assumption | omega | (simp only [List.length_cons, List.length_nil, List.length_map]; omega) | (exact rfl)))
    | ((with_reducible refine get_c ?_ ?_); (focus first | exact trivial | assumption | omega | (simp only [List.length_cons, List.length_nil, List.length_map]; omega) | (exact rfl)))
    | ((with_reducible refine get_map ?_ ?_); (focus first | exact trivial | assumption | omega | (simp only [List.length_cons, List.length_nil, List.length_map]; omega) | (exact rfl)))
    | ((with_reducible refine le_and ?_ ?_); (focus first | exact trivial | assumption | omega | (simp only [List.length_cons, List.length_nil, List.length_map]; omega) | (exact rfl)))
    | ((with_reducible refine rg1_and ?_ ?_); (focus first | exact trivial | assumption | omega | (simp only [List.length_cons, List.length_nil, List.length_map]; omega) | (exact rfl)))
    | ((with_reducible refine rg2_and ?_ ?_); (focus first | exact trivial | assumption | omega | (simp only [List.length_cons, List.length_nil, List.length_map]; omega) | (exact rfl)))
    | (with_reducible refine eq_and ?_)
    | (with_reducible refine wpB_two ?_)
    | (with_reducible refine wpB_one ?_)
    | (with_reducible refine wpG_nil ?_)
    | (with_reducible refine wpG_cons ?_)
    | (with_reducible refine wpG_mnil ?_)
    | (with_reducible refine wpG_mcons ?_)
    | (with_reducible refine tgt_gN ?_)
    | (with_reducible refine tgt_gT2 ?_)
    | (with_reducible refine tgt_gT3 ?_))
local macro_rules
  | `(tactic| sizeOf_list_dec) => `(tactic| repeat array_get_dec)

section
set_option maxRecDepth 100000
set_option maxHeartbeats 400000
/-! D33b: k33's law. -/
open PySem Dt Pm
variable {X : ExD → Sl → Prop}
def Thg (d : D) : Prop := ∃ w k, Sh d w k ∧ w ≤ 40000 ∧ k ≤ 60
theorem Thg.pln {d : D} (h : Thg d) : Pln d := let ⟨_, _, h, _⟩ := h; h.pln
theorem choose_wpD {l : List D} {s : List D} {Q : EV → Sl → Prop} (hs : Src s) (h0 : 0 < l.length) (h1 : l.length < 1000000) {sl : Dt.Slot} (hl : sl = .val (.lst l) ∨ sl = .own (.lst l)) (k : ∀ a s', a ∈ l → Src s' → Q (.v a) [.own (.lst s'), sl]) : wp sem__law_choose [.own (.lst s), sl] Q X :=
  choose_wp (inj := fun d : D => d) hs h0 h1 (by rw [List.map_id']; exact hl) k
theorem all_cons {P : D → Prop} {d : D} {ds : List D} (h : P d) (t : ∀ x ∈ ds, P x) : ∀ x ∈ d :: ds, P x := fun x hx => (List.mem_cons.mp hx).elim (fun e => e ▸ h) (t x)
theorem all_nil {P : D → Prop} : ∀ x ∈ ([] : List D), P x := fun x hx => by cases hx
end
end Pg
end
section
namespace Pg
open PySem Dt Pm
local macro_rules
  | `(tactic| array_get_dec) => `(tactic| first
    | ((with_reducible refine guard_E ?_); (first
      | (with_reducible refine wp_toA ?_)
      | ((with_reducible refine v_oName ?_); (refine ⟨_, rfl, ?_⟩))
      | ((with_reducible refine o_oName ?_); (refine ⟨_, rfl, ?_⟩))
      | (with_reducible refine wp_asCons ?_)
      | (with_reducible refine wp_asNil ?_)
      | (with_reducible refine wp_eC ?_)
      | (with_reducible refine wp_eOp ?_)
      | ((with_reducible refine v_opM ?_); (refine ⟨_, _, rfl, rfl, ?_⟩))
      | (with_reducible refine wp_eCall ?_)
      | ((with_reducible refine v_callM ?_ ?_); (focus (simp only [Dt.sidx]; decide)))
      | ((with_reducible refine v_eName ?_); (refine ⟨_, rfl, ?_⟩))
      | ((with_reducible refine o_eName ?_); (refine ⟨_, _, rfl, rfl, ?_⟩))
      | ((with_reducible refine r_eName ?_); (refine ⟨_, _, rfl, by assumption, ?_⟩))
      | (with_reducible refine wp_toB ?_)
      | (with_reducible refine wp_eTup ?_)
      | (with_reducible refine wp_eLst ?_)
      | (with_reducible refine wp_eB ?_)
      | (with_reducible refine v_bM ?_)
      | (with_reducible refine wp_eBM ?_)
      | ((with_reducible refine v_tyM ?_); (refine ⟨_, rfl, rfl, ?_⟩))
      | (with_reducible refine wp_bind ?_)
      | (with_reducible refine wp_ret ?_)
      | (with_reducible refine wp_eChain ?_)
      | (with_reducible refine wp_eChain3 ?_)
      | (with_reducible refine wp_bAnd ?_)
      | (with_reducible refine wp_bOr ?_)
      | (with_reducible refine wp_bNot ?_)
      | (with_reducible refine wp_eAnd ?_)
      | (with_reducible refine wp_eOr ?_)
      | (with_reducible refine wp_eNot ?_)
      | (with_reducible refine wp_eIf ?_)
      | (with_reducible refine wp_iOf ?_)
      | (with_reducible refine wp_iRange1 ?_)
      | (with_reducible refine wp_iRange2 ?_)
      | (with_reducible refine wp_iEnum1 ?_)
      | (with_reducible refine wp_iZip2 ?_)
      | ((with_reducible refine wp_mutM ?_ ?_); (focus exact rfl))
      | (with_reducible refine wp_atV ?_)
      | ((with_reducible refine wp_grd ?_ ?_); (focus exact rfl))
      | ((with_reducible refine v_setLM ?_); (refine ⟨_, rfl, ?_⟩))
      | (with_reducible refine wp_eSlice ?_)
      | (with_reducible refine wp_eRev ?_)
      | (with_reducible refine wp_pNo ?_)
      | (with_reducible refine wp_pYes ?_)
      | (with_reducible refine wp_eIsi ?_)
      | (with_reducible refine wp_eMaxD ?_)
      | (with_reducible refine wp_eNeg ?_)
      | (with_reducible refine wp_eDict0 ?_)
      | ((with_reducible refine v_disp1 ?_); (refine ⟨_, rfl, ?_⟩))
      | (with_reducible refine wp_eFld ?_)
      | ((with_reducible refine v_setFM ?_); (refine ⟨_, _, _, rfl, rfl, rfl, ?_⟩))
      | (with_reducible refine wp_eMeth ?_)
      | (with_reducible refine wp_eProp ?_)
      | (with_reducible refine wp_eOpM ?_)
      | (with_reducible refine wp_inO ?_)
      | (with_reducible refine wp_spO ?_)
      | (with_reducible refine wp_spO1 ?_)
      | (with_reducible refine wp_eCMeth ?_)
      | (with_reducible refine wp_eMake ?_)
      | (with_reducible refine wp_eMakeS ?_)
      | ((with_reducible refine wp_eMakeSL ?_ ?_); (focus exact rfl))
      | (with_reducible refine wp_eComp ?_)
      | (with_reducible refine wp_eComp2 ?_)
      | ((with_reducible refine v_funD ?_ ?_); (focus exact rfl); (with_reducible apply fin_mk); (focus (first | (conv => lhs; simp only [List.set_cons_zero, List.set_cons_succ, slotOf, vI, vB, back, put1, isOwn, wipeE, List.take_succ_cons, List.take_zero, List.cons_append, List.nil_append, List.replicate_succ, List.replicate_zero, Nat.reduceSub, List.getElem?_cons_zero, List.getElem?_cons_succ, if_true, if_false, Bool.false_eq_true, List.set_nil]) | skip); (first | done | exact rfl)))))
    | ((with_reducible refine guard_O ?_); (first
      | (with_reducible refine wpo_frz_v ?_)
      | (with_reducible refine wpo_frz_I ?_)
      | (with_reducible refine wpo_frz_B ?_)
      | (with_reducible refine wpo_frz_l ?_)
      | (with_reducible refine wpo_frz_d ?_)
      | (with_reducible refine v_vals ?_)
      | (with_reducible refine wpo_it_l ?_)
      | (with_reducible refine wpo_it_t ?_)
      | ((with_reducible refine wpo_it_s ?_ ?_); (focus first | exact trivial | assumption | omega | (simp only [List.length_cons, List.length_nil, List.length_map]; omega) | (exact rfl)))
      | ((with_reducible refine v_objOf ?_); (refine ⟨_, rfl, ?_⟩))
      | ((with_reducible refine v_objIs ?_); (refine ⟨_, rfl, ?_⟩))
      | (with_reducible refine wpo_isi ?_)
      | ((with_reducible refine v_deref ?_); (refine ⟨_, rfl, ?_⟩))
      | ((with_reducible refine wpo_one ?_ ?_); (focus exact rfl))
      | ((with_reducible refine v_starD ?_); (refine ⟨_, rfl, ?_⟩))
      | (with_reducible refine wpo_ints ?_)
      | (with_reducible refine wpo_ints1 ?_)
      | (with_reducible refine wpo_ints0 ?_)
      | ((with_reducible refine v_ixS ?_ ?_); (focus first | exact trivial | assumption | omega | (simp only [List.length_cons, List.length_nil, List.length_map]; omega) | (exact rfl)))
      | (with_reducible refine v_ix ?_)
      | (with_reducible refine wpo_inSign ?_)
      | ((with_reducible refine wpo_op2 ?_ ?_); (focus first | exact trivial | assumption | omega | (simp only [List.length_cons, List.length_nil, List.length_map]; omega) | (exact rfl)))
      | ((with_reducible refine wpo_op1 ?_ ?_); (focus first | exact trivial | assumption | omega | (simp only [List.length_cons, List.length_nil, List.length_map]; omega) | (exact rfl)))
      | ((with_reducible refine wpo_slS ?_ ?_); (focus first | exact trivial | assumption | omega | (simp only [List.length_cons, List.length_nil, List.length_map]; omega) | (exact rfl)))
      | ((with_reducible refine wpo_revS ?_ ?_); (focus first | exact trivial | assumption | omega | (simp only [List.length_cons, List.length_nil, List.length_map]; omega) | (exact rfl)))
      | (with_reducible refine wpo_revL ?_)
      | (with_reducible refine wpo_revT ?_)
      | (with_reducible refine wpo_slL ?_)
      | (with_reducible refine wpo_slT ?_)
      | (with_reducible refine v_get ?_)
      | (with_reducible refine wpo_bind ?_)
      | (with_reducible refine wpo_map ?_)))
    | ((with_reducible refine guard_S ?_); (first
      | (with_reducible refine wps_seq ?_)
      | (with_reducible refine wps_set ?_)
      | (with_reducible refine wps_expr ?_)
      | (with_reducible refine wps_ret ?_)
      | (with_reducible refine wps_if ?_)
      | (with_reducible refine wps_ifW ?_)
      | (with_reducible refine wps_for ?_)
      | (with_reducible refine wps_nil ?_)
      | (with_reducible refine wps_setL ?_)
      | (with_reducible refine wps_par ?_)
      | (with_reducible refine wps_par1 ?_)
      | (with_reducible refine wps_parC' ?_)
      | (with_reducible refine wps_parN ?_)
      | ((with_reducible refine v_retV ?_); (refine ⟨_, rfl, ?_⟩))
      | ((with_reducible refine o_retV ?_); (refine ⟨_, rfl, rfl, ?_⟩))
      | ((with_reducible refine p_retV ?_); (refine ⟨_, _, rfl, rfl, rfl, ?_⟩))
      | (with_reducible refine wps_retN ?_)
      | (with_reducible refine wps_raise ?_)
      | (with_reducible refine wps_break ?_)
      | (with_reducible refine wps_cont ?_)
      | (with_reducible refine wps_try ?_)
      | (with_reducible refine wps_tryAs ?_)
      | (with_reducible refine wps_setF ?_)
      | (with_reducible refine wps_setD ?_)
      | (with_reducible refine wps_asg ?_)))
    | ((with_reducible refine fin_g ?_); (with_reducible apply fin_mk); (focus (first | (conv => lhs; simp only [List.set_cons_zero, List.set_cons_succ, slotOf, vI, vB, back, put1, isOwn, wipeE, List.take_succ_cons, List.take_zero, List.cons_append, List.nil_append, List.replicate_succ, List.replicate_zero, Nat.reduceSub, List.getElem?_cons_zero, List.getElem?_cons_succ, if_true, if_false, Bool.false_eq_true, List.set_nil]) | skip); (first | done | exact rfl)))
    | (with_reducible refine rt_mk ?_)
    | (with_reducible refine bk_mk ?_)
    | (with_reducible refine ct_mk ?_)
    | (with_reducible refine ex_mk ?_)
    | (with_reducible refine der_nil ?_)
    | (with_reducible refine der_v ?_)
    | ((with_reducible refine der_s ?_); (refine ⟨_, rfl, ?_⟩))
    | (with_reducible refine val_nil ?_)
    | (with_reducible refine val_v ?_)
    | (with_reducible refine arg_nil ?_)
    | (with_reducible refine arg_v ?_)
    | ((with_reducible refine arg_s ?_); (refine ⟨_, rfl, ?_⟩))
    | ((with_reducible refine v_append ?_); (refine ⟨_, rfl, ?_, ?_⟩); (focus first | exact trivial | assumption | omega | (simp only [List.length_cons, List.length_nil, List.length_map]; omega) | (exact rfl)))
    | ((with_reducible refine v_extend ?_); (refine ⟨_, rfl, ?_, ?_⟩); (focus first | exact trivial | assumption | omega | (simp only [List.length_cons, List.length_nil, List.length_map]; omega) | (exact rfl)))
    | ((with_reducible refine v_pop ?_); (refine ⟨_, rfl, ?_, ?_⟩); (focus first | exact trivial | assumption | omega | (simp only [List.length_cons, List.length_nil, List.length_map]; omega) | (exact rfl)))
    | ((with_reducible refine v_pop0 ?_); (refine ⟨_, rfl, ?_⟩))
    | (with_reducible refine isbl ?_)
    | (with_reducible refine isVd ?_)
    | (with_reducible refine isbl2 ?_)
    | (with_reducible refine isV ?_)
    | (with_reducible refine isI ?_)
    | (with_reducible refine is1v ?_)
    | (with_reducible refine is2v ?_)
    | (with_reducible refine is3 ?_)
    | (with_reducible refine isTI ?_)
    | (with_reducible refine is1i ?_)
    | (with_reducible refine is2i ?_)
    | (with_reducible refine isCons ?_)
    | (with_reducible refine cond_not ?_)
    | (with_reducible refine cond_t ?_)
    | (with_reducible refine cond_f ?_)
    | ((with_reducible refine ixg_mk ?_); (refine ⟨_, rfl, ?_⟩))
    | ((with_reducible refine ixg_neg ?_ ?_); (focus first | exact trivial | assumption | omega | (simp only [List.length_cons, List.length_nil, List.length_map]; omega) | (exact rfl)))
    | ((with_reducible refine ixg_nat ?_ ?_); (focus first | exact trivial | assumption | omega | (simp only [List.length_cons, List.length_nil, List.length_map]; omega) | (exact rfl)))
    | ((with_reducible refine ixg_of ?_ ?_); (focus first | exact trivial | assumption | omega | (simp only [List.length_cons, List.length_nil, List.length_map]; omega) | (exact rfl)))
    | ((with_reducible refine get_mk ?_); (refine ⟨_, rfl, ?_⟩))
    | ((with_reducible refine get_mapE ?_); (refine ⟨_, by assumption, ?_⟩))
    | ((with_reducible refine get_mapI ?_ ?_); (focus first | exact trivial | assumption | omega | (simp only [List.length_cons, List.length_nil, List.length_map]; omega) | (exact rfl)))
    | ((with_reducible refine get_mapS ?_ ?_); (focus first | exact trivial | assumption | omega | (simp only [List.length_cons, List.length_nil, List.length_map]; omega) | (exact rfl)))
    | ((with_reducible refine get_c ?_ ?_); (focus first | exact trivial | assumption | omega | (simp only [List.length_cons, List.length_nil, List.length_map]; omega) | (exact rfl)))
    | ((with_reducible refine get_map ?_ ?_); (focus first | exact trivial | assumption | omega | (simp only [List.length_cons, List.length_nil, List.length_map]; omega) | (exact rfl)))
    | ((with_reducible refine le_and ?_ ?_); (focus first | exact trivial | assumption | omega | (simp only [List.length_cons, List.length_nil, List.length_map]; omega) | (exact rfl)))
    | ((with_reducible refine rg1_and ?_ ?_); (focus first | exact trivial | assumption | omega | (simp only [List.length_cons, List.length_nil, List.length_map]; omega) | (exact rfl)))
    | ((with_reducible refine rg2_and ?_ ?_); (focus first | exact trivial | assumption | omega | (simp only [List.length_cons, List.length_nil, List.length_map]; omega) | (exact rfl)))
    | (with_reducible refine eq_and ?_)
    | (with_reducible refine wpB_two ?_)
    | (with_reducible refine wpB_one ?_)
    | (with_reducible refine wpG_nil ?_)
    | (with_reducible refine wpG_cons ?_)
    | (with_reducible refine wpG_mnil ?_)
    | (with_reducible refine wpG_mcons ?_)
    | (with_reducible refine tgt_gN ?_)
    | (with_reducible refine tgt_gT2 ?_)
    | (with_reducible refine tgt_gT3 ?_))
local macro_rules
  | `(tactic| sizeOf_list_dec) => `(tactic| repeat array_get_dec)

section
set_option maxRecDepth 100000
set_option maxHeartbeats 400000
/-! D20a: the draws of the C laws. -/
open PySem Dt Pm
variable {X : ExD → Sl → Prop}
/-- a pen that has n draws left -/
def Pen (n : Nat) (s : List D) : Prop := ∃ a b c : Int, s = [.int a, .int b, .int c] ∧ 0 ≤ c ∧ c + n ≤ 1000000000
theorem Pen.mono {n n' : Nat} {s : List D} (h : Pen n s) (l : n' ≤ n) : Pen n' s := let ⟨a, b, c, e, h1, h2⟩ := h; ⟨a, b, c, e, h1, by omega⟩
theorem erase_map {α β : Type} (f : α → β) : ∀ (l : List α) (i : Nat), (l.map f).eraseIdx i = (l.eraseIdx i).map f
  | [], _ => rfl
  | _ :: _, 0 => rfl
  | a :: l, i + 1 => by simp [List.eraseIdx, erase_map f l i]
theorem erase_perm {α : Type} : ∀ {l : List α} {i : Nat} (h : i < l.length), (l[i] :: l.eraseIdx i).Perm l
  | a :: l, 0, _ => .refl _
  | a :: l, i + 1, h => (List.Perm.swap _ _ _).trans (.cons _ (erase_perm (l := l) (i := i) (by simpa using h)))
def Sgn (c : Nat) : Prop := c = 48 ∨ c = 49
/-- a row has the answers a at the issues fr -/
structure SetAt (m : Nat) (fr a r : List Nat) : Prop where
  len : r.length = m
  sgn : ∀ c ∈ r, Sgn c
  at_ : ∀ i, i < fr.length → r.getD (fr.getD i 0) 0 = a.getD i 0
end
section
set_option maxRecDepth 100000
set_option maxHeartbeats 400000
/-! D20b: the rows of the C laws, their clashes by listing. -/
open PySem Dt Pm
variable {X : ExD → Sl → Prop}
theorem rows_sorted {m : Nat} {rows : List (List Nat)} (h1 : 1 ≤ m) (h6 : m ≤ 6) (hne : rows ≠ []) (hn : rows.Nodup) (hs : ∀ r ∈ rows, r ∈ allR m) : ∃ l', l'.Perm rows ∧ Rows m l' := by
  have hp : ((allR m).filter fun r => decide (r ∈ rows)).Perm rows := (List.perm_ext_iff_of_nodup ((nodup_allR m).filter _) hn).mpr fun r => by
    simp only [List.mem_filter, decide_eq_true_eq]
    exact ⟨fun h => h.2, fun h => ⟨hs r h, h⟩⟩
  exact ⟨_, hp, h1, h6, fun e => hne (by rw [e] at hp; exact hp.symm.eq_nil), List.filter_sublist⟩
end
section
set_option maxRecDepth 100000
set_option maxHeartbeats 400000
/-! D20c: shuffles, parts, clashes by listing. -/
open PySem Dt Pm
variable {X : ExD → Sl → Prop}
def Vo (sl : Dt.Slot) (l : List (List Nat)) : Prop := sl = .val (.lst (strL l)) ∨ sl = .own (.lst (strL l))
end
end Pg
end
section
namespace Pg
open PySem Dt Pm
local macro_rules
  | `(tactic| array_get_dec) => `(tactic| first
    | ((with_reducible refine guard_E ?_); (first
      | (with_reducible refine wp_toA ?_)
      | ((with_reducible refine v_oName ?_); (refine ⟨_, rfl, ?_⟩))
      | ((with_reducible refine o_oName ?_); (refine ⟨_, rfl, ?_⟩))
      | (with_reducible refine wp_asCons ?_)
      | (with_reducible refine wp_asNil ?_)
      | (with_reducible refine wp_eC ?_)
      | (with_reducible refine wp_eOp ?_)
      | ((with_reducible refine v_opM ?_); (refine ⟨_, _, rfl, rfl, ?_⟩))
      | (with_reducible refine wp_eCall ?_)
      | ((with_reducible refine v_callM ?_ ?_); (focus (simp only [Dt.sidx]; decide)))
      | ((with_reducible refine v_eName ?_); (refine ⟨_, rfl, ?_⟩))
      | ((with_reducible refine o_eName ?_); (refine ⟨_, _, rfl, rfl, ?_⟩))
      | ((with_reducible refine r_eName ?_); (refine ⟨_, _, rfl, by assumption, ?_⟩))
      | (with_reducible refine wp_toB ?_)
      | (with_reducible refine wp_eTup ?_)
      | (with_reducible refine wp_eLst ?_)
      | (with_reducible refine wp_eB ?_)
      | (with_reducible refine v_bM ?_)
      | (with_reducible refine wp_eBM ?_)
      | ((with_reducible refine v_tyM ?_); (refine ⟨_, rfl, rfl, ?_⟩))
      | (with_reducible refine wp_bind ?_)
      | (with_reducible refine wp_ret ?_)
      | (with_reducible refine wp_eChain ?_)
      | (with_reducible refine wp_eChain3 ?_)
      | (with_reducible refine wp_bAnd ?_)
      | (with_reducible refine wp_bOr ?_)
      | (with_reducible refine wp_bNot ?_)
      | (with_reducible refine wp_eAnd ?_)
      | (with_reducible refine wp_eOr ?_)
      | (with_reducible refine wp_eNot ?_)
      | (with_reducible refine wp_eIf ?_)
      | (with_reducible refine wp_iOf ?_)
      | (with_reducible refine wp_iRange1 ?_)
      | (with_reducible refine wp_iRange2 ?_)
      | (with_reducible refine wp_iEnum1 ?_)
      | (with_reducible refine wp_iZip2 ?_)
      | ((with_reducible refine wp_mutM ?_ ?_); (focus exact rfl))
      | (with_reducible refine wp_atV ?_)
      | ((with_reducible refine wp_grd ?_ ?_); (focus exact rfl))
      | ((with_reducible refine v_setLM ?_); (refine ⟨_, rfl, ?_⟩))
      | (with_reducible refine wp_eSlice ?_)
      | (with_reducible refine wp_eRev ?_)
      | (with_reducible refine wp_eRepl ?_)
      | (with_reducible refine wp_pNo ?_)
      | (with_reducible refine wp_pYes ?_)
      | (with_reducible refine wp_eIsi ?_)
      | (with_reducible refine wp_eMaxD ?_)
      | (with_reducible refine wp_eNeg ?_)
      | (with_reducible refine wp_eDict0 ?_)
      | ((with_reducible refine v_disp1 ?_); (refine ⟨_, rfl, ?_⟩))
      | (with_reducible refine wp_eFld ?_)
      | ((with_reducible refine v_setFM ?_); (refine ⟨_, _, _, rfl, rfl, rfl, ?_⟩))
      | (with_reducible refine wp_eMeth ?_)
      | (with_reducible refine wp_eProp ?_)
      | (with_reducible refine wp_eOpM ?_)
      | (with_reducible refine wp_inO ?_)
      | (with_reducible refine wp_spO ?_)
      | (with_reducible refine wp_spO1 ?_)
      | (with_reducible refine wp_addO ?_)
      | (with_reducible refine wp_eCMeth ?_)
      | (with_reducible refine wp_eMake ?_)
      | (with_reducible refine wp_eMakeS ?_)
      | ((with_reducible refine wp_eMakeSL ?_ ?_); (focus exact rfl))
      | (with_reducible refine wp_eComp ?_)
      | (with_reducible refine wp_eComp2 ?_)
      | ((with_reducible refine v_funD ?_ ?_); (focus exact rfl); (with_reducible apply fin_mk); (focus (first | (conv => lhs; simp only [List.set_cons_zero, List.set_cons_succ, slotOf, vI, vB, back, put1, isOwn, wipeE, List.take_succ_cons, List.take_zero, List.cons_append, List.nil_append, List.replicate_succ, List.replicate_zero, Nat.reduceSub, List.getElem?_cons_zero, List.getElem?_cons_succ, if_true, if_false, Bool.false_eq_true, List.set_nil]) | skip); (first | done | exact rfl)))))
    | ((with_reducible refine guard_O ?_); (first
      | (with_reducible refine wpo_frz_v ?_)
      | (with_reducible refine wpo_frz_I ?_)
      | (with_reducible refine wpo_frz_B ?_)
      | (with_reducible refine wpo_frz_l ?_)
      | (with_reducible refine wpo_frz_d ?_)
      | (with_reducible refine v_vals ?_)
      | (with_reducible refine wpo_it_l ?_)
      | (with_reducible refine wpo_it_t ?_)
      | ((with_reducible refine wpo_it_s ?_ ?_); (focus first | exact trivial | assumption | omega | (simp only [List.length_cons, List.length_nil, List.length_map]; omega) | (exact rfl)))
      | ((with_reducible refine v_objOf ?_); (refine ⟨_, rfl, ?_⟩))
      | ((with_reducible refine v_objIs ?_); (refine ⟨_, rfl, ?_⟩))
      | (with_reducible refine wpo_isi ?_)
      | ((with_reducible refine v_deref ?_); (refine ⟨_, rfl, ?_⟩))
      | ((with_reducible refine wpo_one ?_ ?_); (focus exact rfl))
      | ((with_reducible refine wpo_okAdd ?_ ?_); (focus exact rfl))
      | ((with_reducible refine v_starD ?_); (refine ⟨_, rfl, ?_⟩))
      | (with_reducible refine wpo_ints ?_)
      | (with_reducible refine wpo_ints1 ?_)
      | (with_reducible refine wpo_ints0 ?_)
      | ((with_reducible refine v_ixS ?_ ?_); (focus first | exact trivial | assumption | omega | (simp only [List.length_cons, List.length_nil, List.length_map]; omega) | (exact rfl)))
      | (with_reducible refine v_ix ?_)
      | (with_reducible refine wpo_inSign ?_)
      | ((with_reducible refine wpo_op2 ?_ ?_); (focus first | exact trivial | assumption | omega | (simp only [List.length_cons, List.length_nil, List.length_map]; omega) | (exact rfl)))
      | ((with_reducible refine wpo_op1 ?_ ?_); (focus first | exact trivial | assumption | omega | (simp only [List.length_cons, List.length_nil, List.length_map]; omega) | (exact rfl)))
      | ((with_reducible refine wpo_slS ?_ ?_); (focus first | exact trivial | assumption | omega | (simp only [List.length_cons, List.length_nil, List.length_map]; omega) | (exact rfl)))
      | ((with_reducible refine wpo_revS ?_ ?_); (focus first | exact trivial | assumption | omega | (simp only [List.length_cons, List.length_nil, List.length_map]; omega) | (exact rfl)))
      | ((with_reducible refine wpo_replS ?_ ?_); (focus first | exact trivial | assumption | omega | (simp only [List.length_cons, List.length_nil, List.length_map]; omega) | (exact rfl)))
      | (with_reducible refine wpo_revL ?_)
      | (with_reducible refine wpo_revT ?_)
      | (with_reducible refine wpo_slL ?_)
      | (with_reducible refine wpo_slT ?_)
      | (with_reducible refine v_get ?_)
      | (with_reducible refine wpo_bind ?_)
      | (with_reducible refine wpo_map ?_)))
    | ((with_reducible refine guard_S ?_); (first
      | (with_reducible refine wps_seq ?_)
      | (with_reducible refine wps_set ?_)
      | (with_reducible refine wps_expr ?_)
      | (with_reducible refine wps_ret ?_)
      | (with_reducible refine wps_if ?_)
      | (with_reducible refine wps_ifW ?_)
      | (with_reducible refine wps_for ?_)
      | (with_reducible refine wps_nil ?_)
      | (with_reducible refine wps_setL ?_)
      | (with_reducible refine wps_par ?_)
      | (with_reducible refine wps_par1 ?_)
      | (with_reducible refine wps_parC' ?_)
      | (with_reducible refine wps_parN ?_)
      | ((with_reducible refine v_retV ?_); (refine ⟨_, rfl, ?_⟩))
      | ((with_reducible refine o_retV ?_); (refine ⟨_, rfl, rfl, ?_⟩))
      | ((with_reducible refine p_retV ?_); (refine ⟨_, _, rfl, rfl, rfl, ?_⟩))
      | (with_reducible refine wps_retN ?_)
      | (with_reducible refine wps_raise ?_)
      | (with_reducible refine wps_break ?_)
      | (with_reducible refine wps_cont ?_)
      | (with_reducible refine wps_try ?_)
      | (with_reducible refine wps_tryAs ?_)
      | (with_reducible refine wps_tryM ?_)
      | (with_reducible refine wps_setF ?_)
      | (with_reducible refine wps_setD ?_)
      | (with_reducible refine wps_asg ?_)))
    | ((with_reducible refine fin_g ?_); (with_reducible apply fin_mk); (focus (first | (conv => lhs; simp only [List.set_cons_zero, List.set_cons_succ, slotOf, vI, vB, back, put1, isOwn, wipeE, List.take_succ_cons, List.take_zero, List.cons_append, List.nil_append, List.replicate_succ, List.replicate_zero, Nat.reduceSub, List.getElem?_cons_zero, List.getElem?_cons_succ, if_true, if_false, Bool.false_eq_true, List.set_nil]) | skip); (first | done | exact rfl)))
    | (with_reducible refine rt_mk ?_)
    | (with_reducible refine bk_mk ?_)
    | (with_reducible refine ct_mk ?_)
    | (with_reducible refine ex_mk ?_)
    | (with_reducible refine der_nil ?_)
    | (with_reducible refine der_v ?_)
    | ((with_reducible refine der_s ?_); (refine ⟨_, rfl, ?_⟩))
    | (with_reducible refine val_nil ?_)
    | (with_reducible refine val_v ?_)
    | (with_reducible refine arg_nil ?_)
    | (with_reducible refine arg_v ?_)
    | ((with_reducible refine arg_s ?_); (refine ⟨_, rfl, ?_⟩))
    | ((with_reducible refine v_append ?_); (refine ⟨_, rfl, ?_, ?_⟩); (focus first | exact trivial | assumption | omega | (simp only [List.length_cons, List.length_nil, List.length_map]; omega) | (exact rfl)))
    | ((with_reducible refine v_extend ?_); (refine ⟨_, rfl, ?_, ?_⟩); (focus first | exact trivial | assumption | omega | (simp only [List.length_cons, List.length_nil, List.length_map]; omega) | (exact rfl)))
    | ((with_reducible refine v_pop ?_); (refine ⟨_, rfl, ?_, ?_⟩); (focus first | exact trivial | assumption | omega | (simp only [List.length_cons, List.length_nil, List.length_map]; omega) | (exact rfl)))
    | ((with_reducible refine v_pop0 ?_); (refine ⟨_, rfl, ?_⟩))
    | (with_reducible refine isbl ?_)
    | (with_reducible refine isVd ?_)
    | (with_reducible refine isbl2 ?_)
    | (with_reducible refine isV ?_)
    | (with_reducible refine isI ?_)
    | (with_reducible refine is1v ?_)
    | (with_reducible refine is2v ?_)
    | (with_reducible refine is3 ?_)
    | (with_reducible refine isTI ?_)
    | (with_reducible refine is1i ?_)
    | (with_reducible refine is2i ?_)
    | (with_reducible refine isCons ?_)
    | (with_reducible refine cond_not ?_)
    | (with_reducible refine cond_t ?_)
    | (with_reducible refine cond_f ?_)
    | ((with_reducible refine ixg_mk ?_); (refine ⟨_, rfl, ?_⟩))
    | ((with_reducible refine ixg_neg ?_ ?_); (focus first | exact trivial | assumption | omega | (simp only [List.length_cons, List.length_nil, List.length_map]; omega) | (exact rfl)))
    | ((with_reducible refine ixg_nat ?_ ?_); (focus first | exact trivial | assumption | omega | (simp only [List.length_cons, List.length_nil, List.length_map]; omega) | (exact rfl)))
    | ((with_reducible refine ixg_of ?_ ?_); (focus first | exact trivial | assumption | omega | (simp only [List.length_cons, List.length_nil, List.length_map]; omega) | (exact rfl)))
    | ((with_reducible refine get_mk ?_); (refine ⟨_, rfl, ?_⟩))
    | ((with_reducible refine get_mapE ?_); (refine ⟨_, by assumption, ?_⟩))
    | ((with_reducible refine get_mapI ?_ ?_); (focus first | exact trivial | assumption | omega | (simp only [List.length_cons, List.length_nil, List.length_map]; omega) | (exact rfl)))
    | ((with_reducible refine get_mapS ?_ ?_); (focus first | exact trivial | assumption | omega | (simp only [List.length_cons, List.length_nil, List.length_map]; omega) | (exact rfl)))
    | ((with_reducible refine get_c ?_ ?_); (focus first | exact trivial | assumption | omega | (simp only [List.length_cons, List.length_nil, List.length_map]; omega) | (exact rfl)))
    | ((with_reducible refine get_map ?_ ?_); (focus first | exact trivial | assumption | omega | (simp only [List.length_cons, List.length_nil, List.length_map]; omega) | (exact rfl)))
    | ((with_reducible refine le_and ?_ ?_); (focus first | exact trivial | assumption | omega | (simp only [List.length_cons, List.length_nil, List.length_map]; omega) | (exact rfl)))
    | ((with_reducible refine rg1_and ?_ ?_); (focus first | exact trivial | assumption | omega | (simp only [List.length_cons, List.length_nil, List.length_map]; omega) | (exact rfl)))
    | ((with_reducible refine rg2_and ?_ ?_); (focus first | exact trivial | assumption | omega | (simp only [List.length_cons, List.length_nil, List.length_map]; omega) | (exact rfl)))
    | (with_reducible refine eq_and ?_)
    | (with_reducible refine wpB_two ?_)
    | (with_reducible refine wpB_one ?_)
    | (with_reducible refine wpG_nil ?_)
    | (with_reducible refine wpG_cons ?_)
    | (with_reducible refine wpG_mnil ?_)
    | (with_reducible refine wpG_mcons ?_)
    | (with_reducible refine tgt_gN ?_)
    | (with_reducible refine tgt_gT2 ?_)
    | (with_reducible refine tgt_gT3 ?_))
local macro_rules
  | `(tactic| sizeOf_list_dec) => `(tactic| repeat array_get_dec)

section
set_option maxRecDepth 100000
set_option maxHeartbeats 400000
/-! D20d: clashes, witnesses, refusals. -/
open PySem Dt Pm
variable {X : ExD → Sl → Prop}
theorem Good.perm {n : Nat} {l l' : List (List Nat)} (h : Good n l) (p : l'.Perm l) : Good n l' := ⟨h.n1, h.n6, fun e => h.ne (by rw [e] at p; exact p.symm.eq_nil), by rw [p.length_eq]; exact h.sz, p.nodup_iff.mpr h.nd, fun r hr => h.row r (p.mem_iff.mp hr)⟩
def NoClash (n : Nat) (l : List (List Nat)) (x : D) : Prop := ∀ p, x = .str p → p ∈ partsL n → isClash l p = false
end
end Pg
end
section
namespace Pg
open PySem Dt Pm
local macro_rules
  | `(tactic| array_get_dec) => `(tactic| first
    | ((with_reducible refine guard_E ?_); (first
      | (with_reducible refine wp_toA ?_)
      | ((with_reducible refine v_oName ?_); (refine ⟨_, rfl, ?_⟩))
      | ((with_reducible refine o_oName ?_); (refine ⟨_, rfl, ?_⟩))
      | (with_reducible refine wp_asCons ?_)
      | (with_reducible refine wp_asNil ?_)
      | (with_reducible refine wp_eC ?_)
      | (with_reducible refine wp_eOp ?_)
      | ((with_reducible refine v_opM ?_); (refine ⟨_, _, rfl, rfl, ?_⟩))
      | (with_reducible refine wp_eCall ?_)
      | ((with_reducible refine v_callM ?_ ?_); (focus (simp only [Dt.sidx]; decide)))
      | ((with_reducible refine v_eName ?_); (refine ⟨_, rfl, ?_⟩))
      | ((with_reducible refine o_eName ?_); (refine ⟨_, _, rfl, rfl, ?_⟩))
      | ((with_reducible refine r_eName ?_); (refine ⟨_, _, rfl, by assumption, ?_⟩))
      | (with_reducible refine wp_toB ?_)
      | (with_reducible refine wp_eTup ?_)
      | (with_reducible refine wp_eLst ?_)
      | (with_reducible refine wp_eB ?_)
      | (with_reducible refine v_bM ?_)
      | (with_reducible refine wp_eBM ?_)
      | ((with_reducible refine v_tyM ?_); (refine ⟨_, rfl, rfl, ?_⟩))
      | (with_reducible refine wp_bind ?_)
      | (with_reducible refine wp_ret ?_)
      | (with_reducible refine wp_eChain ?_)
      | (with_reducible refine wp_eChain3 ?_)
      | (with_reducible refine wp_bAnd ?_)
      | (with_reducible refine wp_bOr ?_)
      | (with_reducible refine wp_bNot ?_)
      | (with_reducible refine wp_eAnd ?_)
      | (with_reducible refine wp_eOr ?_)
      | (with_reducible refine wp_eNot ?_)
      | (with_reducible refine wp_eIf ?_)
      | (with_reducible refine wp_iOf ?_)
      | (with_reducible refine wp_iRange1 ?_)
      | (with_reducible refine wp_iRange2 ?_)
      | (with_reducible refine wp_iEnum1 ?_)
      | (with_reducible refine wp_iZip2 ?_)
      | ((with_reducible refine wp_mutM ?_ ?_); (focus exact rfl))
      | (with_reducible refine wp_atV ?_)
      | ((with_reducible refine wp_grd ?_ ?_); (focus exact rfl))
      | ((with_reducible refine v_setLM ?_); (refine ⟨_, rfl, ?_⟩))
      | (with_reducible refine wp_eSlice ?_)
      | (with_reducible refine wp_eRev ?_)
      | (with_reducible refine wp_pNo ?_)
      | (with_reducible refine wp_pYes ?_)
      | (with_reducible refine wp_eIsi ?_)
      | (with_reducible refine wp_eMaxD ?_)
      | (with_reducible refine wp_eNeg ?_)
      | (with_reducible refine wp_eDict0 ?_)
      | ((with_reducible refine v_disp1 ?_); (refine ⟨_, rfl, ?_⟩))
      | (with_reducible refine wp_eFld ?_)
      | ((with_reducible refine v_setFM ?_); (refine ⟨_, _, _, rfl, rfl, rfl, ?_⟩))
      | (with_reducible refine wp_eMeth ?_)
      | (with_reducible refine wp_eProp ?_)
      | (with_reducible refine wp_eOpM ?_)
      | (with_reducible refine wp_inO ?_)
      | (with_reducible refine wp_spO ?_)
      | (with_reducible refine wp_spO1 ?_)
      | (with_reducible refine wp_eCMeth ?_)
      | (with_reducible refine wp_eMake ?_)
      | (with_reducible refine wp_eMakeS ?_)
      | ((with_reducible refine wp_eMakeSL ?_ ?_); (focus exact rfl))
      | (with_reducible refine wp_eComp ?_)
      | (with_reducible refine wp_eComp2 ?_)
      | ((with_reducible refine v_funD ?_ ?_); (focus exact rfl); (with_reducible apply fin_mk); (focus (first | (conv => lhs; simp only [List.set_cons_zero, List.set_cons_succ, slotOf, vI, vB, back, put1, isOwn, wipeE, List.take_succ_cons, List.take_zero, List.cons_append, List.nil_append, List.replicate_succ, List.replicate_zero, Nat.reduceSub, List.getElem?_cons_zero, List.getElem?_cons_succ, if_true, if_false, Bool.false_eq_true, List.set_nil]) | skip); (first | done | exact rfl)))))
    | ((with_reducible refine guard_O ?_); (first
      | (with_reducible refine wpo_frz_v ?_)
      | (with_reducible refine wpo_frz_I ?_)
      | (with_reducible refine wpo_frz_B ?_)
      | (with_reducible refine wpo_frz_l ?_)
      | (with_reducible refine wpo_frz_d ?_)
      | (with_reducible refine v_vals ?_)
      | (with_reducible refine wpo_it_l ?_)
      | (with_reducible refine wpo_it_t ?_)
      | ((with_reducible refine wpo_it_s ?_ ?_); (focus first | exact trivial | assumption | omega | (simp only [List.length_cons, List.length_nil, List.length_map]; omega) | (exact rfl)))
      | ((with_reducible refine v_objOf ?_); (refine ⟨_, rfl, ?_⟩))
      | ((with_reducible refine v_objIs ?_); (refine ⟨_, rfl, ?_⟩))
      | (with_reducible refine wpo_isi ?_)
      | ((with_reducible refine v_deref ?_); (refine ⟨_, rfl, ?_⟩))
      | ((with_reducible refine wpo_one ?_ ?_); (focus exact rfl))
      | ((with_reducible refine v_starD ?_); (refine ⟨_, rfl, ?_⟩))
      | (with_reducible refine wpo_ints ?_)
      | (with_reducible refine wpo_ints1 ?_)
      | (with_reducible refine wpo_ints0 ?_)
      | ((with_reducible refine v_ixS ?_ ?_); (focus first | exact trivial | assumption | omega | (simp only [List.length_cons, List.length_nil, List.length_map]; omega) | (exact rfl)))
      | (with_reducible refine v_ix ?_)
      | (with_reducible refine wpo_inSign ?_)
      | ((with_reducible refine wpo_op2 ?_ ?_); (focus first | exact trivial | assumption | omega | (simp only [List.length_cons, List.length_nil, List.length_map]; omega) | (exact rfl)))
      | ((with_reducible refine wpo_op1 ?_ ?_); (focus first | exact trivial | assumption | omega | (simp only [List.length_cons, List.length_nil, List.length_map]; omega) | (exact rfl)))
      | ((with_reducible refine wpo_slS ?_ ?_); (focus first | exact trivial | assumption | omega | (simp only [List.length_cons, List.length_nil, List.length_map]; omega) | (exact rfl)))
      | ((with_reducible refine wpo_revS ?_ ?_); (focus first | exact trivial | assumption | omega | (simp only [List.length_cons, List.length_nil, List.length_map]; omega) | (exact rfl)))
      | (with_reducible refine wpo_revL ?_)
      | (with_reducible refine wpo_revT ?_)
      | (with_reducible refine wpo_slL ?_)
      | (with_reducible refine wpo_slT ?_)
      | (with_reducible refine v_get ?_)
      | (with_reducible refine wpo_bind ?_)
      | (with_reducible refine wpo_map ?_)))
    | ((with_reducible refine guard_S ?_); (first
      | (with_reducible refine wps_seq ?_)
      | (with_reducible refine wps_set ?_)
      | (with_reducible refine wps_expr ?_)
      | (with_reducible refine wps_ret ?_)
      | (with_reducible refine wps_if ?_)
      | (with_reducible refine wps_ifW ?_)
      | (with_reducible refine wps_for ?_)
      | (with_reducible refine wps_nil ?_)
      | (with_reducible refine wps_setL ?_)
      | (with_reducible refine wps_par ?_)
      | (with_reducible refine wps_par1 ?_)
      | (with_reducible refine wps_parC' ?_)
      | (with_reducible refine wps_parN ?_)
      | ((with_reducible refine v_retV ?_); (refine ⟨_, rfl, ?_⟩))
      | ((with_reducible refine o_retV ?_); (refine ⟨_, rfl, rfl, ?_⟩))
      | ((with_reducible refine p_retV ?_); (refine ⟨_, _, rfl, rfl, rfl, ?_⟩))
      | (with_reducible refine wps_retN ?_)
      | (with_reducible refine wps_raise ?_)
      | (with_reducible refine wps_break ?_)
      | (with_reducible refine wps_cont ?_)
      | (with_reducible refine wps_try ?_)
      | (with_reducible refine wps_tryAs ?_)
      | (with_reducible refine wps_setF ?_)
      | (with_reducible refine wps_setD ?_)
      | (with_reducible refine wps_asg ?_)))
    | ((with_reducible refine fin_g ?_); (with_reducible apply fin_mk); (focus (first | (conv => lhs; simp only [List.set_cons_zero, List.set_cons_succ, slotOf, vI, vB, back, put1, isOwn, wipeE, List.take_succ_cons, List.take_zero, List.cons_append, List.nil_append, List.replicate_succ, List.replicate_zero, Nat.reduceSub, List.getElem?_cons_zero, List.getElem?_cons_succ, if_true, if_false, Bool.false_eq_true, List.set_nil]) | skip); (first | done | exact rfl)))
    | (with_reducible refine rt_mk ?_)
    | (with_reducible refine bk_mk ?_)
    | (with_reducible refine ct_mk ?_)
    | (with_reducible refine ex_mk ?_)
    | (with_reducible refine der_nil ?_)
    | (with_reducible refine der_v ?_)
    | ((with_reducible refine der_s ?_); (refine ⟨_, rfl, ?_⟩))
    | (with_reducible refine val_nil ?_)
    | (with_reducible refine val_v ?_)
    | (with_reducible refine arg_nil ?_)
    | (with_reducible refine arg_v ?_)
    | ((with_reducible refine arg_s ?_); (refine ⟨_, rfl, ?_⟩))
    | ((with_reducible refine v_append ?_); (refine ⟨_, rfl, ?_, ?_⟩); (focus first | exact trivial | assumption | omega | (simp only [List.length_cons, List.length_nil, List.length_map]; omega) | (exact rfl)))
    | ((with_reducible refine v_extend ?_); (refine ⟨_, rfl, ?_, ?_⟩); (focus first | exact trivial | assumption | omega | (simp only [List.length_cons, List.length_nil, List.length_map]; omega) | (exact rfl)))
    | ((with_reducible refine v_pop ?_); (refine ⟨_, rfl, ?_, ?_⟩); (focus first | exact trivial | assumption | omega | (simp only [List.length_cons, List.length_nil, List.length_map]; omega) | (exact rfl)))
    | ((with_reducible refine v_pop0 ?_); (refine ⟨_, rfl, ?_⟩))
    | (with_reducible refine isbl ?_)
    | (with_reducible refine isVd ?_)
    | (with_reducible refine isbl2 ?_)
    | (with_reducible refine isV ?_)
    | (with_reducible refine isI ?_)
    | (with_reducible refine is1v ?_)
    | (with_reducible refine is2v ?_)
    | (with_reducible refine is3 ?_)
    | (with_reducible refine isTI ?_)
    | (with_reducible refine is1i ?_)
    | (with_reducible refine is2i ?_)
    | (with_reducible refine isCons ?_)
    | (with_reducible refine cond_not ?_)
    | (with_reducible refine cond_t ?_)
    | (with_reducible refine cond_f ?_)
    | ((with_reducible refine ixg_mk ?_); (refine ⟨_, rfl, ?_⟩))
    | ((with_reducible refine ixg_neg ?_ ?_); (focus first | exact trivial | assumption | omega | (simp only [List.length_cons, List.length_nil, List.length_map]; omega) | (exact rfl)))
    | ((with_reducible refine ixg_nat ?_ ?_); (focus first | exact trivial | assumption | omega | (simp only [List.length_cons, List.length_nil, List.length_map]; omega) | (exact rfl)))
    | ((with_reducible refine ixg_of ?_ ?_); (focus first | exact trivial | assumption | omega | (simp only [List.length_cons, List.length_nil, List.length_map]; omega) | (exact rfl)))
    | ((with_reducible refine get_mk ?_); (refine ⟨_, rfl, ?_⟩))
    | ((with_reducible refine get_mapE ?_); (refine ⟨_, by assumption, ?_⟩))
    | ((with_reducible refine get_mapI ?_ ?_); (focus first | exact trivial | assumption | omega | (simp only [List.length_cons, List.length_nil, List.length_map]; omega) | (exact rfl)))
    | ((with_reducible refine get_mapS ?_ ?_); (focus first | exact trivial | assumption | omega | (simp only [List.length_cons, List.length_nil, List.length_map]; omega) | (exact rfl)))
    | ((with_reducible refine get_c ?_ ?_); (focus first | exact trivial | assumption | omega | (simp only [List.length_cons, List.length_nil, List.length_map]; omega) | (exact rfl)))
    | ((with_reducible refine get_map ?_ ?_); (focus first | exact trivial | assumption | omega | (simp only [List.length_cons, List.length_nil, List.length_map]; omega) | (exact rfl)))
    | ((with_reducible refine le_and ?_ ?_); (focus first | exact trivial | assumption | omega | (simp only [List.length_cons, List.length_nil, List.length_map]; omega) | (exact rfl)))
    | ((with_reducible refine rg1_and ?_ ?_); (focus first | exact trivial | assumption | omega | (simp only [List.length_cons, List.length_nil, List.length_map]; omega) | (exact rfl)))
    | ((with_reducible refine rg2_and ?_ ?_); (focus first | exact trivial | assumption | omega | (simp only [List.length_cons, List.length_nil, List.length_map]; omega) | (exact rfl)))
    | (with_reducible refine eq_and ?_)
    | (with_reducible refine wpB_two ?_)
    | (with_reducible refine wpB_one ?_)
    | (with_reducible refine wpG_nil ?_)
    | (with_reducible refine wpG_cons ?_)
    | (with_reducible refine wpG_mnil ?_)
    | (with_reducible refine wpG_mcons ?_)
    | (with_reducible refine tgt_gN ?_)
    | (with_reducible refine tgt_gT2 ?_)
    | (with_reducible refine tgt_gT3 ?_))
local macro_rules
  | `(tactic| sizeOf_list_dec) => `(tactic| repeat array_get_dec)

section
set_option maxRecDepth 100000
set_option maxHeartbeats 400000
/-! D20e: the law k22. -/
open PySem Dt Pm
variable {X : ExD → Sl → Prop}
/-- a thing that is no clash of the rows -/
structure Oth (n : Nat) (l : List (List Nat)) (x : D) : Prop where
  pln : Pln x
  len : ∀ s, x = .str s → s.length ≤ 1000
  no : NoClash n l x
end
section
set_option maxRecDepth 100000
set_option maxHeartbeats 400000
/-! D20f: list(clashes(board)); the law k20. -/
open PySem Dt Pm
variable {X : ExD → Sl → Prop}
end
section
set_option maxRecDepth 100000
set_option maxHeartbeats 400000
/-! D27a: rows have no clash: mathematics and walk. -/
open PySem Dt Pm
variable {X : ExD → Sl → Prop}
end
section
set_option maxRecDepth 100000
set_option maxHeartbeats 400000
/-! D23a: premises: the mathematics. -/
open PySem Dt Pm
/-! ### what the rows tell -/
def toldR (r : List Nat) (t : List Int) : List Nat := t.map fun i => r.getD i.toNat 0
def told (l : List (List Nat)) (t : List Int) : List (List Nat) := l.map fun r => toldR r t
def leS (a b : List Nat) : Bool := !decide (b < a)
def sortT (l : List (List Nat)) : List (List Nat) := l.mergeSort leS
theorem leS_trans (a b c : List Nat) (h1 : leS a b = true) (h2 : leS b c = true) : leS a c = true := by
  unfold leS at *
  simp only [Bool.not_eq_true', decide_eq_false_iff_not] at *
  exact le_tr h1 h2
theorem leS_total (a b : List Nat) : (leS a b || leS b a) = true := by
  unfold leS
  by_cases h : b < a
  · have : ¬ a < b := fun h2 => List.lt_asymm h h2
    simp [h, this]
  · simp [h]
theorem sortT_sorted (l : List (List Nat)) : SortedS (sortT l) := by
  have := List.pairwise_mergeSort leS_trans leS_total l
  refine List.Pairwise.imp (fun {a b} h => ?_) this
  unfold leS at h
  simpa using h
theorem sortT_perm (l : List (List Nat)) : (sortT l).Perm l := List.mergeSort_perm ..
theorem met_nodup_of {l : List (List Nat)} (h : (DtS.met l).length = l.length) : l.Nodup := by
  have key : ∀ (l σ : List (List Nat)), σ.Nodup → (l.foldl DtS.stepM σ).length = σ.length + l.length → (σ ++ l).Nodup := by
    intro l
    induction l with
    | nil => intro σ hn _; simpa using hn
    | cons x l ih =>
      intro σ hn h
      rw [List.foldl_cons] at h
      have h1 := DtS.fold_len l (DtS.stepM σ x)
      by_cases hx : σ.any (· == x) = true
      · have e : DtS.stepM σ x = σ := by unfold DtS.stepM; rw [if_pos hx]
        rw [e] at h h1
        simp only [List.length_cons] at h
        omega
      · have e : DtS.stepM σ x = σ ++ [x] := by unfold DtS.stepM; rw [if_neg hx]
        rw [e] at h
        have hxm : x ∉ σ := fun hm => hx (List.any_eq_true.mpr ⟨x, hm, by simp⟩)
        have hn2 : (σ ++ [x]).Nodup := List.nodup_append.mpr ⟨hn, by simp, fun a ha b hb e => hxm (by rw [List.mem_singleton.mp hb] at e; exact e ▸ ha)⟩
        have := ih (σ ++ [x]) hn2 (by simp only [List.length_append, List.length_cons, List.length_nil] at h ⊢; omega)
        simpa using this
  simpa using key l [] List.nodup_nil (by simpa [DtS.met] using h)
end
section
set_option maxRecDepth 100000
set_option maxHeartbeats 400000
/-! D23b: premises: the walk. -/
open PySem Dt Pm
variable {X : ExD → Sl → Prop}
end
section
set_option maxRecDepth 100000
set_option maxHeartbeats 400000
/-! D23c: premises: the program's search; the law k23. -/
open PySem Dt Pm
variable {X : ExD → Sl → Prop}
end
end Pg
end
section
namespace Pg
open PySem Dt Pm
local macro_rules
  | `(tactic| array_get_dec) => `(tactic| first
    | ((with_reducible refine guard_E ?_); (first
      | (with_reducible refine wp_toA ?_)
      | ((with_reducible refine v_oName ?_); (refine ⟨_, rfl, ?_⟩))
      | ((with_reducible refine o_oName ?_); (refine ⟨_, rfl, ?_⟩))
      | (with_reducible refine wp_asCons ?_)
      | (with_reducible refine wp_asNil ?_)
      | (with_reducible refine wp_eC ?_)
      | (with_reducible refine wp_eOp ?_)
      | ((with_reducible refine v_opM ?_); (refine ⟨_, _, rfl, rfl, ?_⟩))
      | (with_reducible refine wp_eCall ?_)
      | ((with_reducible refine v_callM ?_ ?_); (focus (simp only [Dt.sidx]; decide)))
      | ((with_reducible refine v_eName ?_); (refine ⟨_, rfl, ?_⟩))
      | ((with_reducible refine o_eName ?_); (refine ⟨_, _, rfl, rfl, ?_⟩))
      | ((with_reducible refine r_eName ?_); (refine ⟨_, _, rfl, by assumption, ?_⟩))
      | (with_reducible refine wp_toB ?_)
      | (with_reducible refine wp_eTup ?_)
      | (with_reducible refine wp_eLst ?_)
      | (with_reducible refine wp_eB ?_)
      | (with_reducible refine v_bM ?_)
      | (with_reducible refine wp_eBM ?_)
      | ((with_reducible refine v_tyM ?_); (refine ⟨_, rfl, rfl, ?_⟩))
      | (with_reducible refine wp_bind ?_)
      | (with_reducible refine wp_ret ?_)
      | (with_reducible refine wp_eChain ?_)
      | (with_reducible refine wp_eChain3 ?_)
      | (with_reducible refine wp_bAnd ?_)
      | (with_reducible refine wp_bOr ?_)
      | (with_reducible refine wp_bNot ?_)
      | (with_reducible refine wp_eAnd ?_)
      | (with_reducible refine wp_eOr ?_)
      | (with_reducible refine wp_eNot ?_)
      | (with_reducible refine wp_eIf ?_)
      | (with_reducible refine wp_iOf ?_)
      | (with_reducible refine wp_iRange1 ?_)
      | (with_reducible refine wp_iRange2 ?_)
      | (with_reducible refine wp_iEnum1 ?_)
      | (with_reducible refine wp_iZip2 ?_)
      | ((with_reducible refine wp_mutM ?_ ?_); (focus exact rfl))
      | (with_reducible refine wp_atV ?_)
      | ((with_reducible refine wp_grd ?_ ?_); (focus exact rfl))
      | ((with_reducible refine v_setLM ?_); (refine ⟨_, rfl, ?_⟩))
      | (with_reducible refine wp_eSlice ?_)
      | (with_reducible refine wp_eRev ?_)
      | (with_reducible refine wp_eRepl ?_)
      | (with_reducible refine wp_pNo ?_)
      | (with_reducible refine wp_pYes ?_)
      | (with_reducible refine wp_eIsi ?_)
      | (with_reducible refine wp_eMaxD ?_)
      | (with_reducible refine wp_eNeg ?_)
      | (with_reducible refine wp_eDict0 ?_)
      | ((with_reducible refine v_disp1 ?_); (refine ⟨_, rfl, ?_⟩))
      | (with_reducible refine wp_eFld ?_)
      | ((with_reducible refine v_setFM ?_); (refine ⟨_, _, _, rfl, rfl, rfl, ?_⟩))
      | (with_reducible refine wp_eMeth ?_)
      | (with_reducible refine wp_eProp ?_)
      | (with_reducible refine wp_eOpM ?_)
      | (with_reducible refine wp_inO ?_)
      | (with_reducible refine wp_spO ?_)
      | (with_reducible refine wp_spO1 ?_)
      | (with_reducible refine wp_addO ?_)
      | (with_reducible refine wp_eCMeth ?_)
      | (with_reducible refine wp_eMake ?_)
      | (with_reducible refine wp_eMakeS ?_)
      | ((with_reducible refine wp_eMakeSL ?_ ?_); (focus exact rfl))
      | (with_reducible refine wp_eComp ?_)
      | (with_reducible refine wp_eComp2 ?_)
      | ((with_reducible refine v_funD ?_ ?_); (focus exact rfl); (with_reducible apply fin_mk); (focus (first | (conv => lhs; simp only [List.set_cons_zero, List.set_cons_succ, slotOf, vI, vB, back, put1, isOwn, wipeE, List.take_succ_cons, List.take_zero, List.cons_append, List.nil_append, List.replicate_succ, List.replicate_zero, Nat.reduceSub, List.getElem?_cons_zero, List.getElem?_cons_succ, if_true, if_false, Bool.false_eq_true, List.set_nil]) | skip); (first | done | exact rfl)))))
    | ((with_reducible refine guard_O ?_); (first
      | (with_reducible refine wpo_frz_v ?_)
      | (with_reducible refine wpo_frz_I ?_)
      | (with_reducible refine wpo_frz_B ?_)
      | (with_reducible refine wpo_frz_l ?_)
      | (with_reducible refine wpo_frz_d ?_)
      | (with_reducible refine v_vals ?_)
      | (with_reducible refine wpo_it_l ?_)
      | (with_reducible refine wpo_it_t ?_)
      | ((with_reducible refine wpo_it_s ?_ ?_); (focus first | exact trivial | assumption | omega | (simp only [List.length_cons, List.length_nil, List.length_map]; omega) | (exact rfl)))
      | ((with_reducible refine v_objOf ?_); (refine ⟨_, rfl, ?_⟩))
      | ((with_reducible refine v_objIs ?_); (refine ⟨_, rfl, ?_⟩))
      | (with_reducible refine wpo_isi ?_)
      | ((with_reducible refine v_deref ?_); (refine ⟨_, rfl, ?_⟩))
      | ((with_reducible refine wpo_one ?_ ?_); (focus exact rfl))
      | ((with_reducible refine wpo_okAdd ?_ ?_); (focus exact rfl))
      | ((with_reducible refine v_starD ?_); (refine ⟨_, rfl, ?_⟩))
      | (with_reducible refine wpo_ints ?_)
      | (with_reducible refine wpo_ints1 ?_)
      | (with_reducible refine wpo_ints0 ?_)
      | ((with_reducible refine v_ixS ?_ ?_); (focus first | exact trivial | assumption | omega | (simp only [List.length_cons, List.length_nil, List.length_map]; omega) | (exact rfl)))
      | (with_reducible refine v_ix ?_)
      | (with_reducible refine wpo_inSign ?_)
      | ((with_reducible refine wpo_op2 ?_ ?_); (focus first | exact trivial | assumption | omega | (simp only [List.length_cons, List.length_nil, List.length_map]; omega) | (exact rfl)))
      | ((with_reducible refine wpo_op1 ?_ ?_); (focus first | exact trivial | assumption | omega | (simp only [List.length_cons, List.length_nil, List.length_map]; omega) | (exact rfl)))
      | ((with_reducible refine wpo_slS ?_ ?_); (focus first | exact trivial | assumption | omega | (simp only [List.length_cons, List.length_nil, List.length_map]; omega) | (exact rfl)))
      | ((with_reducible refine wpo_revS ?_ ?_); (focus first | exact trivial | assumption | omega | (simp only [List.length_cons, List.length_nil, List.length_map]; omega) | (exact rfl)))
      | ((with_reducible refine wpo_replS ?_ ?_); (focus first | exact trivial | assumption | omega | (simp only [List.length_cons, List.length_nil, List.length_map]; omega) | (exact rfl)))
      | (with_reducible refine wpo_revL ?_)
      | (with_reducible refine wpo_revT ?_)
      | (with_reducible refine wpo_slL ?_)
      | (with_reducible refine wpo_slT ?_)
      | (with_reducible refine v_get ?_)
      | (with_reducible refine wpo_bind ?_)
      | (with_reducible refine wpo_map ?_)))
    | ((with_reducible refine guard_S ?_); (first
      | (with_reducible refine wps_seq ?_)
      | (with_reducible refine wps_set ?_)
      | (with_reducible refine wps_expr ?_)
      | (with_reducible refine wps_ret ?_)
      | (with_reducible refine wps_if ?_)
      | (with_reducible refine wps_ifW ?_)
      | (with_reducible refine wps_for ?_)
      | (with_reducible refine wps_nil ?_)
      | (with_reducible refine wps_setL ?_)
      | (with_reducible refine wps_par ?_)
      | (with_reducible refine wps_par1 ?_)
      | (with_reducible refine wps_parC' ?_)
      | (with_reducible refine wps_parN ?_)
      | ((with_reducible refine v_retV ?_); (refine ⟨_, rfl, ?_⟩))
      | ((with_reducible refine o_retV ?_); (refine ⟨_, rfl, rfl, ?_⟩))
      | ((with_reducible refine p_retV ?_); (refine ⟨_, _, rfl, rfl, rfl, ?_⟩))
      | (with_reducible refine wps_retN ?_)
      | (with_reducible refine wps_raise ?_)
      | (with_reducible refine wps_break ?_)
      | (with_reducible refine wps_cont ?_)
      | (with_reducible refine wps_try ?_)
      | (with_reducible refine wps_tryAs ?_)
      | (with_reducible refine wps_tryM ?_)
      | (with_reducible refine wps_setF ?_)
      | (with_reducible refine wps_setD ?_)
      | (with_reducible refine wps_asg ?_)))
    | ((with_reducible refine fin_g ?_); (with_reducible apply fin_mk); (focus (first | (conv => lhs; simp only [List.set_cons_zero, List.set_cons_succ, slotOf, vI, vB, back, put1, isOwn, wipeE, List.take_succ_cons, List.take_zero, List.cons_append, List.nil_append, List.replicate_succ, List.replicate_zero, Nat.reduceSub, List.getElem?_cons_zero, List.getElem?_cons_succ, if_true, if_false, Bool.false_eq_true, List.set_nil]) | skip); (first | done | exact rfl)))
    | (with_reducible refine rt_mk ?_)
    | (with_reducible refine bk_mk ?_)
    | (with_reducible refine ct_mk ?_)
    | (with_reducible refine ex_mk ?_)
    | (with_reducible refine der_nil ?_)
    | (with_reducible refine der_v ?_)
    | ((with_reducible refine der_s ?_); (refine ⟨_, rfl, ?_⟩))
    | (with_reducible refine val_nil ?_)
    | (with_reducible refine val_v ?_)
    | (with_reducible refine arg_nil ?_)
    | (with_reducible refine arg_v ?_)
    | ((with_reducible refine arg_s ?_); (refine ⟨_, rfl, ?_⟩))
    | ((with_reducible refine v_append ?_); (refine ⟨_, rfl, ?_, ?_⟩); (focus first | exact trivial | assumption | omega | (simp only [List.length_cons, List.length_nil, List.length_map]; omega) | (exact rfl)))
    | ((with_reducible refine v_extend ?_); (refine ⟨_, rfl, ?_, ?_⟩); (focus first | exact trivial | assumption | omega | (simp only [List.length_cons, List.length_nil, List.length_map]; omega) | (exact rfl)))
    | ((with_reducible refine v_pop ?_); (refine ⟨_, rfl, ?_, ?_⟩); (focus first | exact trivial | assumption | omega | (simp only [List.length_cons, List.length_nil, List.length_map]; omega) | (exact rfl)))
    | ((with_reducible refine v_pop0 ?_); (refine ⟨_, rfl, ?_⟩))
    | (with_reducible refine isbl ?_)
    | (with_reducible refine isVd ?_)
    | (with_reducible refine isbl2 ?_)
    | (with_reducible refine isV ?_)
    | (with_reducible refine isI ?_)
    | (with_reducible refine is1v ?_)
    | (with_reducible refine is2v ?_)
    | (with_reducible refine is3 ?_)
    | (with_reducible refine isTI ?_)
    | (with_reducible refine is1i ?_)
    | (with_reducible refine is2i ?_)
    | (with_reducible refine isCons ?_)
    | (with_reducible refine cond_not ?_)
    | (with_reducible refine cond_t ?_)
    | (with_reducible refine cond_f ?_)
    | ((with_reducible refine ixg_mk ?_); (refine ⟨_, rfl, ?_⟩))
    | ((with_reducible refine ixg_neg ?_ ?_); (focus first | exact trivial | assumption | omega | (simp only [List.length_cons, List.length_nil, List.length_map]; omega) | (exact rfl)))
    | ((with_reducible refine ixg_nat ?_ ?_); (focus first | exact trivial | assumption | omega | (simp only [List.length_cons, List.length_nil, List.length_map]; omega) | (exact rfl)))
    | ((with_reducible refine ixg_of ?_ ?_); (focus first | exact trivial | assumption | omega | (simp only [List.length_cons, List.length_nil, List.length_map]; omega) | (exact rfl)))
    | ((with_reducible refine get_mk ?_); (refine ⟨_, rfl, ?_⟩))
    | ((with_reducible refine get_mapE ?_); (refine ⟨_, by assumption, ?_⟩))
    | ((with_reducible refine get_mapI ?_ ?_); (focus first | exact trivial | assumption | omega | (simp only [List.length_cons, List.length_nil, List.length_map]; omega) | (exact rfl)))
    | ((with_reducible refine get_mapS ?_ ?_); (focus first | exact trivial | assumption | omega | (simp only [List.length_cons, List.length_nil, List.length_map]; omega) | (exact rfl)))
    | ((with_reducible refine get_c ?_ ?_); (focus first | exact trivial | assumption | omega | (simp only [List.length_cons, List.length_nil, List.length_map]; omega) | (exact rfl)))
    | ((with_reducible refine get_map ?_ ?_); (focus first | exact trivial | assumption | omega | (simp only [List.length_cons, List.length_nil, List.length_map]; omega) | (exact rfl)))
    | ((with_reducible refine le_and ?_ ?_); (focus first | exact trivial | assumption | omega | (simp only [List.length_cons, List.length_nil, List.length_map]; omega) | (exact rfl)))
    | ((with_reducible refine rg1_and ?_ ?_); (focus first | exact trivial | assumption | omega | (simp only [List.length_cons, List.length_nil, List.length_map]; omega) | (exact rfl)))
    | ((with_reducible refine rg2_and ?_ ?_); (focus first | exact trivial | assumption | omega | (simp only [List.length_cons, List.length_nil, List.length_map]; omega) | (exact rfl)))
    | (with_reducible refine eq_and ?_)
    | (with_reducible refine wpB_two ?_)
    | (with_reducible refine wpB_one ?_)
    | (with_reducible refine wpG_nil ?_)
    | (with_reducible refine wpG_cons ?_)
    | (with_reducible refine wpG_mnil ?_)
    | (with_reducible refine wpG_mcons ?_)
    | (with_reducible refine tgt_gN ?_)
    | (with_reducible refine tgt_gT2 ?_)
    | (with_reducible refine tgt_gT3 ?_))
local macro_rules
  | `(tactic| sizeOf_list_dec) => `(tactic| repeat array_get_dec)

section
set_option maxRecDepth 100000
set_option maxHeartbeats 400000
/-! D24a: what premises settle. -/
open PySem Dt Pm
variable {X : ExD → Sl → Prop}
theorem is_answers_any {m : Nat} {x : D} {Q : EV → Sl → Prop} (hm : m ≤ 6) (hx : Pln x) (hl : ∀ s, x = .str s → s.length ≤ 1000) (k : ∀ b : Bool, (b = true ↔ ∃ a, x = .str a ∧ a ∈ allR m) → Q (.v (.bl b)) [.val x, .val (.int m)]) : wp sem_is_answers [.val x, .val (.int m)] Q X := by
  unfold sem_is_answers bd_is_answers
  have no : ∀ {y : D}, (∀ s, y ≠ .str s) → (false = true ↔ ∃ a, y = .str a ∧ a ∈ allR m) := fun h => ⟨fun h => (by cases h), fun ⟨a, e, _⟩ => absurd e (h a)⟩
  cases x with
  | str s =>
    have hsl := hl s rfl
    sizeOf_list_dec
    refine cond_eq (fun q => ?_) (fun q => ?_)
    · sizeOf_list_dec
      refine wpc_map (fun c => .bl (decide (c ∈ [48, 49]))) (fun c hc => tgt_gN ?_) ?_
      · sizeOf_list_dec
        unfold lp_is_answers_0
        sizeOf_list_dec
        exact ⟨rfl, rfl⟩
      · sizeOf_list_dec
        refine k _ ⟨fun hb => ⟨s, rfl, mem_allR.mpr ⟨by omega, fun c hc => ?_⟩⟩, fun ⟨a, e, ha⟩ => ?_⟩
        · have := of_decide_eq_true (List.all_eq_true.mp hb c hc)
          simpa using this
        · cases e
          refine List.all_eq_true.mpr fun c hc => decide_eq_true ?_
          rcases (mem_allR.mp ha).2 c hc with e | e <;> simp [e]
    · sizeOf_list_dec
      exact k false ⟨fun h => (by cases h), fun ⟨a, e, ha⟩ => by cases e; exact absurd (show (s.length : Int) = m by rw [(mem_allR.mp ha).1]) q⟩
  | obj t fs => exact hx.no_obj.elim
  | raw v => exact hx.no_raw.elim
  | scr v => exact hx.no_scr.elim
  | clo f us ds => exact hx.no_clo.elim
  | _ => sizeOf_list_dec; exact k false (no fun s e => by cases e)
end
end Pg
end
section
namespace Pg
open PySem Dt Pm
local macro_rules
  | `(tactic| array_get_dec) => `(tactic| first
    | ((with_reducible refine guard_E ?_); (first
      | (with_reducible refine wp_toA ?_)
      | ((with_reducible refine v_oName ?_); (refine ⟨_, rfl, ?_⟩))
      | ((with_reducible refine o_oName ?_); (refine ⟨_, rfl, ?_⟩))
      | (with_reducible refine wp_asCons ?_)
      | (with_reducible refine wp_asNil ?_)
      | (with_reducible refine wp_eC ?_)
      | (with_reducible refine wp_eOp ?_)
      | ((with_reducible refine v_opM ?_); (refine ⟨_, _, rfl, rfl, ?_⟩))
      | (with_reducible refine wp_eCall ?_)
      | ((with_reducible refine v_callM ?_ ?_); (focus (simp only [Dt.sidx]; decide)))
      | ((with_reducible refine v_eName ?_); (refine ⟨_, rfl, ?_⟩))
      | ((with_reducible refine o_eName ?_); (refine ⟨_, _, rfl, rfl, ?_⟩))
      | ((with_reducible refine r_eName ?_); (refine ⟨_, _, rfl, by assumption, ?_⟩))
      | (with_reducible refine wp_toB ?_)
      | (with_reducible refine wp_eTup ?_)
      | (with_reducible refine wp_eLst ?_)
      | (with_reducible refine wp_eB ?_)
      | (with_reducible refine v_bM ?_)
      | (with_reducible refine wp_eBM ?_)
      | ((with_reducible refine v_tyM ?_); (refine ⟨_, rfl, rfl, ?_⟩))
      | (with_reducible refine wp_bind ?_)
      | (with_reducible refine wp_ret ?_)
      | (with_reducible refine wp_eChain ?_)
      | (with_reducible refine wp_eChain3 ?_)
      | (with_reducible refine wp_bAnd ?_)
      | (with_reducible refine wp_bOr ?_)
      | (with_reducible refine wp_bNot ?_)
      | (with_reducible refine wp_eAnd ?_)
      | (with_reducible refine wp_eOr ?_)
      | (with_reducible refine wp_eNot ?_)
      | (with_reducible refine wp_eIf ?_)
      | (with_reducible refine wp_iOf ?_)
      | (with_reducible refine wp_iRange1 ?_)
      | (with_reducible refine wp_iRange2 ?_)
      | (with_reducible refine wp_iEnum1 ?_)
      | (with_reducible refine wp_iZip2 ?_)
      | ((with_reducible refine wp_mutM ?_ ?_); (focus exact rfl))
      | (with_reducible refine wp_atV ?_)
      | ((with_reducible refine wp_grd ?_ ?_); (focus exact rfl))
      | ((with_reducible refine v_setLM ?_); (refine ⟨_, rfl, ?_⟩))
      | (with_reducible refine wp_eSlice ?_)
      | (with_reducible refine wp_eRev ?_)
      | (with_reducible refine wp_pNo ?_)
      | (with_reducible refine wp_pYes ?_)
      | (with_reducible refine wp_eIsi ?_)
      | (with_reducible refine wp_eMaxD ?_)
      | (with_reducible refine wp_eNeg ?_)
      | (with_reducible refine wp_eDict0 ?_)
      | ((with_reducible refine v_disp1 ?_); (refine ⟨_, rfl, ?_⟩))
      | (with_reducible refine wp_eFld ?_)
      | ((with_reducible refine v_setFM ?_); (refine ⟨_, _, _, rfl, rfl, rfl, ?_⟩))
      | (with_reducible refine wp_eMeth ?_)
      | (with_reducible refine wp_eProp ?_)
      | (with_reducible refine wp_eOpM ?_)
      | (with_reducible refine wp_inO ?_)
      | (with_reducible refine wp_spO ?_)
      | (with_reducible refine wp_spO1 ?_)
      | (with_reducible refine wp_eCMeth ?_)
      | (with_reducible refine wp_eMake ?_)
      | (with_reducible refine wp_eMakeS ?_)
      | ((with_reducible refine wp_eMakeSL ?_ ?_); (focus exact rfl))
      | (with_reducible refine wp_eComp ?_)
      | (with_reducible refine wp_eComp2 ?_)
      | ((with_reducible refine v_funD ?_ ?_); (focus exact rfl); (with_reducible apply fin_mk); (focus (first | (conv => lhs; simp only [List.set_cons_zero, List.set_cons_succ, slotOf, vI, vB, back, put1, isOwn, wipeE, List.take_succ_cons, List.take_zero, List.cons_append, List.nil_append, List.replicate_succ, List.replicate_zero, Nat.reduceSub, List.getElem?_cons_zero, List.getElem?_cons_succ, if_true, if_false, Bool.false_eq_true, List.set_nil]) | skip); (first | done | exact rfl)))))
    | ((with_reducible refine guard_O ?_); (first
      | (with_reducible refine wpo_frz_v ?_)
      | (with_reducible refine wpo_frz_I ?_)
      | (with_reducible refine wpo_frz_B ?_)
      | (with_reducible refine wpo_frz_l ?_)
      | (with_reducible refine wpo_frz_d ?_)
      | (with_reducible refine v_vals ?_)
      | (with_reducible refine wpo_it_l ?_)
      | (with_reducible refine wpo_it_t ?_)
      | ((with_reducible refine wpo_it_s ?_ ?_); (focus first | exact trivial | assumption | omega | (simp only [List.length_cons, List.length_nil, List.length_map]; omega) | (exact rfl)))
      | ((with_reducible refine v_objOf ?_); (refine ⟨_, rfl, ?_⟩))
      | ((with_reducible refine v_objIs ?_); (refine ⟨_, rfl, ?_⟩))
      | (with_reducible refine wpo_isi ?_)
      | ((with_reducible refine v_deref ?_); (refine ⟨_, rfl, ?_⟩))
      | ((with_reducible refine wpo_one ?_ ?_); (focus exact rfl))
      | ((with_reducible refine v_starD ?_); (refine ⟨_, rfl, ?_⟩))
      | (with_reducible refine wpo_ints ?_)
      | (with_reducible refine wpo_ints1 ?_)
      | (with_reducible refine wpo_ints0 ?_)
      | ((with_reducible refine v_ixS ?_ ?_); (focus first | exact trivial | assumption | omega | (simp only [List.length_cons, List.length_nil, List.length_map]; omega) | (exact rfl)))
      | (with_reducible refine v_ix ?_)
      | (with_reducible refine wpo_inSign ?_)
      | ((with_reducible refine wpo_op2 ?_ ?_); (focus first | exact trivial | assumption | omega | (simp only [List.length_cons, List.length_nil, List.length_map]; omega) | (exact rfl)))
      | ((with_reducible refine wpo_op1 ?_ ?_); (focus first | exact trivial | assumption | omega | (simp only [List.length_cons, List.length_nil, List.length_map]; omega) | (exact rfl)))
      | ((with_reducible refine wpo_slS ?_ ?_); (focus first | exact trivial | assumption | omega | (simp only [List.length_cons, List.length_nil, List.length_map]; omega) | (exact rfl)))
      | ((with_reducible refine wpo_revS ?_ ?_); (focus first | exact trivial | assumption | omega | (simp only [List.length_cons, List.length_nil, List.length_map]; omega) | (exact rfl)))
      | (with_reducible refine wpo_revL ?_)
      | (with_reducible refine wpo_revT ?_)
      | (with_reducible refine wpo_slL ?_)
      | (with_reducible refine wpo_slT ?_)
      | (with_reducible refine v_get ?_)
      | (with_reducible refine wpo_bind ?_)
      | (with_reducible refine wpo_map ?_)))
    | ((with_reducible refine guard_S ?_); (first
      | (with_reducible refine wps_seq ?_)
      | (with_reducible refine wps_set ?_)
      | (with_reducible refine wps_expr ?_)
      | (with_reducible refine wps_ret ?_)
      | (with_reducible refine wps_if ?_)
      | (with_reducible refine wps_ifW ?_)
      | (with_reducible refine wps_for ?_)
      | (with_reducible refine wps_nil ?_)
      | (with_reducible refine wps_setL ?_)
      | (with_reducible refine wps_par ?_)
      | (with_reducible refine wps_par1 ?_)
      | (with_reducible refine wps_parC' ?_)
      | (with_reducible refine wps_parN ?_)
      | ((with_reducible refine v_retV ?_); (refine ⟨_, rfl, ?_⟩))
      | ((with_reducible refine o_retV ?_); (refine ⟨_, rfl, rfl, ?_⟩))
      | ((with_reducible refine p_retV ?_); (refine ⟨_, _, rfl, rfl, rfl, ?_⟩))
      | (with_reducible refine wps_retN ?_)
      | (with_reducible refine wps_raise ?_)
      | (with_reducible refine wps_break ?_)
      | (with_reducible refine wps_cont ?_)
      | (with_reducible refine wps_try ?_)
      | (with_reducible refine wps_tryAs ?_)
      | (with_reducible refine wps_setF ?_)
      | (with_reducible refine wps_setD ?_)
      | (with_reducible refine wps_asg ?_)))
    | ((with_reducible refine fin_g ?_); (with_reducible apply fin_mk); (focus (first | (conv => lhs; simp only [List.set_cons_zero, List.set_cons_succ, slotOf, vI, vB, back, put1, isOwn, wipeE, List.take_succ_cons, List.take_zero, List.cons_append, List.nil_append, List.replicate_succ, List.replicate_zero, Nat.reduceSub, List.getElem?_cons_zero, List.getElem?_cons_succ, if_true, if_false, Bool.false_eq_true, List.set_nil]) | skip); (first | done | exact rfl)))
    | (with_reducible refine rt_mk ?_)
    | (with_reducible refine bk_mk ?_)
    | (with_reducible refine ct_mk ?_)
    | (with_reducible refine ex_mk ?_)
    | (with_reducible refine der_nil ?_)
    | (with_reducible refine der_v ?_)
    | ((with_reducible refine der_s ?_); (refine ⟨_, rfl, ?_⟩))
    | (with_reducible refine val_nil ?_)
    | (with_reducible refine val_v ?_)
    | (with_reducible refine arg_nil ?_)
    | (with_reducible refine arg_v ?_)
    | ((with_reducible refine arg_s ?_); (refine ⟨_, rfl, ?_⟩))
    | ((with_reducible refine v_append ?_); (refine ⟨_, rfl, ?_, ?_⟩); (focus first | exact trivial | assumption | omega | (simp only [List.length_cons, List.length_nil, List.length_map]; omega) | (exact rfl)))
    | ((with_reducible refine v_extend ?_); (refine ⟨_, rfl, ?_, ?_⟩); (focus first | exact trivial | assumption | omega | (simp only [List.length_cons, List.length_nil, List.length_map]; omega) | (exact rfl)))
    | ((with_reducible refine v_pop ?_); (refine ⟨_, rfl, ?_, ?_⟩); (focus first | exact trivial | assumption | omega | (simp only [List.length_cons, List.length_nil, List.length_map]; omega) | (exact rfl)))
    | ((with_reducible refine v_pop0 ?_); (refine ⟨_, rfl, ?_⟩))
    | (with_reducible refine isbl ?_)
    | (with_reducible refine isVd ?_)
    | (with_reducible refine isbl2 ?_)
    | (with_reducible refine isV ?_)
    | (with_reducible refine isI ?_)
    | (with_reducible refine is1v ?_)
    | (with_reducible refine is2v ?_)
    | (with_reducible refine is3 ?_)
    | (with_reducible refine isTI ?_)
    | (with_reducible refine is1i ?_)
    | (with_reducible refine is2i ?_)
    | (with_reducible refine isCons ?_)
    | (with_reducible refine cond_not ?_)
    | (with_reducible refine cond_t ?_)
    | (with_reducible refine cond_f ?_)
    | ((with_reducible refine ixg_mk ?_); (refine ⟨_, rfl, ?_⟩))
    | ((with_reducible refine ixg_neg ?_ ?_); (focus first | exact trivial | assumption | omega | (simp only [List.length_cons, List.length_nil, List.length_map]; omega) | (exact rfl)))
    | ((with_reducible refine ixg_nat ?_ ?_); (focus first | exact trivial | assumption | omega | (simp only [List.length_cons, List.length_nil, List.length_map]; omega) | (exact rfl)))
    | ((with_reducible refine ixg_of ?_ ?_); (focus first | exact trivial | assumption | omega | (simp only [List.length_cons, List.length_nil, List.length_map]; omega) | (exact rfl)))
    | ((with_reducible refine get_mk ?_); (refine ⟨_, rfl, ?_⟩))
    | ((with_reducible refine get_mapE ?_); (refine ⟨_, by assumption, ?_⟩))
    | ((with_reducible refine get_mapI ?_ ?_); (focus first | exact trivial | assumption | omega | (simp only [List.length_cons, List.length_nil, List.length_map]; omega) | (exact rfl)))
    | ((with_reducible refine get_mapS ?_ ?_); (focus first | exact trivial | assumption | omega | (simp only [List.length_cons, List.length_nil, List.length_map]; omega) | (exact rfl)))
    | ((with_reducible refine get_c ?_ ?_); (focus first | exact trivial | assumption | omega | (simp only [List.length_cons, List.length_nil, List.length_map]; omega) | (exact rfl)))
    | ((with_reducible refine get_map ?_ ?_); (focus first | exact trivial | assumption | omega | (simp only [List.length_cons, List.length_nil, List.length_map]; omega) | (exact rfl)))
    | ((with_reducible refine le_and ?_ ?_); (focus first | exact trivial | assumption | omega | (simp only [List.length_cons, List.length_nil, List.length_map]; omega) | (exact rfl)))
    | ((with_reducible refine rg1_and ?_ ?_); (focus first | exact trivial | assumption | omega | (simp only [List.length_cons, List.length_nil, List.length_map]; omega) | (exact rfl)))
    | ((with_reducible refine rg2_and ?_ ?_); (focus first | exact trivial | assumption | omega | (simp only [List.length_cons, List.length_nil, List.length_map]; omega) | (exact rfl)))
    | (with_reducible refine eq_and ?_)
    | (with_reducible refine wpB_two ?_)
    | (with_reducible refine wpB_one ?_)
    | (with_reducible refine wpG_nil ?_)
    | (with_reducible refine wpG_cons ?_)
    | (with_reducible refine wpG_mnil ?_)
    | (with_reducible refine wpG_mcons ?_)
    | (with_reducible refine tgt_gN ?_)
    | (with_reducible refine tgt_gT2 ?_)
    | (with_reducible refine tgt_gT3 ?_))
local macro_rules
  | `(tactic| sizeOf_list_dec) => `(tactic| repeat array_get_dec)

section
set_option maxRecDepth 100000
set_option maxHeartbeats 400000
/-! D24b: odd answers; the law k24. -/
open PySem Dt Pm
variable {X : ExD → Sl → Prop}
theorem mulY_of {x y : D} {r : EV} (h : mulX x y = some r) : mulY x y = some r := by
  unfold mulY orD
  rw [h]
instance {s : List Nat} {b : Int} {c : Prop} {r : EV} [i : Op2 mulX (.str s) (.int b) c r] : Op2 mulY (.str s) (.int b) c r := ⟨fun h => mulY_of (i.of h)⟩
instance {s : List D} {b : Int} {c : Prop} {r : EV} [i : Op2 mulX (.lst s) (.int b) c r] : Op2 mulY (.lst s) (.int b) c r := ⟨fun h => mulY_of (i.of h)⟩
/-- no answer to n premises -/
structure Odd (n : Nat) (d : D) : Prop where
  pln : Pln d
  len : ∀ s, d = .str s → s.length ≤ 1000
  no : ∀ a, d = .str a → a ∉ allR n
end
section
set_option maxRecDepth 100000
set_option maxHeartbeats 400000
/-! D24c: right answers. -/
open PySem Dt Pm
variable {X : ExD → Sl → Prop}
end
section
set_option maxRecDepth 100000
set_option maxHeartbeats 400000
/-! D24d: the law k24. -/
open PySem Dt Pm
variable {X : ExD → Sl → Prop}
end
section
set_option maxRecDepth 100000
set_option maxHeartbeats 400000
/-! D28a: premises settle all: mathematics and walk. -/
open PySem Dt Pm
variable {X : ExD → Sl → Prop}
end
section
set_option maxRecDepth 100000
set_option maxHeartbeats 400000
/-! D28b: the walk of k28. -/
open PySem Dt Pm
variable {X : ExD → Sl → Prop}
end
end Pg
end
section
namespace Pg
open PySem Dt Pm
local macro_rules
  | `(tactic| array_get_dec) => `(tactic| first
    | ((with_reducible refine guard_E ?_); (first
      | (with_reducible refine wp_toA ?_)
      | ((with_reducible refine v_oName ?_); (refine ⟨_, rfl, ?_⟩))
      | ((with_reducible refine o_oName ?_); (refine ⟨_, rfl, ?_⟩))
      | (with_reducible refine wp_asCons ?_)
      | (with_reducible refine wp_asNil ?_)
      | (with_reducible refine wp_eC ?_)
      | (with_reducible refine wp_eOp ?_)
      | ((with_reducible refine v_opM ?_); (refine ⟨_, _, rfl, rfl, ?_⟩))
      | (with_reducible refine wp_eCall ?_)
      | ((with_reducible refine v_callM ?_ ?_); (focus (simp only [Dt.sidx]; decide)))
      | ((with_reducible refine v_eName ?_); (refine ⟨_, rfl, ?_⟩))
      | ((with_reducible refine o_eName ?_); (refine ⟨_, _, rfl, rfl, ?_⟩))
      | ((with_reducible refine r_eName ?_); (refine ⟨_, _, rfl, by assumption, ?_⟩))
      | (with_reducible refine wp_toB ?_)
      | (with_reducible refine wp_eTup ?_)
      | (with_reducible refine wp_eLst ?_)
      | (with_reducible refine wp_eB ?_)
      | (with_reducible refine v_bM ?_)
      | (with_reducible refine wp_eBM ?_)
      | ((with_reducible refine v_tyM ?_); (refine ⟨_, rfl, rfl, ?_⟩))
      | (with_reducible refine wp_bind ?_)
      | (with_reducible refine wp_ret ?_)
      | (with_reducible refine wp_eChain ?_)
      | (with_reducible refine wp_eChain3 ?_)
      | (with_reducible refine wp_bAnd ?_)
      | (with_reducible refine wp_bOr ?_)
      | (with_reducible refine wp_bNot ?_)
      | (with_reducible refine wp_eAnd ?_)
      | (with_reducible refine wp_eOr ?_)
      | (with_reducible refine wp_eNot ?_)
      | (with_reducible refine wp_eIf ?_)
      | (with_reducible refine wp_iOf ?_)
      | (with_reducible refine wp_iRange1 ?_)
      | (with_reducible refine wp_iRange2 ?_)
      | (with_reducible refine wp_iEnum1 ?_)
      | (with_reducible refine wp_iZip2 ?_)
      | ((with_reducible refine wp_mutM ?_ ?_); (focus exact rfl))
      | (with_reducible refine wp_atV ?_)
      | ((with_reducible refine wp_grd ?_ ?_); (focus exact rfl))
      | ((with_reducible refine v_setLM ?_); (refine ⟨_, rfl, ?_⟩))
      | (with_reducible refine wp_eSlice ?_)
      | (with_reducible refine wp_eRev ?_)
      | (with_reducible refine wp_eRepl ?_)
      | (with_reducible refine wp_pNo ?_)
      | (with_reducible refine wp_pYes ?_)
      | (with_reducible refine wp_eIsi ?_)
      | (with_reducible refine wp_eMaxD ?_)
      | (with_reducible refine wp_eNeg ?_)
      | (with_reducible refine wp_eDict0 ?_)
      | ((with_reducible refine v_disp1 ?_); (refine ⟨_, rfl, ?_⟩))
      | (with_reducible refine wp_eFld ?_)
      | ((with_reducible refine v_setFM ?_); (refine ⟨_, _, _, rfl, rfl, rfl, ?_⟩))
      | (with_reducible refine wp_eMeth ?_)
      | (with_reducible refine wp_eProp ?_)
      | (with_reducible refine wp_eOpM ?_)
      | (with_reducible refine wp_inO ?_)
      | (with_reducible refine wp_spO ?_)
      | (with_reducible refine wp_spO1 ?_)
      | (with_reducible refine wp_eCMeth ?_)
      | (with_reducible refine wp_eMake ?_)
      | (with_reducible refine wp_eMakeS ?_)
      | ((with_reducible refine wp_eMakeSL ?_ ?_); (focus exact rfl))
      | (with_reducible refine wp_eComp ?_)
      | (with_reducible refine wp_eComp2 ?_)
      | ((with_reducible refine v_funD ?_ ?_); (focus exact rfl); (with_reducible apply fin_mk); (focus (first | (conv => lhs; simp only [List.set_cons_zero, List.set_cons_succ, slotOf, vI, vB, back, put1, isOwn, wipeE, List.take_succ_cons, List.take_zero, List.cons_append, List.nil_append, List.replicate_succ, List.replicate_zero, Nat.reduceSub, List.getElem?_cons_zero, List.getElem?_cons_succ, if_true, if_false, Bool.false_eq_true, List.set_nil]) | skip); (first | done | exact rfl)))))
    | ((with_reducible refine guard_O ?_); (first
      | (with_reducible refine wpo_frz_v ?_)
      | (with_reducible refine wpo_frz_I ?_)
      | (with_reducible refine wpo_frz_B ?_)
      | (with_reducible refine wpo_frz_l ?_)
      | (with_reducible refine wpo_frz_d ?_)
      | (with_reducible refine v_vals ?_)
      | (with_reducible refine wpo_it_l ?_)
      | (with_reducible refine wpo_it_t ?_)
      | ((with_reducible refine wpo_it_s ?_ ?_); (focus first | exact trivial | assumption | omega | (simp only [List.length_cons, List.length_nil, List.length_map]; omega) | (exact rfl)))
      | ((with_reducible refine v_objOf ?_); (refine ⟨_, rfl, ?_⟩))
      | ((with_reducible refine v_objIs ?_); (refine ⟨_, rfl, ?_⟩))
      | (with_reducible refine wpo_isi ?_)
      | ((with_reducible refine v_deref ?_); (refine ⟨_, rfl, ?_⟩))
      | ((with_reducible refine wpo_one ?_ ?_); (focus exact rfl))
      | ((with_reducible refine v_starD ?_); (refine ⟨_, rfl, ?_⟩))
      | (with_reducible refine wpo_ints ?_)
      | (with_reducible refine wpo_ints1 ?_)
      | (with_reducible refine wpo_ints0 ?_)
      | ((with_reducible refine v_ixS ?_ ?_); (focus first | exact trivial | assumption | omega | (simp only [List.length_cons, List.length_nil, List.length_map]; omega) | (exact rfl)))
      | (with_reducible refine v_ix ?_)
      | (with_reducible refine wpo_inSign ?_)
      | ((with_reducible refine wpo_op2 ?_ ?_); (focus first | exact trivial | assumption | omega | (simp only [List.length_cons, List.length_nil, List.length_map]; omega) | (exact rfl)))
      | ((with_reducible refine wpo_op1 ?_ ?_); (focus first | exact trivial | assumption | omega | (simp only [List.length_cons, List.length_nil, List.length_map]; omega) | (exact rfl)))
      | ((with_reducible refine wpo_slS ?_ ?_); (focus first | exact trivial | assumption | omega | (simp only [List.length_cons, List.length_nil, List.length_map]; omega) | (exact rfl)))
      | ((with_reducible refine wpo_revS ?_ ?_); (focus first | exact trivial | assumption | omega | (simp only [List.length_cons, List.length_nil, List.length_map]; omega) | (exact rfl)))
      | ((with_reducible refine wpo_replS ?_ ?_); (focus first | exact trivial | assumption | omega | (simp only [List.length_cons, List.length_nil, List.length_map]; omega) | (exact rfl)))
      | (with_reducible refine wpo_revL ?_)
      | (with_reducible refine wpo_revT ?_)
      | (with_reducible refine wpo_slL ?_)
      | (with_reducible refine wpo_slT ?_)
      | (with_reducible refine v_get ?_)
      | (with_reducible refine wpo_bind ?_)
      | (with_reducible refine wpo_map ?_)))
    | ((with_reducible refine guard_S ?_); (first
      | (with_reducible refine wps_seq ?_)
      | (with_reducible refine wps_set ?_)
      | (with_reducible refine wps_expr ?_)
      | (with_reducible refine wps_ret ?_)
      | (with_reducible refine wps_if ?_)
      | (with_reducible refine wps_ifW ?_)
      | (with_reducible refine wps_for ?_)
      | (with_reducible refine wps_nil ?_)
      | (with_reducible refine wps_setL ?_)
      | (with_reducible refine wps_par ?_)
      | (with_reducible refine wps_par1 ?_)
      | (with_reducible refine wps_parC' ?_)
      | (with_reducible refine wps_parN ?_)
      | ((with_reducible refine v_retV ?_); (refine ⟨_, rfl, ?_⟩))
      | ((with_reducible refine o_retV ?_); (refine ⟨_, rfl, rfl, ?_⟩))
      | ((with_reducible refine p_retV ?_); (refine ⟨_, _, rfl, rfl, rfl, ?_⟩))
      | (with_reducible refine wps_retN ?_)
      | (with_reducible refine wps_raise ?_)
      | (with_reducible refine wps_break ?_)
      | (with_reducible refine wps_cont ?_)
      | (with_reducible refine wps_try ?_)
      | (with_reducible refine wps_tryAs ?_)
      | (with_reducible refine wps_setF ?_)
      | (with_reducible refine wps_setD ?_)
      | (with_reducible refine wps_asg ?_)))
    | ((with_reducible refine fin_g ?_); (with_reducible apply fin_mk); (focus (first | (conv => lhs; simp only [List.set_cons_zero, List.set_cons_succ, slotOf, vI, vB, back, put1, isOwn, wipeE, List.take_succ_cons, List.take_zero, List.cons_append, List.nil_append, List.replicate_succ, List.replicate_zero, Nat.reduceSub, List.getElem?_cons_zero, List.getElem?_cons_succ, if_true, if_false, Bool.false_eq_true, List.set_nil]) | skip); (first | done | exact rfl)))
    | (with_reducible refine rt_mk ?_)
    | (with_reducible refine bk_mk ?_)
    | (with_reducible refine ct_mk ?_)
    | (with_reducible refine ex_mk ?_)
    | (with_reducible refine der_nil ?_)
    | (with_reducible refine der_v ?_)
    | ((with_reducible refine der_s ?_); (refine ⟨_, rfl, ?_⟩))
    | (with_reducible refine val_nil ?_)
    | (with_reducible refine val_v ?_)
    | (with_reducible refine arg_nil ?_)
    | (with_reducible refine arg_v ?_)
    | ((with_reducible refine arg_s ?_); (refine ⟨_, rfl, ?_⟩))
    | ((with_reducible refine v_append ?_); (refine ⟨_, rfl, ?_, ?_⟩); (focus first | exact trivial | assumption | omega | (simp only [List.length_cons, List.length_nil, List.length_map]; omega) | (exact rfl)))
    | ((with_reducible refine v_extend ?_); (refine ⟨_, rfl, ?_, ?_⟩); (focus first | exact trivial | assumption | omega | (simp only [List.length_cons, List.length_nil, List.length_map]; omega) | (exact rfl)))
    | ((with_reducible refine v_pop ?_); (refine ⟨_, rfl, ?_, ?_⟩); (focus first | exact trivial | assumption | omega | (simp only [List.length_cons, List.length_nil, List.length_map]; omega) | (exact rfl)))
    | ((with_reducible refine v_pop0 ?_); (refine ⟨_, rfl, ?_⟩))
    | (with_reducible refine isbl ?_)
    | (with_reducible refine isVd ?_)
    | (with_reducible refine isbl2 ?_)
    | (with_reducible refine isV ?_)
    | (with_reducible refine isI ?_)
    | (with_reducible refine is1v ?_)
    | (with_reducible refine is2v ?_)
    | (with_reducible refine is3 ?_)
    | (with_reducible refine isTI ?_)
    | (with_reducible refine is1i ?_)
    | (with_reducible refine is2i ?_)
    | (with_reducible refine isCons ?_)
    | (with_reducible refine cond_not ?_)
    | (with_reducible refine cond_t ?_)
    | (with_reducible refine cond_f ?_)
    | ((with_reducible refine ixg_mk ?_); (refine ⟨_, rfl, ?_⟩))
    | ((with_reducible refine ixg_neg ?_ ?_); (focus first | exact trivial | assumption | omega | (simp only [List.length_cons, List.length_nil, List.length_map]; omega) | (exact rfl)))
    | ((with_reducible refine ixg_nat ?_ ?_); (focus first | exact trivial | assumption | omega | (simp only [List.length_cons, List.length_nil, List.length_map]; omega) | (exact rfl)))
    | ((with_reducible refine ixg_of ?_ ?_); (focus first | exact trivial | assumption | omega | (simp only [List.length_cons, List.length_nil, List.length_map]; omega) | (exact rfl)))
    | ((with_reducible refine get_mk ?_); (refine ⟨_, rfl, ?_⟩))
    | ((with_reducible refine get_mapE ?_); (refine ⟨_, by assumption, ?_⟩))
    | ((with_reducible refine get_mapI ?_ ?_); (focus first | exact trivial | assumption | omega | (simp only [List.length_cons, List.length_nil, List.length_map]; omega) | (exact rfl)))
    | ((with_reducible refine get_mapS ?_ ?_); (focus first | exact trivial | assumption | omega | (simp only [List.length_cons, List.length_nil, List.length_map]; omega) | (exact rfl)))
    | ((with_reducible refine get_c ?_ ?_); (focus first | exact trivial | assumption | omega | (simp only [List.length_cons, List.length_nil, List.length_map]; omega) | (exact rfl)))
    | ((with_reducible refine get_map ?_ ?_); (focus first | exact trivial | assumption | omega | (simp only [List.length_cons, List.length_nil, List.length_map]; omega) | (exact rfl)))
    | ((with_reducible refine le_and ?_ ?_); (focus first | exact trivial | assumption | omega | (simp only [List.length_cons, List.length_nil, List.length_map]; omega) | (exact rfl)))
    | ((with_reducible refine rg1_and ?_ ?_); (focus first | exact trivial | assumption | omega | (simp only [List.length_cons, List.length_nil, List.length_map]; omega) | (exact rfl)))
    | ((with_reducible refine rg2_and ?_ ?_); (focus first | exact trivial | assumption | omega | (simp only [List.length_cons, List.length_nil, List.length_map]; omega) | (exact rfl)))
    | (with_reducible refine eq_and ?_)
    | (with_reducible refine wpB_two ?_)
    | (with_reducible refine wpB_one ?_)
    | (with_reducible refine wpG_nil ?_)
    | (with_reducible refine wpG_cons ?_)
    | (with_reducible refine wpG_mnil ?_)
    | (with_reducible refine wpG_mcons ?_)
    | (with_reducible refine tgt_gN ?_)
    | (with_reducible refine tgt_gT2 ?_)
    | (with_reducible refine tgt_gT3 ?_))
local macro_rules
  | `(tactic| sizeOf_list_dec) => `(tactic| repeat array_get_dec)

section
set_option maxRecDepth 100000
set_option maxHeartbeats 400000
/-! D21a: what is a clash: near and bent parts. -/
open PySem Dt Pm
variable {X : ExD → Sl → Prop}
instance {s : List Nat} : Op1 listX [.str s] (s.length ≤ 1000000) (.o (.lst (s.map fun c => D.str [c]))) := ⟨fun h => if_pos h⟩
def Pt (c : Nat) : Prop := c = 45 ∨ c = 48 ∨ c = 49
end
end Pg
end
section
namespace Pg
open PySem Dt Pm
local macro_rules
  | `(tactic| array_get_dec) => `(tactic| first
    | ((with_reducible refine guard_E ?_); (first
      | (with_reducible refine wp_toA ?_)
      | ((with_reducible refine v_oName ?_); (refine ⟨_, rfl, ?_⟩))
      | ((with_reducible refine o_oName ?_); (refine ⟨_, rfl, ?_⟩))
      | (with_reducible refine wp_asCons ?_)
      | (with_reducible refine wp_asNil ?_)
      | (with_reducible refine wp_eC ?_)
      | (with_reducible refine wp_eOp ?_)
      | ((with_reducible refine v_opM ?_); (refine ⟨_, _, rfl, rfl, ?_⟩))
      | (with_reducible refine wp_eCall ?_)
      | ((with_reducible refine v_callM ?_ ?_); (focus (simp only [Dt.sidx]; decide)))
      | ((with_reducible refine v_eName ?_); (refine ⟨_, rfl, ?_⟩))
      | ((with_reducible refine o_eName ?_); (refine ⟨_, _, rfl, rfl, ?_⟩))
      | ((with_reducible refine r_eName ?_); (refine ⟨_, _, rfl, by assumption, ?_⟩))
      | (with_reducible refine wp_toB ?_)
      | (with_reducible refine wp_eTup ?_)
      | (with_reducible refine wp_eLst ?_)
      | (with_reducible refine wp_eB ?_)
      | (with_reducible refine v_bM ?_)
      | (with_reducible refine wp_eBM ?_)
      | ((with_reducible refine v_tyM ?_); (refine ⟨_, rfl, rfl, ?_⟩))
      | (with_reducible refine wp_bind ?_)
      | (with_reducible refine wp_ret ?_)
      | (with_reducible refine wp_eChain ?_)
      | (with_reducible refine wp_eChain3 ?_)
      | (with_reducible refine wp_bAnd ?_)
      | (with_reducible refine wp_bOr ?_)
      | (with_reducible refine wp_bNot ?_)
      | (with_reducible refine wp_eAnd ?_)
      | (with_reducible refine wp_eOr ?_)
      | (with_reducible refine wp_eNot ?_)
      | (with_reducible refine wp_eIf ?_)
      | (with_reducible refine wp_iOf ?_)
      | (with_reducible refine wp_iRange1 ?_)
      | (with_reducible refine wp_iRange2 ?_)
      | (with_reducible refine wp_iEnum1 ?_)
      | (with_reducible refine wp_iZip2 ?_)
      | ((with_reducible refine wp_mutM ?_ ?_); (focus exact rfl))
      | (with_reducible refine wp_atV ?_)
      | ((with_reducible refine wp_grd ?_ ?_); (focus exact rfl))
      | ((with_reducible refine v_setLM ?_); (refine ⟨_, rfl, ?_⟩))
      | (with_reducible refine wp_eSlice ?_)
      | (with_reducible refine wp_eRev ?_)
      | (with_reducible refine wp_eRepl ?_)
      | (with_reducible refine wp_pNo ?_)
      | (with_reducible refine wp_pYes ?_)
      | (with_reducible refine wp_eIsi ?_)
      | (with_reducible refine wp_eMaxD ?_)
      | (with_reducible refine wp_eNeg ?_)
      | (with_reducible refine wp_eDict0 ?_)
      | ((with_reducible refine v_disp1 ?_); (refine ⟨_, rfl, ?_⟩))
      | (with_reducible refine wp_eFld ?_)
      | ((with_reducible refine v_setFM ?_); (refine ⟨_, _, _, rfl, rfl, rfl, ?_⟩))
      | (with_reducible refine wp_eMeth ?_)
      | (with_reducible refine wp_eProp ?_)
      | (with_reducible refine wp_eOpM ?_)
      | (with_reducible refine wp_inO ?_)
      | (with_reducible refine wp_spO ?_)
      | (with_reducible refine wp_spO1 ?_)
      | (with_reducible refine wp_addO ?_)
      | (with_reducible refine wp_eCMeth ?_)
      | (with_reducible refine wp_eMake ?_)
      | (with_reducible refine wp_eMakeS ?_)
      | ((with_reducible refine wp_eMakeSL ?_ ?_); (focus exact rfl))
      | (with_reducible refine wp_eComp ?_)
      | (with_reducible refine wp_eComp2 ?_)
      | ((with_reducible refine v_funD ?_ ?_); (focus exact rfl); (with_reducible apply fin_mk); (focus (first | (conv => lhs; simp only [List.set_cons_zero, List.set_cons_succ, slotOf, vI, vB, back, put1, isOwn, wipeE, List.take_succ_cons, List.take_zero, List.cons_append, List.nil_append, List.replicate_succ, List.replicate_zero, Nat.reduceSub, List.getElem?_cons_zero, List.getElem?_cons_succ, if_true, if_false, Bool.false_eq_true, List.set_nil]) | skip); (first | done | exact rfl)))))
    | ((with_reducible refine guard_O ?_); (first
      | (with_reducible refine wpo_frz_v ?_)
      | (with_reducible refine wpo_frz_I ?_)
      | (with_reducible refine wpo_frz_B ?_)
      | (with_reducible refine wpo_frz_l ?_)
      | (with_reducible refine wpo_frz_d ?_)
      | (with_reducible refine v_vals ?_)
      | (with_reducible refine wpo_it_l ?_)
      | (with_reducible refine wpo_it_t ?_)
      | ((with_reducible refine wpo_it_s ?_ ?_); (focus first | exact trivial | assumption | omega | (simp only [List.length_cons, List.length_nil, List.length_map]; omega) | (exact rfl)))
      | ((with_reducible refine v_objOf ?_); (refine ⟨_, rfl, ?_⟩))
      | ((with_reducible refine v_objIs ?_); (refine ⟨_, rfl, ?_⟩))
      | (with_reducible refine wpo_isi ?_)
      | ((with_reducible refine v_deref ?_); (refine ⟨_, rfl, ?_⟩))
      | ((with_reducible refine wpo_one ?_ ?_); (focus exact rfl))
      | ((with_reducible refine wpo_okAdd ?_ ?_); (focus exact rfl))
      | ((with_reducible refine v_starD ?_); (refine ⟨_, rfl, ?_⟩))
      | (with_reducible refine wpo_ints ?_)
      | (with_reducible refine wpo_ints1 ?_)
      | (with_reducible refine wpo_ints0 ?_)
      | ((with_reducible refine v_ixS ?_ ?_); (focus first | exact trivial | assumption | omega | (simp only [List.length_cons, List.length_nil, List.length_map]; omega) | (exact rfl)))
      | (with_reducible refine v_ix ?_)
      | (with_reducible refine wpo_inSign ?_)
      | ((with_reducible refine wpo_op2 ?_ ?_); (focus first | exact trivial | assumption | omega | (simp only [List.length_cons, List.length_nil, List.length_map]; omega) | (exact rfl)))
      | ((with_reducible refine wpo_op1 ?_ ?_); (focus first | exact trivial | assumption | omega | (simp only [List.length_cons, List.length_nil, List.length_map]; omega) | (exact rfl)))
      | ((with_reducible refine wpo_slS ?_ ?_); (focus first | exact trivial | assumption | omega | (simp only [List.length_cons, List.length_nil, List.length_map]; omega) | (exact rfl)))
      | ((with_reducible refine wpo_revS ?_ ?_); (focus first | exact trivial | assumption | omega | (simp only [List.length_cons, List.length_nil, List.length_map]; omega) | (exact rfl)))
      | ((with_reducible refine wpo_replS ?_ ?_); (focus first | exact trivial | assumption | omega | (simp only [List.length_cons, List.length_nil, List.length_map]; omega) | (exact rfl)))
      | (with_reducible refine wpo_revL ?_)
      | (with_reducible refine wpo_revT ?_)
      | (with_reducible refine wpo_slL ?_)
      | (with_reducible refine wpo_slT ?_)
      | (with_reducible refine v_get ?_)
      | (with_reducible refine wpo_bind ?_)
      | (with_reducible refine wpo_map ?_)))
    | ((with_reducible refine guard_S ?_); (first
      | (with_reducible refine wps_seq ?_)
      | (with_reducible refine wps_set ?_)
      | (with_reducible refine wps_expr ?_)
      | (with_reducible refine wps_ret ?_)
      | (with_reducible refine wps_if ?_)
      | (with_reducible refine wps_ifW ?_)
      | (with_reducible refine wps_for ?_)
      | (with_reducible refine wps_nil ?_)
      | (with_reducible refine wps_setL ?_)
      | (with_reducible refine wps_par ?_)
      | (with_reducible refine wps_par1 ?_)
      | (with_reducible refine wps_parC' ?_)
      | (with_reducible refine wps_parN ?_)
      | ((with_reducible refine v_retV ?_); (refine ⟨_, rfl, ?_⟩))
      | ((with_reducible refine o_retV ?_); (refine ⟨_, rfl, rfl, ?_⟩))
      | ((with_reducible refine p_retV ?_); (refine ⟨_, _, rfl, rfl, rfl, ?_⟩))
      | (with_reducible refine wps_retN ?_)
      | (with_reducible refine wps_raise ?_)
      | (with_reducible refine wps_break ?_)
      | (with_reducible refine wps_cont ?_)
      | (with_reducible refine wps_try ?_)
      | (with_reducible refine wps_tryAs ?_)
      | (with_reducible refine wps_tryM ?_)
      | (with_reducible refine wps_setF ?_)
      | (with_reducible refine wps_setD ?_)
      | (with_reducible refine wps_asg ?_)))
    | ((with_reducible refine fin_g ?_); (with_reducible apply fin_mk); (focus (first | (conv => lhs; simp only [List.set_cons_zero, List.set_cons_succ, slotOf, vI, vB, back, put1, isOwn, wipeE, List.take_succ_cons, List.take_zero, List.cons_append, List.nil_append, List.replicate_succ, List.replicate_zero, Nat.reduceSub, List.getElem?_cons_zero, List.getElem?_cons_succ, if_true, if_false, Bool.false_eq_true, List.set_nil]) | skip); (first | done | exact rfl)))
    | (with_reducible refine rt_mk ?_)
    | (with_reducible refine bk_mk ?_)
    | (with_reducible refine ct_mk ?_)
    | (with_reducible refine ex_mk ?_)
    | (with_reducible refine der_nil ?_)
    | (with_reducible refine der_v ?_)
    | ((with_reducible refine der_s ?_); (refine ⟨_, rfl, ?_⟩))
    | (with_reducible refine val_nil ?_)
    | (with_reducible refine val_v ?_)
    | (with_reducible refine arg_nil ?_)
    | (with_reducible refine arg_v ?_)
    | ((with_reducible refine arg_s ?_); (refine ⟨_, rfl, ?_⟩))
    | ((with_reducible refine v_append ?_); (refine ⟨_, rfl, ?_, ?_⟩); (focus first | exact trivial | assumption | omega | (simp only [List.length_cons, List.length_nil, List.length_map]; omega) | (exact rfl)))
    | ((with_reducible refine v_extend ?_); (refine ⟨_, rfl, ?_, ?_⟩); (focus first | exact trivial | assumption | omega | (simp only [List.length_cons, List.length_nil, List.length_map]; omega) | (exact rfl)))
    | ((with_reducible refine v_pop ?_); (refine ⟨_, rfl, ?_, ?_⟩); (focus first | exact trivial | assumption | omega | (simp only [List.length_cons, List.length_nil, List.length_map]; omega) | (exact rfl)))
    | ((with_reducible refine v_pop0 ?_); (refine ⟨_, rfl, ?_⟩))
    | (with_reducible refine isbl ?_)
    | (with_reducible refine isVd ?_)
    | (with_reducible refine isbl2 ?_)
    | (with_reducible refine isV ?_)
    | (with_reducible refine isI ?_)
    | (with_reducible refine is1v ?_)
    | (with_reducible refine is2v ?_)
    | (with_reducible refine is3 ?_)
    | (with_reducible refine isTI ?_)
    | (with_reducible refine is1i ?_)
    | (with_reducible refine is2i ?_)
    | (with_reducible refine isCons ?_)
    | (with_reducible refine cond_not ?_)
    | (with_reducible refine cond_t ?_)
    | (with_reducible refine cond_f ?_)
    | ((with_reducible refine ixg_mk ?_); (refine ⟨_, rfl, ?_⟩))
    | ((with_reducible refine ixg_neg ?_ ?_); (focus first | exact trivial | assumption | omega | (simp only [List.length_cons, List.length_nil, List.length_map]; omega) | (exact rfl)))
    | ((with_reducible refine ixg_nat ?_ ?_); (focus first | exact trivial | assumption | omega | (simp only [List.length_cons, List.length_nil, List.length_map]; omega) | (exact rfl)))
    | ((with_reducible refine ixg_of ?_ ?_); (focus first | exact trivial | assumption | omega | (simp only [List.length_cons, List.length_nil, List.length_map]; omega) | (exact rfl)))
    | ((with_reducible refine get_mk ?_); (refine ⟨_, rfl, ?_⟩))
    | ((with_reducible refine get_mapE ?_); (refine ⟨_, by assumption, ?_⟩))
    | ((with_reducible refine get_mapI ?_ ?_); (focus first | exact trivial | assumption | omega | (simp only [List.length_cons, List.length_nil, List.length_map]; omega) | (exact rfl)))
    | ((with_reducible refine get_mapS ?_ ?_); (focus first | exact trivial | assumption | omega | (simp only [List.length_cons, List.length_nil, List.length_map]; omega) | (exact rfl)))
    | ((with_reducible refine get_c ?_ ?_); (focus first | exact trivial | assumption | omega | (simp only [List.length_cons, List.length_nil, List.length_map]; omega) | (exact rfl)))
    | ((with_reducible refine get_map ?_ ?_); (focus first | exact trivial | assumption | omega | (simp only [List.length_cons, List.length_nil, List.length_map]; omega) | (exact rfl)))
    | ((with_reducible refine le_and ?_ ?_); (focus first | exact trivial | assumption | omega | (simp only [List.length_cons, List.length_nil, List.length_map]; omega) | (exact rfl)))
    | ((with_reducible refine rg1_and ?_ ?_); (focus first | exact trivial | assumption | omega | (simp only [List.length_cons, List.length_nil, List.length_map]; omega) | (exact rfl)))
    | ((with_reducible refine rg2_and ?_ ?_); (focus first | exact trivial | assumption | omega | (simp only [List.length_cons, List.length_nil, List.length_map]; omega) | (exact rfl)))
    | (with_reducible refine eq_and ?_)
    | (with_reducible refine wpB_two ?_)
    | (with_reducible refine wpB_one ?_)
    | (with_reducible refine wpG_nil ?_)
    | (with_reducible refine wpG_cons ?_)
    | (with_reducible refine wpG_mnil ?_)
    | (with_reducible refine wpG_mcons ?_)
    | (with_reducible refine tgt_gN ?_)
    | (with_reducible refine tgt_gT2 ?_)
    | (with_reducible refine tgt_gT3 ?_))
local macro_rules
  | `(tactic| sizeOf_list_dec) => `(tactic| repeat array_get_dec)

section
set_option maxRecDepth 100000
set_option maxHeartbeats 400000
/-! D21b: any values asked. -/
open PySem Dt Pm
variable {X : ExD → Sl → Prop}
/-- a value that can be shown; texts are short -/
structure Th (d : D) : Prop where
  sh : ∃ w k, Sh d w k ∧ w ≤ 30000 ∧ k ≤ 20
  len : ∀ s, d = .str s → s.length ≤ 1000
theorem Th.pln {d : D} (h : Th d) : Pln d := let ⟨_, _, h, _⟩ := h.sh; h.pln
theorem Pt.lt {c : Nat} (h : Pt c) : c < 1114112 := by rcases h with h | h | h <;> omega
theorem wpo_ninSign {c : Nat} {s : List Nat} {K : EV → Prop} (k : K (.v (.bl (!decide (c ∈ s))))) : wpo (ninX (.str [c]) (.str s)) K := by
  refine wpo_of (a := .v (.bl (!decide (c ∈ s)))) ?_ k
  show some (vB (true ^^ decide (c ∈ s))) = _
  simp [vB]
end
end Pg
end
section
namespace Pg
open PySem Dt Pm
local macro_rules
  | `(tactic| array_get_dec) => `(tactic| first
    | ((with_reducible refine guard_E ?_); (first
      | (with_reducible refine wp_toA ?_)
      | ((with_reducible refine v_oName ?_); (refine ⟨_, rfl, ?_⟩))
      | ((with_reducible refine o_oName ?_); (refine ⟨_, rfl, ?_⟩))
      | (with_reducible refine wp_asCons ?_)
      | (with_reducible refine wp_asNil ?_)
      | (with_reducible refine wp_eC ?_)
      | (with_reducible refine wp_eOp ?_)
      | ((with_reducible refine v_opM ?_); (refine ⟨_, _, rfl, rfl, ?_⟩))
      | (with_reducible refine wp_eCall ?_)
      | ((with_reducible refine v_callM ?_ ?_); (focus (simp only [Dt.sidx]; decide)))
      | ((with_reducible refine v_eName ?_); (refine ⟨_, rfl, ?_⟩))
      | ((with_reducible refine o_eName ?_); (refine ⟨_, _, rfl, rfl, ?_⟩))
      | ((with_reducible refine r_eName ?_); (refine ⟨_, _, rfl, by assumption, ?_⟩))
      | (with_reducible refine wp_toB ?_)
      | (with_reducible refine wp_eTup ?_)
      | (with_reducible refine wp_eLst ?_)
      | (with_reducible refine wp_eB ?_)
      | (with_reducible refine v_bM ?_)
      | (with_reducible refine wp_eBM ?_)
      | ((with_reducible refine v_tyM ?_); (refine ⟨_, rfl, rfl, ?_⟩))
      | (with_reducible refine wp_bind ?_)
      | (with_reducible refine wp_ret ?_)
      | (with_reducible refine wp_eChain ?_)
      | (with_reducible refine wp_eChain3 ?_)
      | (with_reducible refine wp_bAnd ?_)
      | (with_reducible refine wp_bOr ?_)
      | (with_reducible refine wp_bNot ?_)
      | (with_reducible refine wp_eAnd ?_)
      | (with_reducible refine wp_eOr ?_)
      | (with_reducible refine wp_eNot ?_)
      | (with_reducible refine wp_eIf ?_)
      | (with_reducible refine wp_iOf ?_)
      | (with_reducible refine wp_iRange1 ?_)
      | (with_reducible refine wp_iRange2 ?_)
      | (with_reducible refine wp_iEnum1 ?_)
      | (with_reducible refine wp_iZip2 ?_)
      | ((with_reducible refine wp_mutM ?_ ?_); (focus exact rfl))
      | (with_reducible refine wp_atV ?_)
      | ((with_reducible refine wp_grd ?_ ?_); (focus exact rfl))
      | ((with_reducible refine v_setLM ?_); (refine ⟨_, rfl, ?_⟩))
      | (with_reducible refine wp_eSlice ?_)
      | (with_reducible refine wp_eRev ?_)
      | (with_reducible refine wp_eRepl ?_)
      | (with_reducible refine wp_pNo ?_)
      | (with_reducible refine wp_pYes ?_)
      | (with_reducible refine wp_eIsi ?_)
      | (with_reducible refine wp_eMaxD ?_)
      | (with_reducible refine wp_eNeg ?_)
      | (with_reducible refine wp_eDict0 ?_)
      | ((with_reducible refine v_disp1 ?_); (refine ⟨_, rfl, ?_⟩))
      | (with_reducible refine wp_eFld ?_)
      | ((with_reducible refine v_setFM ?_); (refine ⟨_, _, _, rfl, rfl, rfl, ?_⟩))
      | (with_reducible refine wp_eMeth ?_)
      | (with_reducible refine wp_eProp ?_)
      | (with_reducible refine wp_eOpM ?_)
      | (with_reducible refine wp_inO ?_)
      | (with_reducible refine wp_spO ?_)
      | (with_reducible refine wp_spO1 ?_)
      | (with_reducible refine wp_eCMeth ?_)
      | (with_reducible refine wp_eMake ?_)
      | (with_reducible refine wp_eMakeS ?_)
      | ((with_reducible refine wp_eMakeSL ?_ ?_); (focus exact rfl))
      | (with_reducible refine wp_eComp ?_)
      | (with_reducible refine wp_eComp2 ?_)
      | ((with_reducible refine v_funD ?_ ?_); (focus exact rfl); (with_reducible apply fin_mk); (focus (first | (conv => lhs; simp only [List.set_cons_zero, List.set_cons_succ, slotOf, vI, vB, back, put1, isOwn, wipeE, List.take_succ_cons, List.take_zero, List.cons_append, List.nil_append, List.replicate_succ, List.replicate_zero, Nat.reduceSub, List.getElem?_cons_zero, List.getElem?_cons_succ, if_true, if_false, Bool.false_eq_true, List.set_nil]) | skip); (first | done | exact rfl)))))
    | ((with_reducible refine guard_O ?_); (first
      | (with_reducible refine wpo_frz_v ?_)
      | (with_reducible refine wpo_frz_I ?_)
      | (with_reducible refine wpo_frz_B ?_)
      | (with_reducible refine wpo_frz_l ?_)
      | (with_reducible refine wpo_frz_d ?_)
      | (with_reducible refine v_vals ?_)
      | (with_reducible refine wpo_it_l ?_)
      | (with_reducible refine wpo_it_t ?_)
      | ((with_reducible refine wpo_it_s ?_ ?_); (focus first | exact trivial | assumption | omega | (simp only [List.length_cons, List.length_nil, List.length_map]; omega) | (exact rfl)))
      | ((with_reducible refine v_objOf ?_); (refine ⟨_, rfl, ?_⟩))
      | ((with_reducible refine v_objIs ?_); (refine ⟨_, rfl, ?_⟩))
      | (with_reducible refine wpo_isi ?_)
      | ((with_reducible refine v_deref ?_); (refine ⟨_, rfl, ?_⟩))
      | ((with_reducible refine wpo_one ?_ ?_); (focus exact rfl))
      | ((with_reducible refine v_starD ?_); (refine ⟨_, rfl, ?_⟩))
      | (with_reducible refine wpo_ints ?_)
      | (with_reducible refine wpo_ints1 ?_)
      | (with_reducible refine wpo_ints0 ?_)
      | ((with_reducible refine v_ixS ?_ ?_); (focus first | exact trivial | assumption | omega | (simp only [List.length_cons, List.length_nil, List.length_map]; omega) | (exact rfl)))
      | (with_reducible refine v_ix ?_)
      | (with_reducible refine wpo_inSign ?_)
      | ((with_reducible refine wpo_op2 ?_ ?_); (focus first | exact trivial | assumption | omega | (simp only [List.length_cons, List.length_nil, List.length_map]; omega) | (exact rfl)))
      | ((with_reducible refine wpo_op1 ?_ ?_); (focus first | exact trivial | assumption | omega | (simp only [List.length_cons, List.length_nil, List.length_map]; omega) | (exact rfl)))
      | ((with_reducible refine wpo_slS ?_ ?_); (focus first | exact trivial | assumption | omega | (simp only [List.length_cons, List.length_nil, List.length_map]; omega) | (exact rfl)))
      | ((with_reducible refine wpo_revS ?_ ?_); (focus first | exact trivial | assumption | omega | (simp only [List.length_cons, List.length_nil, List.length_map]; omega) | (exact rfl)))
      | ((with_reducible refine wpo_replS ?_ ?_); (focus first | exact trivial | assumption | omega | (simp only [List.length_cons, List.length_nil, List.length_map]; omega) | (exact rfl)))
      | (with_reducible refine wpo_revL ?_)
      | (with_reducible refine wpo_revT ?_)
      | (with_reducible refine wpo_slL ?_)
      | (with_reducible refine wpo_slT ?_)
      | (with_reducible refine v_get ?_)
      | (with_reducible refine wpo_bind ?_)
      | (with_reducible refine wpo_map ?_)))
    | ((with_reducible refine guard_S ?_); (first
      | (with_reducible refine wps_seq ?_)
      | (with_reducible refine wps_set ?_)
      | (with_reducible refine wps_expr ?_)
      | (with_reducible refine wps_ret ?_)
      | (with_reducible refine wps_if ?_)
      | (with_reducible refine wps_ifW ?_)
      | (with_reducible refine wps_for ?_)
      | (with_reducible refine wps_nil ?_)
      | (with_reducible refine wps_setL ?_)
      | (with_reducible refine wps_par ?_)
      | (with_reducible refine wps_par1 ?_)
      | (with_reducible refine wps_parC' ?_)
      | (with_reducible refine wps_parN ?_)
      | ((with_reducible refine v_retV ?_); (refine ⟨_, rfl, ?_⟩))
      | ((with_reducible refine o_retV ?_); (refine ⟨_, rfl, rfl, ?_⟩))
      | ((with_reducible refine p_retV ?_); (refine ⟨_, _, rfl, rfl, rfl, ?_⟩))
      | (with_reducible refine wps_retN ?_)
      | (with_reducible refine wps_raise ?_)
      | (with_reducible refine wps_break ?_)
      | (with_reducible refine wps_cont ?_)
      | (with_reducible refine wps_try ?_)
      | (with_reducible refine wps_tryAs ?_)
      | (with_reducible refine wps_setF ?_)
      | (with_reducible refine wps_setD ?_)
      | (with_reducible refine wps_asg ?_)))
    | ((with_reducible refine fin_g ?_); (with_reducible apply fin_mk); (focus (first | (conv => lhs; simp only [List.set_cons_zero, List.set_cons_succ, slotOf, vI, vB, back, put1, isOwn, wipeE, List.take_succ_cons, List.take_zero, List.cons_append, List.nil_append, List.replicate_succ, List.replicate_zero, Nat.reduceSub, List.getElem?_cons_zero, List.getElem?_cons_succ, if_true, if_false, Bool.false_eq_true, List.set_nil]) | skip); (first | done | exact rfl)))
    | (with_reducible refine rt_mk ?_)
    | (with_reducible refine bk_mk ?_)
    | (with_reducible refine ct_mk ?_)
    | (with_reducible refine ex_mk ?_)
    | (with_reducible refine der_nil ?_)
    | (with_reducible refine der_v ?_)
    | ((with_reducible refine der_s ?_); (refine ⟨_, rfl, ?_⟩))
    | (with_reducible refine val_nil ?_)
    | (with_reducible refine val_v ?_)
    | (with_reducible refine arg_nil ?_)
    | (with_reducible refine arg_v ?_)
    | ((with_reducible refine arg_s ?_); (refine ⟨_, rfl, ?_⟩))
    | ((with_reducible refine v_append ?_); (refine ⟨_, rfl, ?_, ?_⟩); (focus first | exact trivial | assumption | omega | (simp only [List.length_cons, List.length_nil, List.length_map]; omega) | (exact rfl)))
    | ((with_reducible refine v_extend ?_); (refine ⟨_, rfl, ?_, ?_⟩); (focus first | exact trivial | assumption | omega | (simp only [List.length_cons, List.length_nil, List.length_map]; omega) | (exact rfl)))
    | ((with_reducible refine v_pop ?_); (refine ⟨_, rfl, ?_, ?_⟩); (focus first | exact trivial | assumption | omega | (simp only [List.length_cons, List.length_nil, List.length_map]; omega) | (exact rfl)))
    | ((with_reducible refine v_pop0 ?_); (refine ⟨_, rfl, ?_⟩))
    | (with_reducible refine isbl ?_)
    | (with_reducible refine isVd ?_)
    | (with_reducible refine isbl2 ?_)
    | (with_reducible refine isV ?_)
    | (with_reducible refine isI ?_)
    | (with_reducible refine is1v ?_)
    | (with_reducible refine is2v ?_)
    | (with_reducible refine is3 ?_)
    | (with_reducible refine isTI ?_)
    | (with_reducible refine is1i ?_)
    | (with_reducible refine is2i ?_)
    | (with_reducible refine isCons ?_)
    | (with_reducible refine cond_not ?_)
    | (with_reducible refine cond_t ?_)
    | (with_reducible refine cond_f ?_)
    | ((with_reducible refine ixg_mk ?_); (refine ⟨_, rfl, ?_⟩))
    | ((with_reducible refine ixg_neg ?_ ?_); (focus first | exact trivial | assumption | omega | (simp only [List.length_cons, List.length_nil, List.length_map]; omega) | (exact rfl)))
    | ((with_reducible refine ixg_nat ?_ ?_); (focus first | exact trivial | assumption | omega | (simp only [List.length_cons, List.length_nil, List.length_map]; omega) | (exact rfl)))
    | ((with_reducible refine ixg_of ?_ ?_); (focus first | exact trivial | assumption | omega | (simp only [List.length_cons, List.length_nil, List.length_map]; omega) | (exact rfl)))
    | ((with_reducible refine get_mk ?_); (refine ⟨_, rfl, ?_⟩))
    | ((with_reducible refine get_mapE ?_); (refine ⟨_, by assumption, ?_⟩))
    | ((with_reducible refine get_mapI ?_ ?_); (focus first | exact trivial | assumption | omega | (simp only [List.length_cons, List.length_nil, List.length_map]; omega) | (exact rfl)))
    | ((with_reducible refine get_mapS ?_ ?_); (focus first | exact trivial | assumption | omega | (simp only [List.length_cons, List.length_nil, List.length_map]; omega) | (exact rfl)))
    | ((with_reducible refine get_c ?_ ?_); (focus first | exact trivial | assumption | omega | (simp only [List.length_cons, List.length_nil, List.length_map]; omega) | (exact rfl)))
    | ((with_reducible refine get_map ?_ ?_); (focus first | exact trivial | assumption | omega | (simp only [List.length_cons, List.length_nil, List.length_map]; omega) | (exact rfl)))
    | ((with_reducible refine le_and ?_ ?_); (focus first | exact trivial | assumption | omega | (simp only [List.length_cons, List.length_nil, List.length_map]; omega) | (exact rfl)))
    | ((with_reducible refine rg1_and ?_ ?_); (focus first | exact trivial | assumption | omega | (simp only [List.length_cons, List.length_nil, List.length_map]; omega) | (exact rfl)))
    | ((with_reducible refine rg2_and ?_ ?_); (focus first | exact trivial | assumption | omega | (simp only [List.length_cons, List.length_nil, List.length_map]; omega) | (exact rfl)))
    | (with_reducible refine eq_and ?_)
    | (with_reducible refine wpB_two ?_)
    | (with_reducible refine wpB_one ?_)
    | (with_reducible refine wpG_nil ?_)
    | (with_reducible refine wpG_cons ?_)
    | (with_reducible refine wpG_mnil ?_)
    | (with_reducible refine wpG_mcons ?_)
    | (with_reducible refine tgt_gN ?_)
    | (with_reducible refine tgt_gT2 ?_)
    | (with_reducible refine tgt_gT3 ?_))
local macro_rules
  | `(tactic| sizeOf_list_dec) => `(tactic| repeat array_get_dec)

section
set_option maxRecDepth 100000
set_option maxHeartbeats 4000000
/-! D21c: the law k21. -/
open PySem Dt Pm
variable {X : ExD → Sl → Prop}
end
section
set_option maxRecDepth 100000
set_option maxHeartbeats 1000000
/-! DR: the laws' rows: sorted(dict(..)), mixed. -/
open PySem Dt Pm
variable {X : ExD → Sl → Prop}
def unS : D → List Nat
  | .str s => s
  | _ => []
/-- what a dict of pairs keeps of its keys -/
theorem put_keys : ∀ {ks : List L2.Key} {vs : List D} {k : L2.Key} {d : D}, ks.length = vs.length → (dicPut ks vs k d).1.length = (dicPut ks vs k d).2.length ∧ (∀ x, x ∈ (dicPut ks vs k d).1 ↔ x ∈ ks ∨ x = k) ∧ (ks.Nodup → (dicPut ks vs k d).1.Nodup)
  | [], [], _, _, _ => by simp [dicPut]
  | [], _ :: _, _, _, h => by simp at h
  | _ :: _, [], _, _, h => by simp at h
  | a :: ks, x :: vs, k, d, h => by
    have h' : ks.length = vs.length := by simpa using h
    obtain ⟨i1, i2, i3⟩ := put_keys (k := k) (d := d) h'
    by_cases e : a = k
    · subst e
      refine ⟨by simp [dicPut, h'], fun x => ?_, fun n => by simpa [dicPut] using n⟩
      simp only [dicPut, if_true, List.mem_cons]
      constructor
      · rintro (q | q) <;> simp [q]
      · rintro ((q | q) | q) <;> simp [q]
    · refine ⟨by simp [dicPut, e, i1], fun x => ?_, fun n => ?_⟩
      · simp only [dicPut, e, if_false, List.mem_cons, i2, or_assoc]
      · obtain ⟨n1, n2⟩ := List.nodup_cons.mp n
        simp only [dicPut, e, if_false]
        refine List.nodup_cons.mpr ⟨fun q => ?_, i3 n2⟩
        rcases (i2 a).mp q with q | q
        · exact n1 q
        · exact e q
theorem merge_keys : ∀ {ps : List (L2.Key × D)} {ks : List L2.Key} {vs : List D}, ks.length = vs.length → (∀ x, x ∈ (mergeD ks vs ps).1 ↔ x ∈ ks ∨ x ∈ ps.map (·.1)) ∧ (ks.Nodup → (mergeD ks vs ps).1.Nodup)
  | [], _, _, h => by simp [mergeD]
  | p :: ps, ks, vs, h => by
    obtain ⟨i1, i2, i3⟩ := put_keys (k := p.1) (d := p.2) h
    obtain ⟨j1, j2⟩ := merge_keys (ps := ps) i1
    refine ⟨fun x => ?_, fun n => j2 (i3 n)⟩
    simp only [mergeD, j1, i2, List.map_cons, List.mem_cons, or_assoc]
theorem pairs_strs (l : List (List Nat)) : pairsD (l.map fun s => .tup [.str s, .bl true]) = some (l.map fun s => (.inr (mkS s), .bl true)) := by
  induction l with
  | nil => rfl
  | cons s l ih => simp only [List.map_cons, pairsD, ih, pairOf, keyD, Option.bind, Option.map]
theorem dict_ex (l : List (List Nat)) : ∃ l' : List (List Nat), l'.Nodup ∧ (∀ x, x ∈ l' ↔ x ∈ l) ∧ ∃ ks vs, ks.map keyOf = strL l' ∧ dictD [.lst (l.map fun s => .tup [.str s, .bl true])] = some (.o (.dic ks vs)) := by
  obtain ⟨h1, h2⟩ := merge_keys (ps := l.map fun s => ((.inr (mkS s) : L2.Key), D.bl true)) (ks := []) (vs := []) rfl
  have h2 := h2 List.nodup_nil
  generalize hm : mergeD [] [] (l.map fun s => ((.inr (mkS s) : L2.Key), D.bl true)) = kv at h1 h2
  have hk : ∀ k ∈ kv.1, ∃ s ∈ l, k = .inr (mkS s) := fun k hk => by
    have := (h1 k).mp hk
    simp at this
    obtain ⟨s, q, r⟩ := this
    exact ⟨s, q, r.symm⟩
  have hk' : kv.1.map (fun k => unS (keyOf k)) = kv.1.map fun k => unS (keyOf k) := rfl
  refine ⟨kv.1.map fun k => unS (keyOf k), ?_, fun x => ?_, kv.1, kv.2, ?_, ?_⟩
  · refine List.Pairwise.map _ (fun a b => ?_) (List.Pairwise.and_mem.mp h2)
    rintro ⟨ha, hb, hab⟩ q
    obtain ⟨s, _, rfl⟩ := hk _ ha
    obtain ⟨t, _, rfl⟩ := hk _ hb
    simp only [keyOf, unS, mkS_cps] at q
    exact hab (by rw [q])
  · constructor
    · intro hx
      obtain ⟨k, q, r⟩ := List.mem_map.mp hx
      obtain ⟨s, hs, rfl⟩ := hk _ q
      simp only [keyOf, unS, mkS_cps] at r
      exact r ▸ hs
    · intro hx
      exact List.mem_map.mpr ⟨.inr (mkS x), (h1 _).mpr (by simp; exact ⟨x, hx, rfl⟩), by simp only [keyOf, unS, mkS_cps]⟩
  · rw [strL, List.map_map]
    refine List.map_congr_left fun k q => ?_
    obtain ⟨s, hs, rfl⟩ := hk _ q
    rfl
  · simp only [dictD, pairs_strs, Option.map, hm]

theorem mixed_wp {l : List (List Nat)} {s : List D} {sl : Dt.Slot} {Q : EV → Sl → Prop} (hs : Src s) (hl : l.length ≤ 1000) (hv : Vo sl l) (k : ∀ l' s', Src s' → l'.Perm l → Q (.o (.lst (strL l'))) [.own (.lst s'), sl]) : wp sem__law_mixed [.own (.lst s), sl] Q X := by
  unfold sem__law_mixed bd__law_mixed
  rcases hv with rfl | rfl
  all_goals (
    sizeOf_list_dec
    rw [show (strL l).length = l.length from List.length_map ..]
    refine wps_forN (fun j e => ∃ s left found x, Src s ∧ left.length + j = l.length ∧ (left ++ found).Perm l ∧ e = [.own (.lst s), _, .own (.lst (strL left)), .own (.lst (strL found)), x]) ⟨s, l, [], _, hs, rfl, by simp, rfl⟩ (fun j e hj ⟨s, left, found, x, hs, hll, hp, he⟩ => tgt_gN ?_) (fun e ⟨s, left, found, x, hs, hll, hp, he⟩ => ?_)
    · subst he
      have hpl := hp.length_eq
      rw [List.length_append] at hpl
      have hlen : (strL left).length = left.length := List.length_map ..
      unfold lp__law_mixed_0
      sizeOf_list_dec
      rw [hlen]
      refine draw_wp hs (by omega) (by omega) fun r s hs r1 r2 => ?_
      obtain ⟨r, rfl⟩ : ∃ r' : Nat, r = r' := ⟨r.toNat, by omega⟩
      have hr : r < left.length := by omega
      have hfl : (strL found).length = found.length := List.length_map ..
      unfold strL
      sizeOf_list_dec
      have e1 : left.getD r [] = left[r] := by rw [List.getD_eq_getElem?_getD, List.getElem?_eq_getElem hr]; rfl
      refine ⟨s, left.eraseIdx r, found ++ [left[r]], _, hs, by rw [List.length_eraseIdx_of_lt hr]; omega, ?_, by rw [Int.toNat_natCast, erase_map, e1, List.map_append]; rfl⟩
      refine List.Perm.trans ?_ hp
      rw [← List.append_assoc]
      exact List.perm_append_comm.trans ((erase_perm hr).append_right found)
    · subst he
      have : left = [] := List.length_eq_zero_iff.mp (by omega)
      subst this
      sizeOf_list_dec
      exact k _ _ hs (by simpa using hp))
theorem lawrows_wp {s : List D} {m : Nat} {Q : EV → Sl → Prop} (hs : Src s) (h1 : 1 ≤ m) (h6 : m ≤ 6) (k : ∀ n l s', Src s' → n ≤ m → Good n l → Q (.o (.lst (strL l))) [.own (.lst s'), .val (.int m)]) : wp sem__law_rows [.own (.lst s), .val (.int m)] Q X := by
  unfold sem__law_rows bd__law_rows
  sizeOf_list_dec
  refine draw_wp hs (by omega) (by omega) fun r s hs r1 r2 => ?_
  obtain ⟨n, hn⟩ : ∃ n : Nat, 1 + r = n := ⟨(1 + r).toNat, by omega⟩
  sizeOf_list_dec
  rw [hn]
  refine draw_wp hs (by omega) (by omega) fun way s hs w1 w2 => ?_
  obtain ⟨way, rfl⟩ : ∃ n : Nat, way = n := ⟨way.toNat, by omega⟩
  have n1 : 1 ≤ n := by omega
  have n6 : n ≤ 6 := by omega
  sizeOf_list_dec
  refine all_wp n1 n6 ?_
  have hal := allR_le n6
  have hpos := List.length_pos_iff.mpr (allR_ne (m := n))
  have cases6 : n = 1 ∨ n = 2 ∨ n = 3 ∨ n = 4 ∨ n = 5 ∨ n = 6 := by omega
  sizeOf_list_dec
  refine choose_wp hs hpos (by omega) (.inl rfl) fun one s ho hs => ?_
  sizeOf_list_dec
  refine wpc_filter (fun r => (Txt.count (mkS r) (mkS [49]) : Int) % 2 == 0) D.str (fun r hr => tgt_gN ?_) ?_
  · have hrl := (mem_allR.mp hr).1
    sizeOf_list_dec
    unfold lp__law_rows_0
    sizeOf_list_dec
    refine ⟨fun _ => ?_, fun _ => rfl⟩
    unfold lp__law_rows_1
    sizeOf_list_dec
    exact ⟨rfl, rfl⟩
  have e1 : (allR n).filter (fun r => (Txt.count (mkS r) (mkS [49]) : Int) % 2 == 0) ≠ [] := fun e => by
    have : List.replicate n 48 ∈ (allR n).filter fun r => (Txt.count (mkS r) (mkS [49]) : Int) % 2 == 0 := List.mem_filter.mpr ⟨zeros_mem n, by rcases cases6 with rfl | rfl | rfl | rfl | rfl | rfl <;> decide +kernel⟩
    rw [e] at this
    cases this
  have s1 : ∀ r ∈ (allR n).filter (fun r => (Txt.count (mkS r) (mkS [49]) : Int) % 2 == 0), r ∈ allR n := fun r hr => (List.mem_filter.mp hr).1
  have l1 : ((allR n).filter (fun r => (Txt.count (mkS r) (mkS [49]) : Int) % 2 == 0)).length ≤ 64 := Nat.le_trans (List.length_filter_le ..) hal
  generalize (allR n).filter (fun r => (Txt.count (mkS r) (mkS [49]) : Int) % 2 == 0) = F1 at e1 s1 l1
  sizeOf_list_dec
  refine wpc_filter (fun r => ([r.getD (r.length - 1) 0] == [49]) == !decide (48 ∈ cutD r none (some (-1)))) D.str (fun r hr => tgt_gN ?_) ?_
  · have hrl := (mem_allR.mp hr).1
    sizeOf_list_dec
    unfold lp__law_rows_2
    sizeOf_list_dec
    refine wpo_ninSign ?_
    sizeOf_list_dec
    refine ⟨fun _ => ?_, fun _ => rfl⟩
    unfold lp__law_rows_3
    sizeOf_list_dec
    exact ⟨rfl, rfl⟩
  have e2 : (allR n).filter (fun r => ([r.getD (r.length - 1) 0] == [49]) == !decide (48 ∈ cutD r none (some (-1)))) ≠ [] := fun e => by
    have : List.replicate n 49 ∈ (allR n).filter fun r => ([r.getD (r.length - 1) 0] == [49]) == !decide (48 ∈ cutD r none (some (-1))) := List.mem_filter.mpr ⟨ones_mem n, by rcases cases6 with rfl | rfl | rfl | rfl | rfl | rfl <;> decide +kernel⟩
    rw [e] at this
    cases this
  have s2 : ∀ r ∈ (allR n).filter (fun r => ([r.getD (r.length - 1) 0] == [49]) == !decide (48 ∈ cutD r none (some (-1)))), r ∈ allR n := fun r hr => (List.mem_filter.mp hr).1
  have l2 : ((allR n).filter (fun r => ([r.getD (r.length - 1) 0] == [49]) == !decide (48 ∈ cutD r none (some (-1))))).length ≤ 64 := Nat.le_trans (List.length_filter_le ..) hal
  generalize (allR n).filter (fun r => ([r.getD (r.length - 1) 0] == [49]) == !decide (48 ∈ cutD r none (some (-1)))) = F2 at e2 s2 l2
  sizeOf_list_dec
  refine draw_wp hs (by omega) (by omega) fun cnt s hs c1 c2 => ?_
  obtain ⟨cn, hcn⟩ : ∃ n : Nat, 1 + cnt = n := ⟨(1 + cnt).toNat, by omega⟩
  sizeOf_list_dec
  rw [hcn, rangeD_nat]
  refine wpc_rel (fun e => ∃ s, Src s ∧ e = [.own (.lst s), .val (.int m), .val (.int n), .val (.int way), .val (.lst (strL (allR n))), _, .emp, .emp, .emp, .emp]) (fun _ d => ∃ r, d = .str r ∧ r ∈ allR n) ⟨_, hs, rfl⟩ (fun i hi e ⟨s, hs, he⟩ => tgt_gN ?_) (fun xs e hx ⟨s, hs, he⟩ => ?_)
  · subst he
    sizeOf_list_dec
    unfold lp__law_rows_4
    sizeOf_list_dec
    refine choose_wp hs hpos (by omega) (.inl rfl) fun one s ho hs => ?_
    sizeOf_list_dec
    exact ⟨_, rfl, ⟨_, rfl, ho⟩, _, hs, rfl⟩
  obtain ⟨F3, rfl, l3, s3⟩ := hx.typed
  rw [List.length_range] at l3
  have e3 : F3 ≠ [] := fun e => by rw [e] at l3; simp at l3; omega
  subst he
  sizeOf_list_dec
  refine draw_wp hs (by omega) (by omega) fun share s hs h7 h8 => ?_
  sizeOf_list_dec
  refine wpc_sub (fun e => ∃ s, Src s ∧ e = [.own (.lst s), .val (.int m), .val (.int n), .val (.int way), .val (.lst (strL (allR n))), _, .val (.int (1 + share)), .emp, .emp, .emp]) D.str ⟨_, hs, rfl⟩ (fun r hr e ⟨s, hs, he⟩ => tgt_gN ?_) (fun F4 e hl ⟨s, hs, he⟩ => ?_)
  · subst he
    sizeOf_list_dec
    unfold lp__law_rows_5
    sizeOf_list_dec
    refine draw_wp hs (by omega) (by omega) fun x s' hs h7 h8 => ?_
    sizeOf_list_dec
    refine ⟨fun _ => ?_, fun _ => ⟨_, hs, rfl⟩⟩
    unfold lp__law_rows_6
    sizeOf_list_dec
    exact ⟨rfl, _, hs, rfl⟩
  subst he
  have l4 := hl.length_le
  have s4 : ∀ r ∈ F4, r ∈ allR n := fun r hr => hl.subset hr
  sizeOf_list_dec
  refine choose_wp hs hpos (by omega) (.inl rfl) fun two s ho2 hs => ?_
  sizeOf_list_dec
  have hfin : ∀ d ∈ [D.lst [D.str one], D.lst (strL (allR n)), D.lst (List.map D.str F1), D.lst (List.map D.str F2), D.lst (List.map D.str F3), D.lst (List.map D.str F4 ++ [D.str two])], ∃ L : List (List Nat), d = .lst (L.map D.str) ∧ L ≠ [] ∧ (∀ r ∈ L, r ∈ allR n) ∧ L.length ≤ 70 := by
    refine all_cons (P := fun d => ∃ L : List (List Nat), d = .lst (L.map D.str) ∧ L ≠ [] ∧ (∀ r ∈ L, r ∈ allR n) ∧ L.length ≤ 70) ⟨[one], rfl, by simp, fun r hr => by rw [List.mem_singleton.mp hr]; exact ho, by simp⟩ (all_cons (P := fun d => ∃ L : List (List Nat), d = .lst (L.map D.str) ∧ L ≠ [] ∧ (∀ r ∈ L, r ∈ allR n) ∧ L.length ≤ 70) ⟨allR n, rfl, allR_ne, fun r hr => hr, by omega⟩ (all_cons (P := fun d => ∃ L : List (List Nat), d = .lst (L.map D.str) ∧ L ≠ [] ∧ (∀ r ∈ L, r ∈ allR n) ∧ L.length ≤ 70) ⟨F1, rfl, e1, s1, by omega⟩ (all_cons (P := fun d => ∃ L : List (List Nat), d = .lst (L.map D.str) ∧ L ≠ [] ∧ (∀ r ∈ L, r ∈ allR n) ∧ L.length ≤ 70) ⟨F2, rfl, e2, s2, by omega⟩ (all_cons (P := fun d => ∃ L : List (List Nat), d = .lst (L.map D.str) ∧ L ≠ [] ∧ (∀ r ∈ L, r ∈ allR n) ∧ L.length ≤ 70) ⟨F3, rfl, e3, s3, by omega⟩ (all_cons (P := fun d => ∃ L : List (List Nat), d = .lst (L.map D.str) ∧ L ≠ [] ∧ (∀ r ∈ L, r ∈ allR n) ∧ L.length ≤ 70) ⟨F4 ++ [two], by rw [List.map_append]; rfl, by simp, fun r hr => ?_, by simp; omega⟩ all_nil)))))
    rcases List.mem_append.mp hr with hr | hr
    · exact s4 r hr
    · rw [List.mem_singleton.mp hr]; exact ho2
  generalize hds : [D.lst [D.str one], D.lst (strL (allR n)), D.lst (List.map D.str F1), D.lst (List.map D.str F2), D.lst (List.map D.str F3), D.lst (List.map D.str F4 ++ [D.str two])] = ds at hfin
  have hdl : ds.length = 6 := by rw [← hds]; rfl
  have hwl : way < ds.length := by omega
  refine ⟨ds[way], List.getElem?_eq_getElem hwl, ?_⟩
  obtain ⟨L, eL, q1, q2, q3⟩ := hfin _ (List.getElem_mem hwl)
  rw [eL]
  sizeOf_list_dec
  refine wpc_map (fun r => .tup [.str r, .bl true]) (fun r hr => tgt_gN ?_) ?_
  · sizeOf_list_dec
    unfold lp__law_rows_7
    sizeOf_list_dec
    exact ⟨rfl, rfl⟩
  obtain ⟨l', p1, p2, ks, vs, p3, p4⟩ := dict_ex L
  have pr : ∀ r ∈ l', r ∈ allR n := fun r hr => q2 r ((p2 r).mp hr)
  have pne : l' ≠ [] := fun e => by
    obtain ⟨x, xs, ex⟩ := List.exists_cons_of_ne_nil q1
    have := (p2 x).mpr (by rw [ex]; simp)
    rw [e] at this
    cases this
  obtain ⟨l3, hp3, hr3⟩ := rows_sorted n1 n6 pne p1 pr
  have g3 := hr3.good
  have g4 := g3.perm hp3.symm
  have gsz := g4.sz
  have g5 := g4.perm (sortT_perm l')
  sizeOf_list_dec
  refine wpo_of p4 ?_
  sizeOf_list_dec
  refine wpo_sortS (l := l') (show some (ks.map keyOf) = some (l'.map D.str) by rw [p3]) (sortT_perm l') (sortT_sorted l') g4.ok (by omega) ?_
  sizeOf_list_dec
  refine mixed_wp hs (by have := g5.sz; omega) (.inr rfl) fun l6 s hs hp6 => ?_
  sizeOf_list_dec
  exact k n l6 _ hs (by omega) (g5.perm hp6)
end
end Pg
end
section
namespace Pg
open PySem Dt Pm
local macro_rules
  | `(tactic| array_get_dec) => `(tactic| first
    | ((with_reducible refine guard_E ?_); (first
      | (with_reducible refine wp_toA ?_)
      | ((with_reducible refine v_oName ?_); (refine ⟨_, rfl, ?_⟩))
      | ((with_reducible refine o_oName ?_); (refine ⟨_, rfl, ?_⟩))
      | (with_reducible refine wp_asCons ?_)
      | (with_reducible refine wp_asNil ?_)
      | (with_reducible refine wp_eC ?_)
      | (with_reducible refine wp_eOp ?_)
      | ((with_reducible refine v_opM ?_); (refine ⟨_, _, rfl, rfl, ?_⟩))
      | (with_reducible refine wp_eCall ?_)
      | (with_reducible refine wp_iCall ?_)
      | ((with_reducible refine v_callI ?_ ?_); (focus (simp only [Dt.sidx]; decide)))
      | ((with_reducible refine v_callM ?_ ?_); (focus (simp only [Dt.sidx]; decide)))
      | ((with_reducible refine v_eName ?_); (refine ⟨_, rfl, ?_⟩))
      | ((with_reducible refine o_eName ?_); (refine ⟨_, _, rfl, rfl, ?_⟩))
      | ((with_reducible refine r_eName ?_); (refine ⟨_, _, rfl, by assumption, ?_⟩))
      | (with_reducible refine wp_toB ?_)
      | (with_reducible refine wp_eTup ?_)
      | (with_reducible refine wp_eLst ?_)
      | (with_reducible refine wp_eB ?_)
      | (with_reducible refine v_bM ?_)
      | (with_reducible refine wp_eBM ?_)
      | ((with_reducible refine v_tyM ?_); (refine ⟨_, rfl, rfl, ?_⟩))
      | (with_reducible refine wp_bind ?_)
      | (with_reducible refine wp_ret ?_)
      | (with_reducible refine wp_eChain ?_)
      | (with_reducible refine wp_eChain3 ?_)
      | (with_reducible refine wp_bAnd ?_)
      | (with_reducible refine wp_bOr ?_)
      | (with_reducible refine wp_bNot ?_)
      | (with_reducible refine wp_eAnd ?_)
      | (with_reducible refine wp_eOr ?_)
      | (with_reducible refine wp_eNot ?_)
      | (with_reducible refine wp_eIf ?_)
      | (with_reducible refine wp_iOf ?_)
      | (with_reducible refine wp_iRange1 ?_)
      | (with_reducible refine wp_iRange2 ?_)
      | (with_reducible refine wp_iEnum1 ?_)
      | (with_reducible refine wp_iZip2 ?_)
      | ((with_reducible refine wp_mutM ?_ ?_); (focus exact rfl))
      | (with_reducible refine wp_atV ?_)
      | ((with_reducible refine wp_grd ?_ ?_); (focus exact rfl))
      | ((with_reducible refine v_setLM ?_); (refine ⟨_, rfl, ?_⟩))
      | (with_reducible refine wp_eSlice ?_)
      | (with_reducible refine wp_eRev ?_)
      | (with_reducible refine wp_eRepl ?_)
      | (with_reducible refine wp_pNo ?_)
      | (with_reducible refine wp_pYes ?_)
      | (with_reducible refine wp_eIsi ?_)
      | (with_reducible refine wp_eMaxD ?_)
      | (with_reducible refine wp_eNeg ?_)
      | (with_reducible refine wp_eDict0 ?_)
      | ((with_reducible refine v_disp1 ?_); (refine ⟨_, rfl, ?_⟩))
      | (with_reducible refine wp_eFld ?_)
      | ((with_reducible refine v_setFM ?_); (refine ⟨_, _, _, rfl, rfl, rfl, ?_⟩))
      | (with_reducible refine wp_eMeth ?_)
      | (with_reducible refine wp_eProp ?_)
      | (with_reducible refine wp_eOpM ?_)
      | (with_reducible refine wp_inO ?_)
      | (with_reducible refine wp_spO ?_)
      | (with_reducible refine wp_spO1 ?_)
      | (with_reducible refine wp_addO ?_)
      | (with_reducible refine wp_eCMeth ?_)
      | (with_reducible refine wp_eMake ?_)
      | (with_reducible refine wp_eMakeS ?_)
      | ((with_reducible refine wp_eMakeSL ?_ ?_); (focus exact rfl))
      | (with_reducible refine wp_eComp ?_)
      | (with_reducible refine wp_eComp2 ?_)
      | ((with_reducible refine v_funD ?_ ?_); (focus exact rfl); (with_reducible apply fin_mk); (focus (first | (conv => lhs; simp only [List.set_cons_zero, List.set_cons_succ, slotOf, vI, vB, back, put1, isOwn, wipeE, List.take_succ_cons, List.take_zero, List.cons_append, List.nil_append, List.replicate_succ, List.replicate_zero, Nat.reduceSub, List.getElem?_cons_zero, List.getElem?_cons_succ, if_true, if_false, Bool.false_eq_true, List.set_nil]) | skip); (first | done | exact rfl)))))
    | ((with_reducible refine guard_O ?_); (first
      | (with_reducible refine wpo_frz_v ?_)
      | (with_reducible refine wpo_frz_I ?_)
      | (with_reducible refine wpo_frz_B ?_)
      | (with_reducible refine wpo_frz_l ?_)
      | (with_reducible refine wpo_frz_d ?_)
      | (with_reducible refine v_vals ?_)
      | (with_reducible refine wpo_it_l ?_)
      | (with_reducible refine wpo_it_t ?_)
      | ((with_reducible refine wpo_it_s ?_ ?_); (focus first | exact trivial | assumption | omega | (simp only [List.length_cons, List.length_nil, List.length_map]; omega) | (exact rfl)))
      | ((with_reducible refine v_objOf ?_); (refine ⟨_, rfl, ?_⟩))
      | ((with_reducible refine v_objIs ?_); (refine ⟨_, rfl, ?_⟩))
      | (with_reducible refine wpo_isi ?_)
      | ((with_reducible refine v_deref ?_); (refine ⟨_, rfl, ?_⟩))
      | ((with_reducible refine wpo_one ?_ ?_); (focus exact rfl))
      | ((with_reducible refine wpo_okAdd ?_ ?_); (focus exact rfl))
      | ((with_reducible refine v_starD ?_); (refine ⟨_, rfl, ?_⟩))
      | (with_reducible refine wpo_ints ?_)
      | (with_reducible refine wpo_ints1 ?_)
      | (with_reducible refine wpo_ints0 ?_)
      | ((with_reducible refine v_ixS ?_ ?_); (focus first | exact trivial | assumption | omega | (simp only [List.length_cons, List.length_nil, List.length_map]; omega) | (exact rfl)))
      | (with_reducible refine v_ix ?_)
      | (with_reducible refine wpo_inSign ?_)
      | ((with_reducible refine wpo_op2 ?_ ?_); (focus first | exact trivial | assumption | omega | (simp only [List.length_cons, List.length_nil, List.length_map]; omega) | (exact rfl)))
      | ((with_reducible refine wpo_op1 ?_ ?_); (focus first | exact trivial | assumption | omega | (simp only [List.length_cons, List.length_nil, List.length_map]; omega) | (exact rfl)))
      | ((with_reducible refine wpo_slS ?_ ?_); (focus first | exact trivial | assumption | omega | (simp only [List.length_cons, List.length_nil, List.length_map]; omega) | (exact rfl)))
      | ((with_reducible refine wpo_revS ?_ ?_); (focus first | exact trivial | assumption | omega | (simp only [List.length_cons, List.length_nil, List.length_map]; omega) | (exact rfl)))
      | ((with_reducible refine wpo_replS ?_ ?_); (focus first | exact trivial | assumption | omega | (simp only [List.length_cons, List.length_nil, List.length_map]; omega) | (exact rfl)))
      | (with_reducible refine wpo_revL ?_)
      | (with_reducible refine wpo_revT ?_)
      | (with_reducible refine wpo_slL ?_)
      | (with_reducible refine wpo_slT ?_)
      | (with_reducible refine v_get ?_)
      | (with_reducible refine wpo_bind ?_)
      | (with_reducible refine wpo_map ?_)))
    | ((with_reducible refine guard_S ?_); (first
      | (with_reducible refine wps_seq ?_)
      | (with_reducible refine wps_set ?_)
      | (with_reducible refine wps_expr ?_)
      | (with_reducible refine wps_ret ?_)
      | (with_reducible refine wps_if ?_)
      | (with_reducible refine wps_ifW ?_)
      | (with_reducible refine wps_for ?_)
      | (with_reducible refine wps_sForN ?_)
      | (with_reducible refine wps_nil ?_)
      | (with_reducible refine wps_setL ?_)
      | (with_reducible refine wps_par ?_)
      | (with_reducible refine wps_par1 ?_)
      | (with_reducible refine wps_parC' ?_)
      | (with_reducible refine wps_parN ?_)
      | ((with_reducible refine v_retV ?_); (refine ⟨_, rfl, ?_⟩))
      | ((with_reducible refine o_retV ?_); (refine ⟨_, rfl, rfl, ?_⟩))
      | ((with_reducible refine p_retV ?_); (refine ⟨_, _, rfl, rfl, rfl, ?_⟩))
      | (with_reducible refine wps_retN ?_)
      | (with_reducible refine wps_raise ?_)
      | (with_reducible refine wps_break ?_)
      | (with_reducible refine wps_cont ?_)
      | (with_reducible refine wps_try ?_)
      | (with_reducible refine wps_tryAs ?_)
      | (with_reducible refine wps_tryM ?_)
      | (with_reducible refine wps_setF ?_)
      | (with_reducible refine wps_setD ?_)
      | (with_reducible refine wps_asg ?_)))
    | ((with_reducible refine fin_g ?_); (with_reducible apply fin_mk); (focus (first | (conv => lhs; simp only [List.set_cons_zero, List.set_cons_succ, slotOf, vI, vB, back, put1, isOwn, wipeE, List.take_succ_cons, List.take_zero, List.cons_append, List.nil_append, List.replicate_succ, List.replicate_zero, Nat.reduceSub, List.getElem?_cons_zero, List.getElem?_cons_succ, if_true, if_false, Bool.false_eq_true, List.set_nil]) | skip); (first | done | exact rfl)))
    | (with_reducible refine rt_mk ?_)
    | (with_reducible refine bk_mk ?_)
    | (with_reducible refine ct_mk ?_)
    | (with_reducible refine ex_mk ?_)
    | (with_reducible refine der_nil ?_)
    | (with_reducible refine der_v ?_)
    | ((with_reducible refine der_s ?_); (refine ⟨_, rfl, ?_⟩))
    | (with_reducible refine val_nil ?_)
    | (with_reducible refine val_v ?_)
    | (with_reducible refine arg_nil ?_)
    | (with_reducible refine arg_v ?_)
    | ((with_reducible refine arg_s ?_); (refine ⟨_, rfl, ?_⟩))
    | ((with_reducible refine v_append ?_); (refine ⟨_, rfl, ?_, ?_⟩); (focus first | exact trivial | assumption | omega | (simp only [List.length_cons, List.length_nil, List.length_map]; omega) | (exact rfl)))
    | ((with_reducible refine v_extend ?_); (refine ⟨_, rfl, ?_, ?_⟩); (focus first | exact trivial | assumption | omega | (simp only [List.length_cons, List.length_nil, List.length_map]; omega) | (exact rfl)))
    | ((with_reducible refine v_pop ?_); (refine ⟨_, rfl, ?_, ?_⟩); (focus first | exact trivial | assumption | omega | (simp only [List.length_cons, List.length_nil, List.length_map]; omega) | (exact rfl)))
    | ((with_reducible refine v_pop0 ?_); (refine ⟨_, rfl, ?_⟩))
    | (with_reducible refine isbl ?_)
    | (with_reducible refine isVd ?_)
    | (with_reducible refine isbl2 ?_)
    | (with_reducible refine isV ?_)
    | (with_reducible refine isI ?_)
    | (with_reducible refine is1v ?_)
    | (with_reducible refine is2v ?_)
    | (with_reducible refine is3 ?_)
    | (with_reducible refine isTI ?_)
    | (with_reducible refine is1i ?_)
    | (with_reducible refine is2i ?_)
    | (with_reducible refine isCons ?_)
    | (with_reducible refine cond_not ?_)
    | (with_reducible refine cond_t ?_)
    | (with_reducible refine cond_f ?_)
    | ((with_reducible refine ixg_mk ?_); (refine ⟨_, rfl, ?_⟩))
    | ((with_reducible refine ixg_neg ?_ ?_); (focus first | exact trivial | assumption | omega | (simp only [List.length_cons, List.length_nil, List.length_map]; omega) | (exact rfl)))
    | ((with_reducible refine ixg_nat ?_ ?_); (focus first | exact trivial | assumption | omega | (simp only [List.length_cons, List.length_nil, List.length_map]; omega) | (exact rfl)))
    | ((with_reducible refine ixg_of ?_ ?_); (focus first | exact trivial | assumption | omega | (simp only [List.length_cons, List.length_nil, List.length_map]; omega) | (exact rfl)))
    | ((with_reducible refine get_mk ?_); (refine ⟨_, rfl, ?_⟩))
    | ((with_reducible refine get_mapE ?_); (refine ⟨_, by assumption, ?_⟩))
    | ((with_reducible refine get_mapI ?_ ?_); (focus first | exact trivial | assumption | omega | (simp only [List.length_cons, List.length_nil, List.length_map]; omega) | (exact rfl)))
    | ((with_reducible refine get_mapS ?_ ?_); (focus first | exact trivial | assumption | omega | (simp only [List.length_cons, List.length_nil, List.length_map]; omega) | (exact rfl)))
    | ((with_reducible refine get_c ?_ ?_); (focus first | exact trivial | assumption | omega | (simp only [List.length_cons, List.length_nil, List.length_map]; omega) | (exact rfl)))
    | ((with_reducible refine get_map ?_ ?_); (focus first | exact trivial | assumption | omega | (simp only [List.length_cons, List.length_nil, List.length_map]; omega) | (exact rfl)))
    | ((with_reducible refine le_and ?_ ?_); (focus first | exact trivial | assumption | omega | (simp only [List.length_cons, List.length_nil, List.length_map]; omega) | (exact rfl)))
    | ((with_reducible refine rg1_and ?_ ?_); (focus first | exact trivial | assumption | omega | (simp only [List.length_cons, List.length_nil, List.length_map]; omega) | (exact rfl)))
    | ((with_reducible refine rg2_and ?_ ?_); (focus first | exact trivial | assumption | omega | (simp only [List.length_cons, List.length_nil, List.length_map]; omega) | (exact rfl)))
    | (with_reducible refine eq_and ?_)
    | (with_reducible refine wpB_two ?_)
    | (with_reducible refine wpB_one ?_)
    | (with_reducible refine wpG_nil ?_)
    | (with_reducible refine wpG_cons ?_)
    | (with_reducible refine wpG_mnil ?_)
    | (with_reducible refine wpG_mcons ?_)
    | (with_reducible refine tgt_gN ?_)
    | (with_reducible refine tgt_gT2 ?_)
    | (with_reducible refine tgt_gT3 ?_))
local macro_rules
  | `(tactic| sizeOf_list_dec) => `(tactic| repeat array_get_dec)

section
set_option maxRecDepth 100000
set_option maxHeartbeats 1000000
/-! D04a: boards side by side, exchanged. -/
open PySem Dt Pm
variable {X : ExD → Sl → Prop}
end
section
set_option maxRecDepth 100000
set_option maxHeartbeats 400000
/-! D26a: clashes and premises of sums and of exchanged boards. -/
open PySem Dt Pm
variable {X : ExD → Sl → Prop}
end
section
set_option maxRecDepth 100000
set_option maxHeartbeats 400000
/-! D26b: premises of a sum. -/
open PySem Dt Pm
end
section
set_option maxRecDepth 100000
set_option maxHeartbeats 400000
/-! D26c: the law's parts. -/
open PySem Dt Pm
variable {X : ExD → Sl → Prop}
end
section
set_option maxRecDepth 100000
set_option maxHeartbeats 400000
/-! D38a: strains of sums and of exchanged boards. -/
open PySem Dt Pm
/-! ### the order of clashes -/
abbrev blt (x y : Int ⊕ List Nat) : Bool := PyProof.Rows.itemLt x y
end
section
set_option maxRecDepth 100000
set_option maxHeartbeats 400000
/-! D38b: all quotas, sorted; the nearest. -/
open PySem Dt Pm
end
section
set_option maxRecDepth 100000
set_option maxHeartbeats 400000
/-! D38c: all quotas and the nearest, by the program. -/
namespace Dt
end Dt
open PySem Dt Pm
variable {X : ExD → Sl → Prop}
end
section
set_option maxRecDepth 100000
set_option maxHeartbeats 400000
/-! D38d: all quotas handed out, the nearest, sorts. -/
open PySem Dt Pm
variable {X : ExD → Sl → Prop}
end
section
set_option maxRecDepth 100000
set_option maxHeartbeats 400000
/-! D38e: the law's parts. -/
open PySem Dt Pm
variable {X : ExD → Sl → Prop}
end
section
set_option maxRecDepth 100000
set_option maxHeartbeats 400000
/-! D07a: results of sums and of exchanged votes; rules. -/
open PySem Dt Pm
variable {X : ExD → Sl → Prop}
end
section
set_option maxRecDepth 100000
set_option maxHeartbeats 400000
/-! D07b: what the law draws. -/
open PySem Dt Pm
variable {X : ExD → Sl → Prop}
instance {a b : Int} : Op1 (rg2 true) [.int a, .int b] ((-1000000 ≤ a ∧ a ≤ 1000000) ∧ (-1000000 ≤ b ∧ b ≤ 1000000)) (.o (.lst (rgD a b))) := ⟨fun h => by
  show (if small62 a = true ∧ small62 b = true then some (if true = true then EV.o (.lst (rgD a b)) else .v (.tup (rgD a b))) else none) = _
  rw [if_pos ⟨decide_eq_true h.1, decide_eq_true h.2⟩, if_pos rfl]⟩
end
section
set_option maxRecDepth 100000
set_option maxHeartbeats 400000
/-! D07c: the law's parts. -/
namespace Dt
end Dt
open PySem Dt Pm
variable {X : ExD → Sl → Prop}
end
section
set_option maxRecDepth 100000
set_option maxHeartbeats 400000
/-! D07d: law07_true. -/
open PySem Dt Pm
variable {X : ExD → Sl → Prop}
end
section
set_option maxRecDepth 100000
set_option maxHeartbeats 400000
/-! D10a: the rules' laws draw lines. -/
open PySem Dt Pm
variable {X : ExD → Sl → Prop}
end
section
set_option maxRecDepth 100000
set_option maxHeartbeats 400000
/-! D10b: the lines of the rules' laws. -/
open PySem Dt Pm
variable {X : ExD → Sl → Prop}
end
section
set_option maxRecDepth 100000
set_option maxHeartbeats 400000
/-! D10c: boards, quotas, votes, results of the rules' laws. -/
open PySem Dt Pm
variable {X : ExD → Sl → Prop}
end
section
set_option maxRecDepth 100000
set_option maxHeartbeats 400000
/-! D10d: results, rules that are called wrongly. -/
open PySem Dt Pm
variable {X : ExD → Sl → Prop}
end
section
set_option maxRecDepth 100000
set_option maxHeartbeats 400000
/-! D10e: law10_true. -/
open PySem Dt Pm
variable {X : ExD → Sl → Prop}
end
section
set_option maxRecDepth 100000
set_option maxHeartbeats 1000000
/-! D01a: boards of any values. -/
open PySem Dt Pm
variable {X : ExD → Sl → Prop}
/-- a value that may stand in a row's place -/
structure El (x : D) : Prop where
  pln : Pln x
  len : ∀ s, x = .str s → s.length ≤ 1000
theorem met_eq {l : List (List Nat)} : (((DtS.met l).length : Int) == (l.length : Int)) = true ↔ l.Nodup := by
  constructor
  · intro h
    have h := eq_of_beq h
    exact met_nodup_of (by omega)
  · intro h
    rw [met_nodup h]
    simp
end
section
set_option maxRecDepth 100000
set_option maxHeartbeats 1000000
/-! D01b: boards of up to sixteen values (printed by d01b_gen.py). -/
open PySem Dt Pm
variable {X : ExD → Sl → Prop}
end
section
set_option maxRecDepth 100000
set_option maxHeartbeats 1000000
/-! D01c: what a board tells, what is due (printed by d01c_gen.py). -/
open PySem Dt Pm
variable {X : ExD → Sl → Prop}
/-- what a right board tells -/
def tupD (n : Nat) (l : List (List Nat)) : D := .tup [.tup (strL (sortT l)), .int n, .int 6, .str (joinS [32] (sortT l)), .tup (strL (sortT l)), .bl true]
theorem text1_wp {m : Nat} {l : List (List Nat)} {Q : EV → Sl → Prop} (h : Good m l) (k : Q (.v (.str (joinS [32] l))) [.val (bd l)]) : wp sem_Board_text [.val (bd l)] Q X := by
  unfold sem_Board_text bd_Board_text
  have hsa : (l.map (·.length)).sum ≤ l.length * 6 := sum_le fun r hr => (h.ok r hr).1
  have h64 := h.sz
  unfold bd at k ⊢
  sizeOf_list_dec
  exact k
end
section
set_option maxRecDepth 100000
set_option maxHeartbeats 1000000
/-! D01d: what the law takes for right. -/
open PySem Dt Pm
variable {X : ExD → Sl → Prop}
def isS : D → Bool
  | .str _ => true
  | _ => false
theorem count_c (p : List Nat) (c : Nat) : Txt.count (mkS p) (mkS [c]) = p.countP fun a => a == c := by
  rw [show mkS [c] = ⟨#[c]⟩ from rfl, PyProof.Rows.count_cnt, mkS_cps]
  induction p with
  | nil => rfl
  | cons a p ih =>
    rw [PyProof.Rows.cnt_cons, ih, List.countP_cons]
    by_cases h : a = c
    · rw [if_pos h, if_pos (by simpa using h)]; omega
    · rw [if_neg h, if_neg (by simpa using h)]; omega
def bothC (p : List Nat) : Bool := ((Txt.count (mkS p) (mkS [48]) : Int) + Txt.count (mkS p) (mkS [49])) == p.length
theorem bothC_iff {p : List Nat} : bothC p = true ↔ ∀ c ∈ p, c = 48 ∨ c = 49 := by
  unfold bothC
  rw [count_c, count_c]
  have key : ∀ p : List Nat, (p.countP (fun a => a == 48) + p.countP (fun a => a == 49) ≤ p.length) ∧ (p.countP (fun a => a == 48) + p.countP (fun a => a == 49) = p.length ↔ ∀ c ∈ p, c = 48 ∨ c = 49) := by
    intro p
    induction p with
    | nil => simp
    | cons a p ih =>
      obtain ⟨h1, h2⟩ := ih
      simp only [List.countP_cons, List.length_cons, List.mem_cons, forall_eq_or_imp]
      by_cases c1 : a = 48
      · subst c1
        refine ⟨by simp; omega, ?_⟩
        rw [← h2]
        simp
        omega
      · by_cases c2 : a = 49
        · subst c2
          refine ⟨by simp; omega, ?_⟩
          rw [← h2]
          simp
          omega
        · refine ⟨by simp [c1, c2]; omega, ?_⟩
          simp [c1, c2]
          omega
  rw [← (key p).2]
  constructor
  · intro h
    have := eq_of_beq h
    omega
  · intro h
    exact beq_iff_eq.mpr (by omega)
end
section
set_option maxRecDepth 100000
set_option maxHeartbeats 1000000
/-! D02a: texts cut at spaces; rows that ascend. -/
namespace Dt
open PySem L2
theorem wp_iLst {f : M EV} {env : Sl} {Q : List D → Sl → Prop} {X : ExD → Sl → Prop} (h : wp f env (fun ev e => ∃ ds, frz ev = some (.lst ds) ∧ Q ds e) X) : wp (iLst f) env Q X := by
  unfold iLst
  refine wp_bind (wp_mono h (fun ev e ⟨ds, h1, h2⟩ => ?_) fun _ _ q => q)
  rw [h1]
  exact wp_ret h2
theorem wpo_sortLs {ds : List D} {K : EV → Prop} (h : wpo (sortD [.lst ds]) K) : wpo (sortLs [.lst ds]) K := h
end Dt
open PySem Dt Pm
variable {X : ExD → Sl → Prop}
/-! ### cut at spaces -/
theorem splS (t : List Nat) : splitS t [32] = TL.spl [32] 0 [] t := by
  have h := TL.split_spl (mkS t) (mkS [32]) (by simp [TL.tl, mkS]) (TL.kind_ok (by decide +kernel))
  unfold splitS
  have e : TL.tl (mkS t) = t := by simp [TL.tl, mkS]
  have e2 : TL.tl (mkS [32]) = [32] := by simp [TL.tl, mkS]
  rw [e, e2] at h
  exact h
theorem spl_facts : ∀ (t acc : List Nat), TL.spl [32] 0 acc t ≠ [] ∧ (TL.spl [32] 0 acc t).length ≤ t.length + 1 ∧ ∀ r ∈ TL.spl [32] 0 acc t, r.length ≤ acc.length + t.length ∧ ∀ c ∈ r, c ∈ acc ∨ c ∈ t
  | [], acc => by
    rw [TL.spl_nil]
    refine ⟨by simp, by simp, fun r hr => ?_⟩
    rw [List.mem_singleton.mp hr]
    exact ⟨by simp, fun c hc => .inl hc⟩
  | c :: t, acc => by
    by_cases h : TL.pre [32] (c :: t) = true
    · rw [TL.spl_hit h]
      obtain ⟨a1, a2, a3⟩ := spl_facts t []
      refine ⟨by simp, by simpa using a2, fun r hr => ?_⟩
      rcases List.mem_cons.mp hr with e | hr
      · rw [e]
        exact ⟨by simp, fun c hc => .inl hc⟩
      · obtain ⟨b1, b2⟩ := a3 r hr
        refine ⟨by simp at b1 ⊢; omega, fun c hc => .inr ?_⟩
        rcases b2 c hc with z | z
        · cases z
        · exact List.mem_cons_of_mem _ z
    · rw [TL.spl_miss (by simpa using h)]
      obtain ⟨a1, a2, a3⟩ := spl_facts t (acc ++ [c])
      refine ⟨a1, by simp; omega, fun r hr => ?_⟩
      obtain ⟨b1, b2⟩ := a3 r hr
      refine ⟨by simp at b1 ⊢; omega, fun x hx => ?_⟩
      rcases b2 x hx with z | z
      · rcases List.mem_append.mp z with z | z
        · exact .inl z
        · rw [List.mem_singleton.mp z]; exact .inr List.mem_cons_self
      · exact .inr (List.mem_cons_of_mem _ z)
theorem split_facts (t : List Nat) : splitS t [32] ≠ [] ∧ (splitS t [32]).length ≤ t.length + 1 ∧ ∀ r ∈ splitS t [32], r.length ≤ t.length ∧ ∀ c ∈ r, c ∈ t := by
  rw [splS]
  obtain ⟨a1, a2, a3⟩ := spl_facts t []
  exact ⟨a1, a2, fun r hr => ⟨by have := (a3 r hr).1; simpa using this, fun c hc => ((a3 r hr).2 c hc).resolve_left (by simp)⟩⟩
/-! ### rows that ascend -/
theorem strict_iff {l : List (List Nat)} (h : SortedS l) : ((List.range (l.length - 1)).all fun i => decide (l.getD i [] < l.getD (i + 1) [])) = true ↔ l.Nodup := by
  have gd : ∀ {i : Nat} (hi : i < l.length), l.getD i [] = l[i] := fun {i} hi => by rw [List.getD_eq_getElem?_getD, List.getElem?_eq_getElem hi]; rfl
  have srt := List.pairwise_iff_getElem.mp h
  rw [List.all_eq_true]
  constructor
  · intro a
    refine List.pairwise_iff_getElem.mpr fun i j hi hj hij e => ?_
    have h1 := of_decide_eq_true (a i (List.mem_range.mpr (by omega)))
    rw [gd hi, gd (by omega)] at h1
    by_cases c : j = i + 1
    · subst c
      rw [e] at h1
      exact List.lt_irrefl _ h1
    · have h2 := srt (i + 1) j (by omega) hj (by omega)
      rw [← e] at h2
      exact h2 h1
  · intro nd i hi
    have hi := List.mem_range.mp hi
    refine decide_eq_true ?_
    rw [gd (by omega), gd (by omega)]
    have h1 := srt i (i + 1) (by omega) (by omega) (by omega)
    have h2 := List.pairwise_iff_getElem.mp nd i (i + 1) (by omega) (by omega) (by omega)
    by_cases c : l[i]'(by omega) < l[i + 1]'(by omega)
    · exact c
    · exact absurd (List.le_antisymm (show l[i]'(by omega) ≤ l[i + 1]'(by omega) from h1) (show l[i + 1]'(by omega) ≤ l[i]'(by omega) from c)) h2
theorem nodup_le {α : Type} [DecidableEq α] : ∀ {a b : List α}, a.Nodup → (∀ x ∈ a, x ∈ b) → a.length ≤ b.length
  | [], b, _, _ => by simp
  | x :: a, b, h, s => by
    obtain ⟨h1, h2⟩ := List.nodup_cons.mp h
    have hx := s x List.mem_cons_self
    have ih := nodup_le (a := a) (b := b.erase x) h2 fun y hy => (List.mem_erase_of_ne fun e : y = x => h1 (by rw [← e]; exact hy)).mpr (s y (List.mem_cons_of_mem _ hy))
    rw [List.length_erase_of_mem hx] at ih
    have : 0 < b.length := List.length_pos_iff.mpr fun e => by rw [e] at hx; cases hx
    simp only [List.length_cons]
    omega
/-- the rows are right -/
theorem good_iff {m : Nat} {R : List (List Nat)} (h1 : 1 ≤ m) (h6 : m ≤ 6) (hne : R ≠ []) (hl : ∀ r ∈ R, r ∈ allR m) : (∃ n, Good n R) ↔ R.Nodup := by
  constructor
  · rintro ⟨n, g⟩
    exact g.nd
  · intro nd
    have := nodup_le nd hl
    have := allR_le h6
    exact ⟨m, h1, h6, hne, by omega, nd, fun r hr => mem_allR.mp (hl r hr)⟩
/-! ### are_rows -/
theorem are_rows_own {R : List (List Nat)} {Q : EV → Sl → Prop} (hne : R ≠ []) (hl : R.length ≤ 2000) (he : ∀ r ∈ R, r.length ≤ 1000) (k : ∀ (b : Bool) sl, (b = true ↔ ∃ n, Good n R) → Vo sl R → Q (.v (.bl b)) [sl]) : wp sem_are_rows [.own (.lst (strL R))] Q X := by
  unfold sem_are_rows bd_are_rows
  have no : (¬ ∃ n, Good n R) → (false = true ↔ ∃ n, Good n R) := fun h => ⟨fun h => (by cases h), fun z => (h z).elim⟩
  obtain ⟨r, R', el⟩ := List.exists_cons_of_ne_nil hne
  have hrl := he r (by rw [el]; simp)
  have h0 : R[(0 : Int).toNat]? = some r := by rw [el]; rfl
  have hpos : 0 < (strL R).length := by rw [el]; simp
  have len0 : (strL R).length = R.length := by simp [strL]
  have hrb : r.length ≤ 1000000 := by omega
  have hn : ∀ n, Good n R → r.length = n := fun n g => (g.row r (by rw [el]; simp)).1
  sizeOf_list_dec
  refine cond_no (beq_eq_false_iff_ne.mpr (by omega)) ?_
  sizeOf_list_dec
  refine cond_d (fun q => ?_) (fun q => ?_)
  · sizeOf_list_dec
    refine cond_d (fun q2 => ?_) (fun q2 => ?_)
    · sizeOf_list_dec
      refine wpc_map (fun x => .bl (decide (x ∈ allR r.length))) (fun x hx => tgt_gN ?_) ?_
      · have hx' := he x hx
        sizeOf_list_dec
        unfold lp_are_rows_0
        sizeOf_list_dec
        refine is_answers_any (by omega) (pln_str _) (fun s e => by cases e; exact hx') fun b hb => ?_
        sizeOf_list_dec
        refine ⟨?_, rfl⟩
        show some (D.bl b) = some (D.bl (decide (x ∈ allR r.length)))
        rw [Bool.eq_iff_iff.mpr (hb.trans ⟨fun ⟨a, e, h⟩ => by cases e; exact decide_eq_true h, fun h => ⟨x, rfl, of_decide_eq_true h⟩⟩)]
      · sizeOf_list_dec
        refine cond_b (fun q3 => ?_) (fun q3 => ?_)
        · have hr : ∀ x ∈ R, x ∈ allR r.length := fun x hx => of_decide_eq_true (List.all_eq_true.mp q3 x hx)
          sizeOf_list_dec
          refine wpo_lenSet (f := fun a => a) (l := R) rfl (by omega) ?_
          sizeOf_list_dec
          rw [List.map_id', len0]
          exact k _ _ (met_eq.trans (good_iff (by omega) (by omega) hne hr).symm) (.inl rfl)
        · sizeOf_list_dec
          refine k false _ (no fun ⟨n, g⟩ => ?_) (.inl rfl)
          have : (R.all fun x => decide (x ∈ allR r.length)) = true := List.all_eq_true.mpr fun x hx => decide_eq_true (mem_allR.mpr ⟨by rw [(g.row x hx).1, hn n g], (g.row x hx).2⟩)
          rw [this] at q3
          cases q3
    · sizeOf_list_dec
      exact k false _ (no fun ⟨n, g⟩ => by have := hn n g; have := g.n6; omega) (.inr rfl)
  · sizeOf_list_dec
    exact k false _ (no fun ⟨n, g⟩ => by have := hn n g; have := g.n1; omega) (.inr rfl)
end
section
set_option maxRecDepth 100000
set_option maxHeartbeats 1000000
/-! D02b: what a text is due; read. -/
open PySem Dt Pm
variable {X : ExD → Sl → Prop}
/-- what the law takes for due -/
def Due (R : List (List Nat)) (y : D) : Prop := (y = .non ∧ ¬ ∃ n, Good n R) ∨ ((∃ n, Good n R) ∧ y = .tup (strL (sortT R)))
structure Tx (t : List Nat) : Prop where
  len : t.length ≤ 1000
  chr : ∀ c ∈ t, c < 1114112
theorem rng1 (n : Nat) (h : 1 ≤ n) : rangeD 0 ((n : Int) - 1) = (List.range (n - 1)).map fun i : Nat => D.int (i : Int) := by
  rw [show (n : Int) - 1 = ((n - 1 : Nat) : Int) by omega, rangeD_nat]
theorem due_wp {t : List Nat} {Q : EV → Sl → Prop} (ht : Tx t) (k : ∀ y, Due (splitS t [32]) y → Q (.v y) [.val (.str t)]) : wp sem__law_due_v9 [.val (.str t)] Q X := by
  unfold sem__law_due_v9 bd__law_due_v9
  have htl := ht.len
  obtain ⟨f1, f2, f3⟩ := split_facts t
  have hok : StrsOk 1000 (splitS t [32]) := fun r hr => ⟨by have := (f3 r hr).1; omega, fun c hc => ht.chr c ((f3 r hr).2 c hc)⟩
  sizeOf_list_dec
  refine wpo_op1 ⟨by simp, by omega⟩ ?_
  generalize splitS t [32] = R at *
  obtain ⟨r, R', el⟩ := List.exists_cons_of_ne_nil f1
  have hlen : ∀ x ∈ R, x.length ≤ 1000 := fun x hx => (hok x hx).1
  have hrl := hlen r (by rw [el]; simp)
  have h0 : R[(0 : Int).toNat]? = some r := by rw [el]; rfl
  have hpos : 0 < (strL R).length := by rw [el]; simp
  have hpos2 : 1 ≤ R.length := by rw [el]; simp
  have len0 : (strL R).length = R.length := by simp [strL]
  have hrb : r.length ≤ 1000000 := by omega
  have hn : ∀ n, Good n R → r.length = n := fun n g => (g.row r (by rw [el]; simp)).1
  have no : (¬ ∃ n, Good n R) → Due R .non := fun h => .inl ⟨rfl, h⟩
  clear f3
  sizeOf_list_dec
  refine cond_d (fun q => ?_) (fun q => ?_)
  · sizeOf_list_dec
    refine cond_d (fun q2 => ?_) (fun q2 => ?_)
    · sizeOf_list_dec
      refine wp_iLst ?_
      sizeOf_list_dec
      refine ⟨_, rfl, ?_⟩
      sizeOf_list_dec
      refine wpc_map (inj := D.str) (fun a : List Nat => .bl ((a.length : Int) == r.length)) (fun a ha => tgt_gN ?_) ?_
      · have := hlen a ha
        unfold lp__law_due_v9_0
        sizeOf_list_dec
        exact ⟨rfl, rfl⟩
      · sizeOf_list_dec
        refine cond_b (fun q5 => ?_) (fun q5 => ?_)
        · sizeOf_list_dec
          refine wp_iLst ?_
          sizeOf_list_dec
          refine ⟨_, rfl, ?_⟩
          sizeOf_list_dec
          refine wpc_map (inj := D.str) (fun a => .bl (bothC a)) (fun a ha => tgt_gN ?_) ?_
          · have := hlen a ha
            unfold lp__law_due_v9_1
            sizeOf_list_dec
            exact ⟨rfl, rfl⟩
          · sizeOf_list_dec
            refine cond_b (fun q6 => ?_) (fun q6 => ?_)
            · have hall : ∀ a ∈ R, a ∈ allR r.length := fun a ha => mem_allR.mpr ⟨by have := eq_of_beq (List.all_eq_true.mp q5 a ha); omega, bothC_iff.mp (List.all_eq_true.mp q6 a ha)⟩
              have gi := good_iff (m := r.length) (by omega) (by omega) f1 hall
              have sp := sortT_perm R
              have ss := sortT_sorted R
              have sl := sp.length_eq
              sizeOf_list_dec
              refine wpo_sortLs (wpo_sortS rfl sp ss hok (by omega) ?_)
              have si := strict_iff ss
              have sn := sp.nodup_iff
              have due1 : (sortT R).Nodup → Due R (.tup (strL (sortT R))) := fun h => .inr ⟨gi.mpr (sn.mp h), rfl⟩
              have due0 : ¬ (sortT R).Nodup → Due R .non := fun h => no fun g => h (sn.mpr (gi.mp g))
              have shl : ∀ a ∈ sortT R, a.length ≤ 1000 := fun a ha => hlen a (sp.mem_iff.mp ha)
              generalize sortT R = Z at *
              have lenZ : (strL Z).length = Z.length := by simp [strL]
              sizeOf_list_dec
              rw [lenZ, rng1 _ (by omega)]
              refine wpc_map (inj := fun i : Nat => D.int (i : Int)) (fun i => .bl (decide (Z.getD i [] < Z.getD (i + 1) []))) (fun i hi => tgt_gN ?_) ?_
              · have hi := List.mem_range.mp hi
                unfold lp__law_due_v9_2
                sizeOf_list_dec
                rw [show ((i : Int) + 1).toNat = i + 1 by omega]
                exact ⟨rfl, rfl⟩
              · sizeOf_list_dec
                refine cond_b (fun q7 => ?_) (fun q7 => ?_)
                · sizeOf_list_dec
                  exact k _ (due1 (si.mp q7))
                · sizeOf_list_dec
                  exact k _ (due0 fun h => by rw [si.mpr h] at q7; cases q7)
            · sizeOf_list_dec
              refine k _ (no fun ⟨n, g⟩ => ?_)
              have := List.all_eq_true.mpr fun a ha => bothC_iff.mpr (g.row a ha).2
              rw [this] at q6
              cases q6
        · sizeOf_list_dec
          refine k _ (no fun ⟨n, g⟩ => ?_)
          have : (R.all fun a => (a.length : Int) == r.length) = true := List.all_eq_true.mpr fun a ha => by rw [(g.row a ha).1, hn n g]; exact beq_self_eq_true _
          rw [this] at q5
          cases q5
    · sizeOf_list_dec
      exact k _ (no fun ⟨n, g⟩ => by have := hn n g; have := g.n6; omega)
  · sizeOf_list_dec
    exact k _ (no fun ⟨n, g⟩ => by have := hn n g; have := g.n1; omega)
theorem read_any {C0 : Addr} {t : List Nat} {Q : EV → Sl → Prop} (ht : Tx t) (k : ∀ n, Good n (splitS t [32]) → Q (.v (bd (sortT (splitS t [32])))) [.val (.raw (.ref C0)), .val (.str t)]) (kx : (¬ ∃ n, Good n (splitS t [32])) → X ⟨22, []⟩ [.val (.raw (.ref C0)), .val (.str t)]) : wp (sem_Board_read C0) [.val (.raw (.ref C0)), .val (.str t)] Q X := by
  unfold sem_Board_read bd_Board_read
  have htl := ht.len
  obtain ⟨f1, f2, f3⟩ := split_facts t
  sizeOf_list_dec
  refine wpo_op1 ⟨by simp, by omega⟩ ?_
  generalize splitS t [32] = R at *
  sizeOf_list_dec
  refine are_rows_own f1 (by omega) (fun r hr => by have := (f3 r hr).1; omega) fun b sl hb hsl => ?_
  cases b with
  | false =>
    have hx := kx fun g => by have := hb.mpr g; cases this
    rcases hsl with rfl | rfl
    all_goals (
      sizeOf_list_dec
      exact hx)
  | true =>
    obtain ⟨n, g⟩ := hb.mp rfl
    have hk := k n g
    rcases hsl with rfl | rfl
    all_goals (
      sizeOf_list_dec
      refine wp_makeVals (init_wp g (sortT_perm R) (sortT_sorted R) ?_)
      refine ⟨rfl, _, _, rfl, rfl, ?_⟩
      sizeOf_list_dec
      exact hk)
end
section
set_option maxRecDepth 100000
set_option maxHeartbeats 1000000
/-! D02c: is right. -/
open PySem Dt Pm
variable {X : ExD → Sl → Prop}
theorem join_ok {n : Nat} {Z : List (List Nat)} (g : Good n Z) : ∀ c ∈ joinS [32] Z, c < 1114112 := by
  intro c hc
  rcases joinS_mem hc with hc | ⟨p, hp, hc⟩
  · have := List.mem_singleton.mp hc
    omega
  · rcases (g.row p hp).2 c hc with e | e <;> omega
theorem is_right_text {C0 : Addr} {t : List Nat} {Q : EV → Sl → Prop} (ht : Tx t) (k : Q (.v (.bl true)) [.val (.str t)]) : wp (sem__law_is_right_v5 C0) [.val (.str t)] Q X := by
  unfold sem__law_is_right_v5 bd__law_is_right_v5
  sizeOf_list_dec
  refine read_any ht (fun n g => ?_) (fun hx => ?_)
  · sizeOf_list_dec
    refine due_wp ht fun y hy => ?_
    rcases hy with ⟨_, h⟩ | ⟨_, rfl⟩
    · exact absurd ⟨n, g⟩ h
    have gz : Good n (sortT (splitS t [32])) := g.perm (sortT_perm _)
    generalize sortT (splitS t [32]) = Z at gz
    have hsz := gz.sz
    obtain ⟨r, Z', el⟩ := List.exists_cons_of_ne_nil gz.ne
    have h0 : Z[(0 : Int).toNat]? = some r := by rw [el]; rfl
    have hr := (gz.row r (by rw [el]; simp)).1
    have h6 := gz.n6
    have hsum : (Z.map (·.length)).sum ≤ Z.length * 6 := sum_le fun r hr => by have := (gz.row r hr).1; omega
    have hj := join_len [32] Z
    have hpos : 0 < (strL Z).length := by rw [el]; simp
    have hrb : r.length ≤ 1000000 := by omega
    have hjc : ∀ c ∈ joinS [32] Z, c < 1114112 := join_ok gz
    have hsh : Shw (.lst [.tup (strL Z), .int n, .str (joinS [32] Z)]) 40000 2 := (shw_lst (shwL_cons (shw_tup gz.ok.shwL) (shwL_cons (shw_int (i := (n : Int)) (by omega)) (shwL_cons (shw_str hjc) shwL_nil)))).mono (by have := hsz; simp only [List.length_singleton] at hj; omega) (by omega)
    sizeOf_list_dec
    refine rows_wp ?_
    sizeOf_list_dec
    refine issues_wp gz ?_
    sizeOf_list_dec
    refine text1_wp gz ?_
    sizeOf_list_dec
    rw [hr]
    refine is_equal_wp hsh (by omega) (by omega) ?_
    sizeOf_list_dec
    exact k
  · sizeOf_list_dec
    refine ⟨true, rfl, fun _ => ?_, fun h => absurd h (by decide)⟩
    sizeOf_list_dec
    refine due_wp ht fun y hy => ?_
    rcases hy with ⟨rfl, _⟩ | ⟨h, _⟩
    · sizeOf_list_dec
      exact k
    · exact absurd h hx
/-- values that are no texts -/
def NoT (d : D) : Prop := d = .non ∨ d = .int 0 ∨ d = .bl true ∨ d = .lst [.str [48]] ∨ d = .tup [.str [48], .str [49]] ∨ d = .dic [] []
theorem is_right_non {C0 : Addr} {d : D} {Q : EV → Sl → Prop} (hd : NoT d) (k : Q (.v (.bl true)) [.val d]) : wp (sem__law_is_right_v5 C0) [.val d] Q X := by
  unfold sem__law_is_right_v5 bd__law_is_right_v5
  rcases hd with rfl | rfl | rfl | rfl | rfl | rfl
  all_goals (
    sizeOf_list_dec
    unfold sem_Board_read bd_Board_read
    sizeOf_list_dec
    refine ⟨true, rfl, fun _ => ?_, fun h => absurd h (by decide)⟩
    unfold sem__law_due_v9 bd__law_due_v9
    sizeOf_list_dec
    exact k)
end
section
set_option maxRecDepth 100000
set_option maxHeartbeats 1000000
/-! D02d: bent texts; the law. -/
open PySem Dt Pm
variable {X : ExD → Sl → Prop}
theorem spl_sum : ∀ (t acc : List Nat), ((TL.spl [32] 0 acc t).map fun r => r.length + 1).sum = acc.length + t.length + 1
  | [], acc => by rw [TL.spl_nil]; simp
  | c :: t, acc => by
    by_cases h : TL.pre [32] (c :: t) = true
    · rw [TL.spl_hit h]
      have := spl_sum t []
      show (acc.length + 1) + ((TL.spl [32] 0 [] t).map fun r => r.length + 1).sum = _
      rw [this, List.length_nil, List.length_cons]
      omega
    · rw [TL.spl_miss (by simpa using h), spl_sum t (acc ++ [c])]
      simp
      omega
theorem sum_part (R : List (List Nat)) (a b : Nat) : (((R.take a ++ R.drop b).map fun r => r.length + 1)).sum ≤ 2 * (R.map fun r => r.length + 1).sum := by
  have h1 : ((R.take a).map fun r => r.length + 1).sum + ((R.drop a).map fun r => r.length + 1).sum = (R.map fun r => r.length + 1).sum := by
    rw [← List.sum_append, ← List.map_append, List.take_append_drop]
  have h2 : ((R.take b).map fun r => r.length + 1).sum + ((R.drop b).map fun r => r.length + 1).sum = (R.map fun r => r.length + 1).sum := by
    rw [← List.sum_append, ← List.map_append, List.take_append_drop]
  rw [List.map_append, List.sum_append]
  omega
theorem sum_one (R : List (List Nat)) : (R.map fun r => r.length + 1).sum = (R.map (·.length)).sum + R.length := by
  induction R with
  | nil => rfl
  | cons r R ih => simp only [List.map_cons, List.sum_cons, List.length_cons, ih]; omega
theorem part_len (t : List Nat) (a b : Nat) : (joinS [32] ((splitS t [32]).take a ++ (splitS t [32]).drop b)).length ≤ 2 * t.length + 2 := by
  have h := join_len [32] ((splitS t [32]).take a ++ (splitS t [32]).drop b)
  have h1 := sum_part (splitS t [32]) a b
  rw [sum_one] at h1
  have h2 : ((splitS t [32]).map fun r => r.length + 1).sum = t.length + 1 := by rw [splS, spl_sum]; simp
  simp only [List.length_singleton, Nat.mul_one] at h
  omega
theorem sub1_two (c : Nat) (z : List Nat) (hz : 1 ≤ z.length) : ∀ s : List Nat, (sub1 c z s).length ≤ z.length * s.length ∧ ∀ x ∈ sub1 c z s, x ∈ s ∨ x ∈ z
  | [] => ⟨by simp [sub1], fun x h => by cases h⟩
  | a :: s => by
    obtain ⟨h1, h2⟩ := sub1_two c z hz s
    have e : sub1 c z (a :: s) = (if a = c then z else [a]) ++ sub1 c z s := rfl
    rw [e, List.length_append, List.length_cons, Nat.mul_succ]
    have e2 : (if a = c then z else [a]).length ≤ z.length := by split <;> simp <;> omega
    refine ⟨by omega, fun x hx => ?_⟩
    rcases List.mem_append.mp hx with h | h
    · split at h
      · exact .inr h
      · rw [List.mem_singleton.mp h]; exact .inl List.mem_cons_self
    · exact (h2 x h).imp (List.mem_cons_of_mem _) id
def Bt (t t' : List Nat) : Prop := t'.length ≤ 2 * t.length + 2 ∧ ∀ c ∈ t', c < 1114112
theorem bent2_wp {t : List Nat} {s : List D} {Q : EV → Sl → Prop} (hs : Src s) (hl : t.length ≤ 450) (hc : ∀ c ∈ t, c < 1114112) (k : ∀ t' s', Src s' → Bt t t' → Q (.v (.str t')) [.own (.lst s'), .val (.str t)]) : wp sem__law_bent_v2 [.own (.lst s), .val (.str t)] Q X := by
  unfold sem__law_bent_v2 bd__law_bent_v2
  obtain ⟨f1, f2, f3⟩ := split_facts t
  have pl := part_len t
  have hsm : ((splitS t [32]).map fun r => r.length + 1).sum = t.length + 1 := by rw [splS, spl_sum]; simp
  have hpc : ∀ a b, ∀ c ∈ joinS [32] ((splitS t [32]).take a ++ (splitS t [32]).drop b), c < 1114112 := fun a b c hc' => by
    rcases joinS_mem hc' with h | ⟨p, hp, h⟩
    · have := List.mem_singleton.mp h
      omega
    · have hp : p ∈ splitS t [32] := (List.mem_append.mp hp).elim List.mem_of_mem_take List.mem_of_mem_drop
      exact hc c ((f3 p hp).2 c h)
  sizeOf_list_dec
  refine draw_wp hs (by omega) (by omega) fun a0 s hs a1 a2 => ?_
  obtain ⟨a, rfl⟩ : ∃ n : Nat, a0 = n := ⟨a0.toNat, by omega⟩
  sizeOf_list_dec
  refine choose_wp (inj := fun c : Nat => D.str [c]) hs (by simp) (by simp) (.inl rfl) fun sg s hsg hs => ?_
  have hsl : sg < 1114112 := by
    simp only [List.mem_cons, List.not_mem_nil, or_false] at hsg
    omega
  sizeOf_list_dec
  refine wpo_op1 ⟨by simp, by omega⟩ ?_
  sizeOf_list_dec
  have hcut : ∀ lo hi, (cutD t lo hi).length ≤ t.length ∧ ∀ c ∈ cutD t lo hi, c < 1114112 := fun lo hi => by
    unfold cutD
    exact ⟨Nat.le_trans (List.length_take_le' ..) (by rw [List.length_drop]; omega), fun c h => hc c (List.mem_of_mem_drop (List.mem_of_mem_take h))⟩
  have rl : (strL (splitS t [32])).length = (splitS t [32]).length := by simp [strL]
  have rp : 0 < (splitS t [32]).length := List.length_pos_iff.mpr f1
  generalize splitS t [32] = R at *
  rw [List.length_map]
  refine draw_wp hs (by omega) (by omega) fun b0 s hs b1 b2 => ?_
  obtain ⟨b, rfl⟩ : ∃ n : Nat, b0 = n := ⟨b0.toNat, by omega⟩
  obtain ⟨hA, hA2⟩ := hcut none (some (a : Int))
  obtain ⟨hB, hB2⟩ := hcut (some (a : Int)) none
  obtain ⟨hC, hC2⟩ := hcut (some ((a : Int) + 1)) none
  sizeOf_list_dec
  refine wpo_op2 (by first | omega | (simp only [List.length_append, List.length_cons, List.length_nil]; omega)) ?_
  sizeOf_list_dec
  refine wpo_op2 (by first | omega | (simp only [List.length_append, List.length_cons, List.length_nil]; omega)) ?_
  sizeOf_list_dec
  have hcl : ∀ lo hi, (cutD (R.map D.str) lo hi).length ≤ R.length := fun lo hi => by
    unfold cutD
    exact Nat.le_trans (List.length_take_le' ..) (by rw [List.length_drop, List.length_map]; omega)
  refine wpo_op2 (by have h1 := hcl none (some (b : Int)); have h2 := hcl (some (if (b : Int) - 1 > 0 then (b : Int) - 1 else 0)) none; omega) ?_
  sizeOf_list_dec
  have hP := pl b (b - 1)
  have hPc := hpc b (b - 1)
  have hps := sum_part R b (b - 1)
  rw [sum_one, sum_one] at hps
  rw [sum_one] at hsm
  rw [show (if (b : Int) - 1 > 0 then (b : Int) - 1 else 0) = ((b - 1 : Nat) : Int) by split <;> omega, cutD_pre, cutD_suf, ← List.map_take, ← List.map_drop, ← List.map_append]
  generalize R.take b ++ R.drop (b - 1) = P at hP hPc hps
  refine wpo_op1 (by simp only [List.length_cons, List.length_nil]; omega) ?_
  sizeOf_list_dec
  rw [replS_one]
  obtain ⟨hr1, hr2⟩ := sub1_two 32 [32, 32] (by simp) t
  have hr1 : (sub1 32 [32, 32] t).length ≤ 2 * t.length := hr1
  have app : ∀ {x y : List Nat}, (∀ c ∈ x, c < 1114112) → (∀ c ∈ y, c < 1114112) → ∀ c ∈ x ++ y, c < 1114112 := fun hx hy c h => (List.mem_append.mp h).elim (hx c) (hy c)
  have one : ∀ c ∈ [sg], c < 1114112 := fun c h => by rw [List.mem_singleton.mp h]; exact hsl
  have spc : ∀ c ∈ [32], c < 1114112 := fun c h => by rw [List.mem_singleton.mp h]; omega
  have ac : ∀ {x : List Nat} {l : List (List Nat)}, Bt t x → (∀ y ∈ l, Bt t y) → ∀ y ∈ x :: l, Bt t y := fun h k => List.forall_mem_cons.mpr ⟨h, k⟩
  have hall : ∀ t' ∈ [cutD t none (some (a : Int)) ++ [sg] ++ cutD t (some (a : Int)) none, cutD t none (some (a : Int)) ++ [sg] ++ cutD t (some ((a : Int) + 1)) none, cutD t none (some (a : Int)) ++ cutD t (some ((a : Int) + 1)) none, t ++ [32], joinS [32] P, 32 :: t, sub1 32 [32, 32] t, []], Bt t t' := by
    refine ac ⟨by simp only [List.length_append, List.length_singleton]; omega, app (app hA2 one) hB2⟩ (ac ⟨by simp only [List.length_append, List.length_singleton]; omega, app (app hA2 one) hC2⟩ (ac ⟨by rw [List.length_append]; omega, app hA2 hC2⟩ (ac ⟨by rw [List.length_append, List.length_singleton]; omega, app hc spc⟩ (ac ⟨hP, hPc⟩ (ac ⟨by rw [List.length_cons]; omega, app (x := [32]) spc hc⟩ (ac ⟨by omega, fun c h => (hr2 c h).elim (hc c) fun h => by simp at h; omega⟩ (ac ⟨by simp, fun c h => by cases h⟩ (fun y h => by cases h))))))))
  generalize cutD t none (some (a : Int)) ++ [sg] ++ cutD t (some (a : Int)) none = c1 at hall ⊢
  generalize cutD t none (some (a : Int)) ++ [sg] ++ cutD t (some ((a : Int) + 1)) none = c2 at hall ⊢
  generalize cutD t none (some (a : Int)) ++ cutD t (some ((a : Int) + 1)) none = c3 at hall ⊢
  refine choose_wp (inj := D.str) (l := [c1, c2, c3, t ++ [32], joinS [32] P, 32 :: t, sub1 32 [32, 32] t, []]) hs (by simp) (by simp) (.inr rfl) fun t' s ht' hs => ?_
  sizeOf_list_dec
  exact k t' s hs (hall t' ht')
end
section
set_option maxRecDepth 100000
set_option maxHeartbeats 1000000
/-! D02e: the law. -/
open PySem Dt Pm
variable {X : ExD → Sl → Prop}
theorem bt_tx {t t' : List Nat} (h : Bt t t') (hl : t.length ≤ 450) : Tx t' := ⟨by have := h.1; omega, h.2⟩
theorem rest02 {C0 : Addr} {A B L : D} {S : Dt.Slot} {T t1 t2 t3 : List Nat} {u : Dt.Slot} {N : Sl → Prop} {P : Ps} (h0 : Tx T) (h1 : Tx t1) (h2 : Tx t2) (h3 : Tx t3) (k : ∀ u, N [.val A, .val B, S, .val L, .val (.str T), .val (.str t1), .val (.str t2), u]) :
    wps (forL (gN 7) (lp_law_v30_0 C0) [.str T, .str t1, .str t2, .str t3]) [.val A, .val B, S, .val L, .val (.str T), .val (.str t1), .val (.str t2), u] N P := by
  have hall : ∀ t ∈ [T, t1, t2, t3], Tx t := fun t ht => by
    simp only [List.mem_cons, List.not_mem_nil, or_false] at ht
    rcases ht with rfl | rfl | rfl | rfl <;> assumption
  rw [show [D.str T, D.str t1, D.str t2, D.str t3] = [T, t1, t2, t3].map D.str from rfl]
  generalize [T, t1, t2, t3] = Z at hall
  refine wps_forI (fun _ e => ∃ u, e = [.val A, .val B, S, .val L, .val (.str T), .val (.str t1), .val (.str t2), u]) ⟨_, rfl⟩ (fun pre t post hm e ⟨u, he⟩ => tgt_gN ?_) (fun e ⟨u, he⟩ => ?_)
  · subst he
    have ht := hall t (by rw [hm]; simp)
    unfold lp_law_v30_0
    sizeOf_list_dec
    refine is_right_text ht ?_
    sizeOf_list_dec
    exact ⟨_, rfl⟩
  · subst he
    exact k _
theorem lap02 {C0 : Addr} {A B L : D} {s : List D} {x y z u : Dt.Slot} {N : Sl → Prop} {P : Ps} (hs : Src s) (k : ∀ s' x y z u, Src s' → N [.val A, .val B, .own (.lst s'), .val L, x, y, z, u]) : wps (lp_law_v30_1 C0) [.val A, .val B, .own (.lst s), .val L, x, y, z, u] N P := by
  unfold lp_law_v30_1
  sizeOf_list_dec
  refine lawrows_wp (m := 6) hs (by omega) (by omega) fun n l s hs hn g => ?_
  have hsum : (l.map (·.length)).sum ≤ l.length * 6 := sum_le fun r hr => by have := (g.row r hr).1; omega
  have hj := join_len [32] l
  have hsz := g.sz
  have hjc := join_ok g
  sizeOf_list_dec
  have hTl : (joinS [32] l).length ≤ 450 := by simp only [List.length_singleton] at hj; omega
  generalize joinS [32] l = T at hTl hjc ⊢
  have hT : Tx T := ⟨by omega, hjc⟩
  refine bent2_wp hs hTl hjc fun t1 s hs b1 => ?_
  have hT1 := bt_tx b1 hTl
  have hT1l := hT1.len
  have hT1c := hT1.chr
  have hcut : (cutD T none (some 13)).length ≤ T.length ∧ ∀ c ∈ cutD T none (some 13), c < 1114112 := by
    unfold cutD
    exact ⟨Nat.le_trans (List.length_take_le' ..) (by rw [List.length_drop]; omega), fun c h => hjc c (List.mem_of_mem_drop (List.mem_of_mem_take h))⟩
  have hcl := hcut.1
  sizeOf_list_dec
  refine ⟨fun q => ?_, fun q => ?_⟩
  · have q := of_decide_eq_true q
    sizeOf_list_dec
    refine bent2_wp hs (by omega) hT1c fun t2 s hs b2 => ?_
    have hT2 := bt_tx b2 (by omega)
    sizeOf_list_dec
    refine bent2_wp hs (by omega) hcut.2 fun t3 s hs b3 => ?_
    sizeOf_list_dec
    exact rest02 hT hT1 hT2 (bt_tx b3 (by omega)) fun u => k s _ _ _ u hs
  · sizeOf_list_dec
    refine bent2_wp hs (by omega) hcut.2 fun t3 s hs b3 => ?_
    sizeOf_list_dec
    exact rest02 hT hT1 hT1 (bt_tx b3 (by omega)) fun u => k s _ _ _ u hs
theorem law02_true (C0 : Addr) (ns : List Int) (hns : ns.length ≤ 63) : ∃ e, sem_law_v30 C0 [.val (.scr ns)] = some (.ok (.v (.bl true)) e) := by
  refine true_of_wp (g := sem_law_v30 C0) ?_
  unfold sem_law_v30 bd_law_v30
  sizeOf_list_dec
  rw [rangeD0]
  refine wps_forI (fun _ e => ∃ t : Sl, t.length = 7 ∧ e = .val (.scr ns) :: t) ⟨_, rfl, rfl⟩ (fun pre ix post hp e ⟨t, ht, he⟩ => ?_) (fun e ⟨t, ht, he⟩ => ?_)
  · subst he
    match t, ht with
    | [a1, a2, a3, a4, a5, a6, a7], _ =>
    sizeOf_list_dec
    unfold lp_law_v30_2
    sizeOf_list_dec
    refine cell_wp fun c => ?_
    sizeOf_list_dec
    refine source_wp fun s hs => ?_
    sizeOf_list_dec
    refine wps_forR (lo := 0) (hi := 10) (fun j e => ∃ (s : List D) (x y z u v : Dt.Slot), Src s ∧ e = [.val (.scr ns), .val (.int ix), .own (.lst s), x, y, z, u, v]) (by decide) ⟨_, _, _, _, _, _, hs, rfl⟩ (fun lap e h1 h2 ⟨s, x, y, z, u, v, hs, he⟩ => ?_) (fun e ⟨s, x, y, z, u, v, hs, he⟩ => ?_)
    · subst he
      refine ⟨_, rfl, ?_⟩
      refine lap02 hs fun s x y z u hs => ?_
      exact ⟨_, _, _, _, _, _, hs, rfl⟩
    · subst he
      sizeOf_list_dec
      refine choose_wpD hs (by simp) (by simp) (.inl rfl) fun d s hd hs => ?_
      sizeOf_list_dec
      have hcase : NoT d ∨ ∃ t, d = .str t ∧ Tx t := by
        simp only [List.mem_cons, List.not_mem_nil, or_false] at hd
        rcases hd with rfl | rfl | rfl | rfl | rfl | rfl | rfl | rfl | rfl
        · exact .inl (.inl rfl)
        · exact .inl (.inr (.inl rfl))
        · exact .inl (.inr (.inr (.inl rfl)))
        · exact .inl (.inr (.inr (.inr (.inl rfl))))
        · exact .inl (.inr (.inr (.inr (.inr (.inl rfl)))))
        · exact .inl (.inr (.inr (.inr (.inr (.inr rfl)))))
        · exact .inr ⟨_, rfl, by simp, by simp⟩
        · exact .inr ⟨_, rfl, by simp, by simp⟩
        · exact .inr ⟨_, rfl, by simp, by simp⟩
      have fin : wp (sem__law_is_right_v5 C0) [.val d] (fun v e => v = .v (.bl true) ∧ e = [.val d]) NoX := by
        rcases hcase with h | ⟨t, rfl, h⟩
        · exact is_right_non h ⟨rfl, rfl⟩
        · exact is_right_text h ⟨rfl, rfl⟩
      refine wp_mono fin (fun v e ⟨h1, h2⟩ => ?_) (fun _ _ q => q.elim)
      subst h1 h2
      sizeOf_list_dec
      exact ⟨_, by rfl, rfl⟩
  · subst he
    sizeOf_list_dec
    rfl
end
end Pg
end
section
namespace Lw
open PySem PySem.Spec L2 Dt Pg
open PyProof.Rows hiding St
theorem law_true (C0 : Addr) (ns : List Int) (hn : ns.length ≤ 63) : ∃ e, sem_law_v30 C0 [.val (.scr ns)] = some (.ok (.v (.bl true)) e) := Pg.law02_true C0 ns hn
theorem all_mk {K : PySem.W.Frag} {h : Heap} {mg : Str → Option Value} {w : World} {fa : Addr} {C_QuotaError C_RowsError C_TextError C_Board f__law_source f__law_cell f__law_draw f__law_all_rows f__law_choose f__law_mixed f__law_rows f__law_bent f_is_answers f_are_rows f_Board___init__ f_Board_read f__law_due f__law_is_equal f_Board_text f_Board_issues f_Board_rows f__law_is_right f_law p_Board_issues p_Board_rows p_Board_read : Addr} (X : K.In h) (G : h.Ns mainGlobals mg) (hfa : mg "law" = some (.ref fa))
    (z_all : PySem.W.nsIn K mainGlobals "all" = some none)
    (z_dict : PySem.W.nsIn K mainGlobals "dict" = some none)
    (z_isinstance : PySem.W.nsIn K mainGlobals "isinstance" = some none)
    (z_len : PySem.W.nsIn K mainGlobals "len" = some none)
    (z_list : PySem.W.nsIn K mainGlobals "list" = some none)
    (z_max : PySem.W.nsIn K mainGlobals "max" = some none)
    (z_min : PySem.W.nsIn K mainGlobals "min" = some none)
    (z_range : PySem.W.nsIn K mainGlobals "range" = some none)
    (z_repr : PySem.W.nsIn K mainGlobals "repr" = some none)
    (z_set : PySem.W.nsIn K mainGlobals "set" = some none)
    (z_sorted : PySem.W.nsIn K mainGlobals "sorted" = some none)
    (z_str : PySem.W.nsIn K mainGlobals "str" = some none)
    (z_tuple : PySem.W.nsIn K mainGlobals "tuple" = some none)
    (g_QuotaError : PySem.W.nsIn K mainGlobals "QuotaError" = some (some (.ref C_QuotaError)))
    (g_RowsError : PySem.W.nsIn K mainGlobals "RowsError" = some (some (.ref C_RowsError)))
    (g_TextError : PySem.W.nsIn K mainGlobals "TextError" = some (some (.ref C_TextError)))
    (g_Board : PySem.W.nsIn K mainGlobals "Board" = some (some (.ref C_Board)))
    (g__law_source : PySem.W.nsIn K mainGlobals "_law_source" = some (some (.ref f__law_source)))
    {oc__law_source kV__law_source dc__law_source pm__law_source cd__law_source ct__law_source : Value} {od__law_source an__law_source : Option Addr} {sl__law_source : Array (Option Value)} (l__law_source : K.lookup f__law_source = some ⟨oc__law_source, od__law_source, .func (PySem.W.fnOf "_law_source" "_law_source" (defArgs st__law_source) (defBody st__law_source) (defScope st__law_source) .none kV__law_source dc__law_source pm__law_source an__law_source cd__law_source ct__law_source), sl__law_source⟩)
    (c__law_source : PySem.W.codeIn K cd__law_source "_law_source" = true)
    (k__law_source : PySem.W.keepIn K (.ref f__law_source) = true)
    (g__law_cell : PySem.W.nsIn K mainGlobals "_law_cell" = some (some (.ref f__law_cell)))
    {oc__law_cell kV__law_cell dc__law_cell pm__law_cell cd__law_cell ct__law_cell : Value} {od__law_cell an__law_cell : Option Addr} {sl__law_cell : Array (Option Value)} (l__law_cell : K.lookup f__law_cell = some ⟨oc__law_cell, od__law_cell, .func (PySem.W.fnOf "_law_cell" "_law_cell" (defArgs st__law_cell) (defBody st__law_cell) (defScope st__law_cell) .none kV__law_cell dc__law_cell pm__law_cell an__law_cell cd__law_cell ct__law_cell), sl__law_cell⟩)
    (c__law_cell : PySem.W.codeIn K cd__law_cell "_law_cell" = true)
    (k__law_cell : PySem.W.keepIn K (.ref f__law_cell) = true)
    (g__law_draw : PySem.W.nsIn K mainGlobals "_law_draw" = some (some (.ref f__law_draw)))
    {oc__law_draw kV__law_draw dc__law_draw pm__law_draw cd__law_draw ct__law_draw : Value} {od__law_draw an__law_draw : Option Addr} {sl__law_draw : Array (Option Value)} (l__law_draw : K.lookup f__law_draw = some ⟨oc__law_draw, od__law_draw, .func (PySem.W.fnOf "_law_draw" "_law_draw" (defArgs st__law_draw) (defBody st__law_draw) (defScope st__law_draw) .none kV__law_draw dc__law_draw pm__law_draw an__law_draw cd__law_draw ct__law_draw), sl__law_draw⟩)
    (c__law_draw : PySem.W.codeIn K cd__law_draw "_law_draw" = true)
    (k__law_draw : PySem.W.keepIn K (.ref f__law_draw) = true)
    (g__law_all_rows : PySem.W.nsIn K mainGlobals "_law_all_rows" = some (some (.ref f__law_all_rows)))
    {oc__law_all_rows kV__law_all_rows dc__law_all_rows pm__law_all_rows cd__law_all_rows ct__law_all_rows : Value} {od__law_all_rows an__law_all_rows : Option Addr} {sl__law_all_rows : Array (Option Value)} (l__law_all_rows : K.lookup f__law_all_rows = some ⟨oc__law_all_rows, od__law_all_rows, .func (PySem.W.fnOf "_law_all_rows" "_law_all_rows" (defArgs st__law_all_rows) (defBody st__law_all_rows) (defScope st__law_all_rows) .none kV__law_all_rows dc__law_all_rows pm__law_all_rows an__law_all_rows cd__law_all_rows ct__law_all_rows), sl__law_all_rows⟩)
    (c__law_all_rows : PySem.W.codeIn K cd__law_all_rows "_law_all_rows" = true)
    (k__law_all_rows : PySem.W.keepIn K (.ref f__law_all_rows) = true)
    (g__law_choose : PySem.W.nsIn K mainGlobals "_law_choose" = some (some (.ref f__law_choose)))
    {oc__law_choose kV__law_choose dc__law_choose pm__law_choose cd__law_choose ct__law_choose : Value} {od__law_choose an__law_choose : Option Addr} {sl__law_choose : Array (Option Value)} (l__law_choose : K.lookup f__law_choose = some ⟨oc__law_choose, od__law_choose, .func (PySem.W.fnOf "_law_choose" "_law_choose" (defArgs st__law_choose) (defBody st__law_choose) (defScope st__law_choose) .none kV__law_choose dc__law_choose pm__law_choose an__law_choose cd__law_choose ct__law_choose), sl__law_choose⟩)
    (c__law_choose : PySem.W.codeIn K cd__law_choose "_law_choose" = true)
    (k__law_choose : PySem.W.keepIn K (.ref f__law_choose) = true)
    (g__law_mixed : PySem.W.nsIn K mainGlobals "_law_mixed" = some (some (.ref f__law_mixed)))
    {oc__law_mixed kV__law_mixed dc__law_mixed pm__law_mixed cd__law_mixed ct__law_mixed : Value} {od__law_mixed an__law_mixed : Option Addr} {sl__law_mixed : Array (Option Value)} (l__law_mixed : K.lookup f__law_mixed = some ⟨oc__law_mixed, od__law_mixed, .func (PySem.W.fnOf "_law_mixed" "_law_mixed" (defArgs st__law_mixed) (defBody st__law_mixed) (defScope st__law_mixed) .none kV__law_mixed dc__law_mixed pm__law_mixed an__law_mixed cd__law_mixed ct__law_mixed), sl__law_mixed⟩)
    (c__law_mixed : PySem.W.codeIn K cd__law_mixed "_law_mixed" = true)
    (k__law_mixed : PySem.W.keepIn K (.ref f__law_mixed) = true)
    (g__law_rows : PySem.W.nsIn K mainGlobals "_law_rows" = some (some (.ref f__law_rows)))
    {oc__law_rows kV__law_rows dc__law_rows pm__law_rows cd__law_rows ct__law_rows : Value} {od__law_rows an__law_rows : Option Addr} {sl__law_rows : Array (Option Value)} (l__law_rows : K.lookup f__law_rows = some ⟨oc__law_rows, od__law_rows, .func (PySem.W.fnOf "_law_rows" "_law_rows" (defArgs st__law_rows) (defBody st__law_rows) (defScope st__law_rows) .none kV__law_rows dc__law_rows pm__law_rows an__law_rows cd__law_rows ct__law_rows), sl__law_rows⟩)
    (c__law_rows : PySem.W.codeIn K cd__law_rows "_law_rows" = true)
    (k__law_rows : PySem.W.keepIn K (.ref f__law_rows) = true)
    (g__law_bent : PySem.W.nsIn K mainGlobals "_law_bent" = some (some (.ref f__law_bent)))
    {oc__law_bent kV__law_bent dc__law_bent pm__law_bent cd__law_bent ct__law_bent : Value} {od__law_bent an__law_bent : Option Addr} {sl__law_bent : Array (Option Value)} (l__law_bent : K.lookup f__law_bent = some ⟨oc__law_bent, od__law_bent, .func (PySem.W.fnOf "_law_bent" "_law_bent" (defArgs st__law_bent) (defBody st__law_bent) (defScope st__law_bent) .none kV__law_bent dc__law_bent pm__law_bent an__law_bent cd__law_bent ct__law_bent), sl__law_bent⟩)
    (c__law_bent : PySem.W.codeIn K cd__law_bent "_law_bent" = true)
    (k__law_bent : PySem.W.keepIn K (.ref f__law_bent) = true)
    (g_is_answers : PySem.W.nsIn K mainGlobals "is_answers" = some (some (.ref f_is_answers)))
    {oc_is_answers kV_is_answers dc_is_answers pm_is_answers cd_is_answers ct_is_answers : Value} {od_is_answers an_is_answers : Option Addr} {sl_is_answers : Array (Option Value)} (l_is_answers : K.lookup f_is_answers = some ⟨oc_is_answers, od_is_answers, .func (PySem.W.fnOf "is_answers" "is_answers" (defArgs st_is_answers) (defBody st_is_answers) (defScope st_is_answers) .none kV_is_answers dc_is_answers pm_is_answers an_is_answers cd_is_answers ct_is_answers), sl_is_answers⟩)
    (c_is_answers : PySem.W.codeIn K cd_is_answers "is_answers" = true)
    (k_is_answers : PySem.W.keepIn K (.ref f_is_answers) = true)
    (g_are_rows : PySem.W.nsIn K mainGlobals "are_rows" = some (some (.ref f_are_rows)))
    {oc_are_rows kV_are_rows dc_are_rows pm_are_rows cd_are_rows ct_are_rows : Value} {od_are_rows an_are_rows : Option Addr} {sl_are_rows : Array (Option Value)} (l_are_rows : K.lookup f_are_rows = some ⟨oc_are_rows, od_are_rows, .func (PySem.W.fnOf "are_rows" "are_rows" (defArgs st_are_rows) (defBody st_are_rows) (defScope st_are_rows) .none kV_are_rows dc_are_rows pm_are_rows an_are_rows cd_are_rows ct_are_rows), sl_are_rows⟩)
    (c_are_rows : PySem.W.codeIn K cd_are_rows "are_rows" = true)
    (k_are_rows : PySem.W.keepIn K (.ref f_are_rows) = true)
    {oc_Board___init__ kV_Board___init__ dc_Board___init__ pm_Board___init__ cd_Board___init__ ct_Board___init__ : Value} {od_Board___init__ an_Board___init__ : Option Addr} {sl_Board___init__ : Array (Option Value)} (l_Board___init__ : K.lookup f_Board___init__ = some ⟨oc_Board___init__, od_Board___init__, .func (PySem.W.fnOf "__init__" "Board.__init__" (defArgs st_Board___init__) (defBody st_Board___init__) (defScope st_Board___init__) .none kV_Board___init__ dc_Board___init__ pm_Board___init__ an_Board___init__ cd_Board___init__ ct_Board___init__), sl_Board___init__⟩)
    (c_Board___init__ : PySem.W.codeIn K cd_Board___init__ "Board.__init__" = true)
    (k_Board___init__ : PySem.W.keepIn K (.ref f_Board___init__) = true)
    {oc_Board_read kV_Board_read dc_Board_read pm_Board_read cd_Board_read ct_Board_read : Value} {od_Board_read an_Board_read : Option Addr} {sl_Board_read : Array (Option Value)} (l_Board_read : K.lookup f_Board_read = some ⟨oc_Board_read, od_Board_read, .func (PySem.W.fnOf "read" "Board.read" (defArgs st_Board_read) (defBody st_Board_read) (defScope st_Board_read) .none kV_Board_read dc_Board_read pm_Board_read an_Board_read cd_Board_read ct_Board_read), sl_Board_read⟩)
    (c_Board_read : PySem.W.codeIn K cd_Board_read "Board.read" = true)
    (k_Board_read : PySem.W.keepIn K (.ref f_Board_read) = true)
    (g__law_due : PySem.W.nsIn K mainGlobals "_law_due" = some (some (.ref f__law_due)))
    {oc__law_due kV__law_due dc__law_due pm__law_due cd__law_due ct__law_due : Value} {od__law_due an__law_due : Option Addr} {sl__law_due : Array (Option Value)} (l__law_due : K.lookup f__law_due = some ⟨oc__law_due, od__law_due, .func (PySem.W.fnOf "_law_due" "_law_due" (defArgs st__law_due) (defBody st__law_due) (defScope st__law_due) .none kV__law_due dc__law_due pm__law_due an__law_due cd__law_due ct__law_due), sl__law_due⟩)
    (c__law_due : PySem.W.codeIn K cd__law_due "_law_due" = true)
    (k__law_due : PySem.W.keepIn K (.ref f__law_due) = true)
    (g__law_is_equal : PySem.W.nsIn K mainGlobals "_law_is_equal" = some (some (.ref f__law_is_equal)))
    {oc__law_is_equal kV__law_is_equal dc__law_is_equal pm__law_is_equal cd__law_is_equal ct__law_is_equal : Value} {od__law_is_equal an__law_is_equal : Option Addr} {sl__law_is_equal : Array (Option Value)} (l__law_is_equal : K.lookup f__law_is_equal = some ⟨oc__law_is_equal, od__law_is_equal, .func (PySem.W.fnOf "_law_is_equal" "_law_is_equal" (defArgs st__law_is_equal) (defBody st__law_is_equal) (defScope st__law_is_equal) .none kV__law_is_equal dc__law_is_equal pm__law_is_equal an__law_is_equal cd__law_is_equal ct__law_is_equal), sl__law_is_equal⟩)
    (c__law_is_equal : PySem.W.codeIn K cd__law_is_equal "_law_is_equal" = true)
    (k__law_is_equal : PySem.W.keepIn K (.ref f__law_is_equal) = true)
    {oc_Board_text kV_Board_text dc_Board_text pm_Board_text cd_Board_text ct_Board_text : Value} {od_Board_text an_Board_text : Option Addr} {sl_Board_text : Array (Option Value)} (l_Board_text : K.lookup f_Board_text = some ⟨oc_Board_text, od_Board_text, .func (PySem.W.fnOf "text" "Board.text" (defArgs st_Board_text) (defBody st_Board_text) (defScope st_Board_text) .none kV_Board_text dc_Board_text pm_Board_text an_Board_text cd_Board_text ct_Board_text), sl_Board_text⟩)
    (c_Board_text : PySem.W.codeIn K cd_Board_text "Board.text" = true)
    (k_Board_text : PySem.W.keepIn K (.ref f_Board_text) = true)
    {oc_Board_issues kV_Board_issues dc_Board_issues pm_Board_issues cd_Board_issues ct_Board_issues : Value} {od_Board_issues an_Board_issues : Option Addr} {sl_Board_issues : Array (Option Value)} (l_Board_issues : K.lookup f_Board_issues = some ⟨oc_Board_issues, od_Board_issues, .func (PySem.W.fnOf "issues" "Board.issues" (defArgs st_Board_issues) (defBody st_Board_issues) (defScope st_Board_issues) .none kV_Board_issues dc_Board_issues pm_Board_issues an_Board_issues cd_Board_issues ct_Board_issues), sl_Board_issues⟩)
    (c_Board_issues : PySem.W.codeIn K cd_Board_issues "Board.issues" = true)
    (k_Board_issues : PySem.W.keepIn K (.ref f_Board_issues) = true)
    {oc_Board_rows kV_Board_rows dc_Board_rows pm_Board_rows cd_Board_rows ct_Board_rows : Value} {od_Board_rows an_Board_rows : Option Addr} {sl_Board_rows : Array (Option Value)} (l_Board_rows : K.lookup f_Board_rows = some ⟨oc_Board_rows, od_Board_rows, .func (PySem.W.fnOf "rows" "Board.rows" (defArgs st_Board_rows) (defBody st_Board_rows) (defScope st_Board_rows) .none kV_Board_rows dc_Board_rows pm_Board_rows an_Board_rows cd_Board_rows ct_Board_rows), sl_Board_rows⟩)
    (c_Board_rows : PySem.W.codeIn K cd_Board_rows "Board.rows" = true)
    (k_Board_rows : PySem.W.keepIn K (.ref f_Board_rows) = true)
    (g__law_is_right : PySem.W.nsIn K mainGlobals "_law_is_right" = some (some (.ref f__law_is_right)))
    {oc__law_is_right kV__law_is_right dc__law_is_right pm__law_is_right cd__law_is_right ct__law_is_right : Value} {od__law_is_right an__law_is_right : Option Addr} {sl__law_is_right : Array (Option Value)} (l__law_is_right : K.lookup f__law_is_right = some ⟨oc__law_is_right, od__law_is_right, .func (PySem.W.fnOf "_law_is_right" "_law_is_right" (defArgs st__law_is_right) (defBody st__law_is_right) (defScope st__law_is_right) .none kV__law_is_right dc__law_is_right pm__law_is_right an__law_is_right cd__law_is_right ct__law_is_right), sl__law_is_right⟩)
    (c__law_is_right : PySem.W.codeIn K cd__law_is_right "_law_is_right" = true)
    (k__law_is_right : PySem.W.keepIn K (.ref f__law_is_right) = true)
    (g_law : PySem.W.nsIn K mainGlobals "law" = some (some (.ref f_law)))
    {oc_law kV_law dc_law pm_law cd_law ct_law : Value} {od_law an_law : Option Addr} {sl_law : Array (Option Value)} (l_law : K.lookup f_law = some ⟨oc_law, od_law, .func (PySem.W.fnOf "law" "law" (defArgs st_law) (defBody st_law) (defScope st_law) .none kV_law dc_law pm_law an_law cd_law ct_law), sl_law⟩)
    (c_law : PySem.W.codeIn K cd_law "law" = true)
    (k_law : PySem.W.keepIn K (.ref f_law) = true)
    (pg_Board : PySem.W.plainGet K C_Board Str.empty = true)
    (hd_Board : PySem.W.hasDictIn K C_Board = true)
    (po_Board : PySem.W.plainOver K C_Board = true)
    (sa_Board : PySem.W.findIn K (.ref C_Board) "__setattr__" = some (some (.builtin "object.__setattr__")))
    (ns_Board : PySem.W.noSeq K C_Board = true)
    (ca_Board_read : PySem.W.findCls K (.ref C_Board) (.type "type") "read" = some (.get (.builtin "classmethod.__get__") (.ref p_Board_read) .none (.ref C_Board)))
    {rs_Board_read : List Value} (cb_Board_read : PySem.W.recIn K p_Board_read "classmethod" = some (.ref f_Board_read :: rs_Board_read))
    (cf_Board_read : PySem.W.fnIn K f_Board_read = true)
    (cra_Board : PySem.W.readsIn K C_Board (.type "type") = true)
    (crb_Board : PySem.W.specialIn K (.ref C_Board) "__getattribute__" = some (some (.builtin "type.__getattribute__")))
    {tk_MOST : Tok} (cv_MOST : PySem.W.findCls K (.ref C_Board) (.type "type") "MOST" = some (.val (.int 6 tk_MOST)))
    (n_Board_known : PySem.W.findIn K (.ref C_Board) "known" = some none)
    (ki_Board_0 : PySem.W.kitOne K (.type "NoneType") (.ref C_Board) = some false)
    (ki_Board_1 : PySem.W.kitOne K (.type "bool") (.ref C_Board) = some false)
    (ki_Board_2 : PySem.W.kitOne K (.type "int") (.ref C_Board) = some false)
    (ki_Board_3 : PySem.W.kitOne K (.type "str") (.ref C_Board) = some false)
    (ki_Board_4 : PySem.W.kitOne K (.type "tuple") (.ref C_Board) = some false)
    (ki_Board_5 : PySem.W.kitOne K (.type "list") (.ref C_Board) = some false)
    (ki_Board_6 : PySem.W.kitOne K (.type "dict") (.ref C_Board) = some false)
    (kj_Board : PySem.W.kitOne K (.ref C_Board) (.ref C_Board) = some true)
    (ic_Board : PySem.W.findIn K (.ref C_Board) "__class__" = some (some (.builtin "object.__class__")))
    (gs_get : PySem.W.specialIn K (.builtin "object.__class__") "__get__" = some (some (.builtin "getset_descriptor.__get__")))
    (gs_tk : PySem.W.takesIn K (.builtin "object.__class__") = some true)
    (mo_Board : PySem.W.mroIn K C_Board (.type "object") = some true)
    (mk_Board : PySem.W.makesIn K C_Board = true)
    (mi_Board : PySem.W.findIn K (.ref C_Board) "__init__" = some (some (.ref f_Board___init__)))
    (mf_Board : PySem.W.isFn K (.ref f_Board___init__) = true)
    (mk2_Board : PySem.W.keepIn K (.ref C_Board) = true)
    (ma_Board_text : PySem.W.findIn K (.ref C_Board) "text" = some (some (.ref f_Board_text)))
    (mb_Board_text : PySem.W.isFn K (.ref f_Board_text) = true)
    (mc_Board_text : PySem.W.keepIn K (.ref f_Board_text) = true)
    (fi_Board_text : PySem.W.fnIn K f_Board_text = true)
    (pa_Board_issues : PySem.W.findIn K (.ref C_Board) "issues" = some (some (.ref p_Board_issues)))
    (pb_Board_issues : PySem.W.specialIn K (.ref p_Board_issues) "__get__" = some (some (.builtin "property.__get__")))
    (pc_Board_issues : PySem.W.takesIn K (.ref p_Board_issues) = some true)
    {rs_Board_issues : List Value} (pd_Board_issues : PySem.W.recIn K p_Board_issues "property" = some (.ref f_Board_issues :: rs_Board_issues))
    (pa_Board_rows : PySem.W.findIn K (.ref C_Board) "rows" = some (some (.ref p_Board_rows)))
    (pb_Board_rows : PySem.W.specialIn K (.ref p_Board_rows) "__get__" = some (some (.builtin "property.__get__")))
    (pc_Board_rows : PySem.W.takesIn K (.ref p_Board_rows) = some true)
    {rs_Board_rows : List Value} (pd_Board_rows : PySem.W.recIn K p_Board_rows "property" = some (.ref f_Board_rows :: rs_Board_rows))
    (x_QuotaError : PySem.W.excIn K C_QuotaError [.type "ValueError", .type "Exception", .type "BaseException", .type "object"] "ValueError.__new__" = true)
    (k_QuotaError : PySem.W.keepIn K (.ref C_QuotaError) = true)
    (b_QuotaError : PySem.W.subIn K (.ref C_QuotaError) (.type "BaseException") = some true)
    (t_QuotaError : PySem.W.typeIn K (.ref C_QuotaError) = some (.type "type"))
    (x_RowsError : PySem.W.excIn K C_RowsError [.type "ValueError", .type "Exception", .type "BaseException", .type "object"] "ValueError.__new__" = true)
    (k_RowsError : PySem.W.keepIn K (.ref C_RowsError) = true)
    (b_RowsError : PySem.W.subIn K (.ref C_RowsError) (.type "BaseException") = some true)
    (t_RowsError : PySem.W.typeIn K (.ref C_RowsError) = some (.type "type"))
    (x_TextError : PySem.W.excIn K C_TextError [.type "ValueError", .type "Exception", .type "BaseException", .type "object"] "ValueError.__new__" = true)
    (k_TextError : PySem.W.keepIn K (.ref C_TextError) = true)
    (b_TextError : PySem.W.subIn K (.ref C_TextError) (.type "BaseException") = some true)
    (t_TextError : PySem.W.typeIn K (.ref C_TextError) = some (.type "type"))
    (ei_QuotaError_QuotaError : PySem.W.isClsIn K C_QuotaError = true)
    (es_QuotaError_QuotaError : PySem.W.subIn K (.ref C_QuotaError) (.ref C_QuotaError) = some true)
    (ei_TextError_TextError : PySem.W.isClsIn K C_TextError = true)
    (es_TextError_TextError : PySem.W.subIn K (.ref C_TextError) (.ref C_TextError) = some true)
    : ∃ (T : Tab) (g : M EV), T.tb = [] ∧ (∀ ns : List Int, ns.length ≤ 63 → ∃ e, g [.val (.scr ns)] = some (.ok (.v (.bl true)) e)) ∧ ∀ base : Heap, K.In base → base.Ns mainGlobals mg → FnG False PySem.Challenge.pw_quotaboard_k02_texts_of_boards w K mg base 7 fa (spD K T g) := by
  have H : Hd K mg ⟨C_QuotaError, C_RowsError, C_TextError, C_Board, f__law_source, f__law_cell, f__law_draw, f__law_all_rows, f__law_choose, f__law_mixed, f__law_rows, f__law_bent, f_is_answers, f_are_rows, f_Board___init__, f_Board_read, f__law_due, f__law_is_equal, f_Board_text, f_Board_issues, f_Board_rows, f__law_is_right, f_law, p_Board_issues, p_Board_rows, p_Board_read⟩ := hd_of X G z_all z_dict z_isinstance z_len z_list z_max z_min z_range z_repr z_set z_sorted z_str z_tuple g_QuotaError g_RowsError g_TextError g_Board g__law_source l__law_source c__law_source k__law_source g__law_cell l__law_cell c__law_cell k__law_cell g__law_draw l__law_draw c__law_draw k__law_draw g__law_all_rows l__law_all_rows c__law_all_rows k__law_all_rows g__law_choose l__law_choose c__law_choose k__law_choose g__law_mixed l__law_mixed c__law_mixed k__law_mixed g__law_rows l__law_rows c__law_rows k__law_rows g__law_bent l__law_bent c__law_bent k__law_bent g_is_answers l_is_answers c_is_answers k_is_answers g_are_rows l_are_rows c_are_rows k_are_rows l_Board___init__ c_Board___init__ k_Board___init__ l_Board_read c_Board_read k_Board_read g__law_due l__law_due c__law_due k__law_due g__law_is_equal l__law_is_equal c__law_is_equal k__law_is_equal l_Board_text c_Board_text k_Board_text l_Board_issues c_Board_issues k_Board_issues l_Board_rows c_Board_rows k_Board_rows g__law_is_right l__law_is_right c__law_is_right k__law_is_right g_law l_law c_law k_law pg_Board hd_Board po_Board sa_Board ns_Board ca_Board_read cb_Board_read cf_Board_read cra_Board crb_Board cv_MOST n_Board_known ki_Board_0 ki_Board_1 ki_Board_2 ki_Board_3 ki_Board_4 ki_Board_5 ki_Board_6 kj_Board ic_Board gs_get gs_tk mo_Board mk_Board mi_Board mf_Board mk2_Board ma_Board_text mb_Board_text mc_Board_text fi_Board_text pa_Board_issues pb_Board_issues pc_Board_issues pd_Board_issues pa_Board_rows pb_Board_rows pc_Board_rows pd_Board_rows x_QuotaError k_QuotaError b_QuotaError t_QuotaError x_RowsError k_RowsError b_RowsError t_RowsError x_TextError k_TextError b_TextError t_TextError ei_QuotaError_QuotaError es_QuotaError_QuotaError ei_TextError_TextError es_TextError_TextError
  have e := hfa.symm.trans H.g_law
  cases e
  exact ⟨tab _, sem_law_v30 C_Board, rfl, fun ns hn => law_true C_Board ns hn, fun base _ _ => ok_law H⟩
end Lw
open PySem PySem.W PyProof.Rows
set_option maxRecDepth 100000 in
set_option maxHeartbeats 0 in
theorem PySem.Challenge.cw_quotaboard_k02_texts_of_boards_holds : PySem.Challenge.rw_quotaboard_k02_texts_of_boards.Holds := by
  w_on; o_law; k_head; (case hw => w_witness2)
  k_fill
  refine Dt.walkG (NG := False) (l := PySem.Challenge.rw_quotaboard_k02_texts_of_boards) (n := 63) (k := 7) rfl (by decide) rfl ⟨rfl, by decide, by decide⟩ (fun w h Y => PySem.W.kIn_of Y) ?F
  case F =>
    intro w mg fa h KX G hmg
    refine' Lw.all_mk (w := w) KX G hmg ?z_all ?z_dict ?z_isinstance ?z_len ?z_list ?z_max ?z_min ?z_range ?z_repr ?z_set ?z_sorted ?z_str ?z_tuple ?g_QuotaError ?g_RowsError ?g_TextError ?g_Board ?g__law_source ?l__law_source ?c__law_source ?k__law_source ?g__law_cell ?l__law_cell ?c__law_cell ?k__law_cell ?g__law_draw ?l__law_draw ?c__law_draw ?k__law_draw ?g__law_all_rows ?l__law_all_rows ?c__law_all_rows ?k__law_all_rows ?g__law_choose ?l__law_choose ?c__law_choose ?k__law_choose ?g__law_mixed ?l__law_mixed ?c__law_mixed ?k__law_mixed ?g__law_rows ?l__law_rows ?c__law_rows ?k__law_rows ?g__law_bent ?l__law_bent ?c__law_bent ?k__law_bent ?g_is_answers ?l_is_answers ?c_is_answers ?k_is_answers ?g_are_rows ?l_are_rows ?c_are_rows ?k_are_rows ?l_Board___init__ ?c_Board___init__ ?k_Board___init__ ?l_Board_read ?c_Board_read ?k_Board_read ?g__law_due ?l__law_due ?c__law_due ?k__law_due ?g__law_is_equal ?l__law_is_equal ?c__law_is_equal ?k__law_is_equal ?l_Board_text ?c_Board_text ?k_Board_text ?l_Board_issues ?c_Board_issues ?k_Board_issues ?l_Board_rows ?c_Board_rows ?k_Board_rows ?g__law_is_right ?l__law_is_right ?c__law_is_right ?k__law_is_right ?g_law ?l_law ?c_law ?k_law ?pg_Board ?hd_Board ?po_Board ?sa_Board ?ns_Board ?ca_Board_read ?cb_Board_read ?cf_Board_read ?cra_Board ?crb_Board ?cv_MOST ?n_Board_known ?ki_Board_0 ?ki_Board_1 ?ki_Board_2 ?ki_Board_3 ?ki_Board_4 ?ki_Board_5 ?ki_Board_6 ?kj_Board ?ic_Board ?gs_get ?gs_tk ?mo_Board ?mk_Board ?mi_Board ?mf_Board ?mk2_Board ?ma_Board_text ?mb_Board_text ?mc_Board_text ?fi_Board_text ?pa_Board_issues ?pb_Board_issues ?pc_Board_issues ?pd_Board_issues ?pa_Board_rows ?pb_Board_rows ?pc_Board_rows ?pd_Board_rows ?x_QuotaError ?k_QuotaError ?b_QuotaError ?t_QuotaError ?x_RowsError ?k_RowsError ?b_RowsError ?t_RowsError ?x_TextError ?k_TextError ?b_TextError ?t_TextError ?ei_QuotaError_QuotaError ?es_QuotaError_QuotaError ?ei_TextError_TextError ?es_TextError_TextError
    (case z_all => k_is)
    (case z_dict => k_is)
    (case z_isinstance => k_is)
    (case z_len => k_is)
    (case z_list => k_is)
    (case z_max => k_is)
    (case z_min => k_is)
    (case z_range => k_is)
    (case z_repr => k_is)
    (case z_set => k_is)
    (case z_sorted => k_is)
    (case z_str => k_is)
    (case z_tuple => k_is)
    (case g_QuotaError => k_is)
    (case g_RowsError => k_is)
    (case g_TextError => k_is)
    (case g_Board => k_is)
    (case g__law_source => k_is)
    (case g__law_cell => k_is)
    (case g__law_draw => k_is)
    (case g__law_all_rows => k_is)
    (case g__law_choose => k_is)
    (case g__law_mixed => k_is)
    (case g__law_rows => k_is)
    (case g__law_bent => k_is)
    (case g_is_answers => k_is)
    (case g_are_rows => k_is)
    (case g__law_due => k_is)
    (case g__law_is_equal => k_is)
    (case g__law_is_right => k_is)
    (case g_law => k_is)
    (case ca_Board_read => k_is)
    (case mi_Board => k_is)
    (case ma_Board_text => k_is)
    (case pa_Board_issues => k_is)
    (case pa_Board_rows => k_is)
    (case cb_Board_read => k_is)
    (case pd_Board_issues => k_is)
    (case pd_Board_rows => k_is)
    (case l__law_source => k_is)
    (case c__law_source => k_is)
    (case k__law_source => k_is)
    (case l__law_cell => k_is)
    (case c__law_cell => k_is)
    (case k__law_cell => k_is)
    (case l__law_draw => k_is)
    (case c__law_draw => k_is)
    (case k__law_draw => k_is)
    (case l__law_all_rows => k_is)
    (case c__law_all_rows => k_is)
    (case k__law_all_rows => k_is)
    (case l__law_choose => k_is)
    (case c__law_choose => k_is)
    (case k__law_choose => k_is)
    (case l__law_mixed => k_is)
    (case c__law_mixed => k_is)
    (case k__law_mixed => k_is)
    (case l__law_rows => k_is)
    (case c__law_rows => k_is)
    (case k__law_rows => k_is)
    (case l__law_bent => k_is)
    (case c__law_bent => k_is)
    (case k__law_bent => k_is)
    (case l_is_answers => k_is)
    (case c_is_answers => k_is)
    (case k_is_answers => k_is)
    (case l_are_rows => k_is)
    (case c_are_rows => k_is)
    (case k_are_rows => k_is)
    (case l_Board___init__ => k_is)
    (case c_Board___init__ => k_is)
    (case k_Board___init__ => k_is)
    (case l_Board_read => k_is)
    (case c_Board_read => k_is)
    (case k_Board_read => k_is)
    (case l__law_due => k_is)
    (case c__law_due => k_is)
    (case k__law_due => k_is)
    (case l__law_is_equal => k_is)
    (case c__law_is_equal => k_is)
    (case k__law_is_equal => k_is)
    (case l_Board_text => k_is)
    (case c_Board_text => k_is)
    (case k_Board_text => k_is)
    (case l_Board_issues => k_is)
    (case c_Board_issues => k_is)
    (case k_Board_issues => k_is)
    (case l_Board_rows => k_is)
    (case c_Board_rows => k_is)
    (case k_Board_rows => k_is)
    (case l__law_is_right => k_is)
    (case c__law_is_right => k_is)
    (case k__law_is_right => k_is)
    (case l_law => k_is)
    (case c_law => k_is)
    (case k_law => k_is)
    (case pg_Board => k_is)
    (case hd_Board => k_is)
    (case po_Board => k_is)
    (case sa_Board => k_is)
    (case ns_Board => k_is)
    (case cf_Board_read => k_is)
    (case cra_Board => k_is)
    (case crb_Board => k_is)
    (case cv_MOST => k_is)
    (case n_Board_known => k_is)
    (case ki_Board_0 => kit_is)
    (case ki_Board_1 => kit_is)
    (case ki_Board_2 => kit_is)
    (case ki_Board_3 => kit_is)
    (case ki_Board_4 => kit_is)
    (case ki_Board_5 => kit_is)
    (case ki_Board_6 => kit_is)
    (case kj_Board => kit_is)
    (case ic_Board => k_is)
    (case gs_get => k_is)
    (case gs_tk => k_is)
    (case mo_Board => k_is)
    (case mk_Board => k_is)
    (case mf_Board => k_is)
    (case mk2_Board => k_is)
    (case mb_Board_text => k_is)
    (case mc_Board_text => k_is)
    (case fi_Board_text => k_is)
    (case pb_Board_issues => k_is)
    (case pc_Board_issues => k_is)
    (case pb_Board_rows => k_is)
    (case pc_Board_rows => k_is)
    (case x_QuotaError => k_exc)
    (case k_QuotaError => k_is)
    (case b_QuotaError => k_is)
    (case t_QuotaError => k_is)
    (case x_RowsError => k_exc)
    (case k_RowsError => k_is)
    (case b_RowsError => k_is)
    (case t_RowsError => k_is)
    (case x_TextError => k_exc)
    (case k_TextError => k_is)
    (case b_TextError => k_is)
    (case t_TextError => k_is)
    (case ei_QuotaError_QuotaError => k_is)
    (case es_QuotaError_QuotaError => first | rfl | k_is)
    (case ei_TextError_TextError => k_is)
    (case es_TextError_TextError => first | rfl | k_is)
end
