import PyProof.Rows.All
import Wide.All
import OpenK.AllK
import Wide.FinOn
import HandS.ForMost
import HandS.ForExc
import HandS.Walk
import HandS.Star
import HandS.IsInst
import HandS.Property
import HandS.ClsMeth
import HandS.Flow
import HandS.Lambda
import HandS.Deep
import HandS.Style
import HandS.TupAny
import HandS.Text
import KE.SortData
import HandS.StrMore
import HandS.SetFor
import HandS.Sort
import HandS.Conv
import PyProof.Rows.CountFlat
import HandS.Codes
import PyProof.ReprRoads
import PyProof.StrBlock2
import HandS.More
import HandS.Strs
import OpenK.KMeth
import KE.KOpsOwn
import HandS.TupMul
import KE.GoesEnum
import HandS.Zip
import HandS.SortKw
import KE.DataMinMax
import HandS.Ends
import PyProof.ExcBaseAll.ValueError
import HandS.ExcIs
import HandS.SortOrd
import HandS.TupLe
import HandS.TupSets
import HandS.GenList
import HandS.GenYield
import HandS.ReplaceLit
import HandS.ReplaceDef
import PyProof.ListStr
import HandS.TryMany
import HandS.SlotsOwn
import HandS.EndTab
import HandS.SetBool
import HandS.GenCall
import KE.KSuper
import HandS.MakeKw
import PySem.Challenge.RW_quotaboard_k20_clashes_by_listing
set_option Elab.async false
set_option linter.all false
set_option maxRecDepth 100000
set_option maxHeartbeats 4000000
section
set_option maxRecDepth 100000
set_option maxHeartbeats 4000000
/-! QA: data as trees, slots, what stands for what in the abstract heap, the readings over them. -/
namespace Dt
open PySem PySem.Spec L2
open PyProof.Rows hiding St

def mkS (l : List Nat) : Str := ⟨l.toArray⟩
theorem mkS_cps (l : List Nat) : (mkS l).cps.toList = l := by simp [mkS]
theorem mkS_len (l : List Nat) : (mkS l).length = l.length := by show l.toArray.size = _; simp
theorem mkS_inj {a b : List Nat} : mkS a = mkS b ↔ a = b := by
  constructor
  · intro h; have := congrArg (fun s : Str => s.cps.toList) h; simpa [mkS] using this
  · intro h; rw [h]
theorem mkS_tl (x : Str) : mkS x.cps.toList = x := by cases x; simp [mkS]

inductive D where
  | non | bl (b : Bool) | int (i : Int) | str (s : List Nat)
  | tup (xs : List D) | lst (xs : List D)
  | dic (ks : List Key) (vs : List D)
  | obj (t : Nat) (fs : List D)
  | raw (v : V)
  | scr (ns : List Int)
  | clo (f : Addr) (us : List V) (ds : List D)
inductive OC where
  | lst (xs : List D) | dic (ks : List Key) (vs : List D) | ins (t : Nat) (fs : List D)
inductive Slot where
  | emp | val (d : D) | own (c : OC)
inductive EV where
  | v (d : D) | o (c : OC)
inductive AV where
  | v (d : D) | s (i : Nat)
structure ExD where
  t : Nat
  fs : List D
abbrev Sl := List Slot
inductive Re (α : Type) where
  | ok (a : α) (e : Sl) | exc (x : ExD) (e : Sl)
abbrev M (α : Type) := Sl → Option (Re α)

/-- the names of the fields of the classes of the package, by a number of ours: 0 Board, 1 Rule, 2 Veto, 3 Default, 4 VetoDefault, 5 PremiseRule, 6 Meeting, 7 Absence; errors from 20 on, 32 LimitError -/
def FL : Nat → List Str
  | 0 => ["known"]
  | 1 => ["board", "n", "quotas"]
  | 2 => ["board", "n", "quotas", "voter"]
  | 3 => ["board", "n", "quotas", "row"]
  | 4 => ["board", "n", "quotas", "voter", "row"]
  | 5 => ["board", "n", "quotas", "settling"]
  | 6 => ["board", "n", "own", "feasible", "votes", "past", "away"]
  | 7 => ["meeting", "voters", "kept"]
  | 32 => ["amount", "limit"]
  | _ => []
/-- where the classes stand -/
structure Tab where
  cls : Nat → Addr
  tb : List (Addr × Str) := []
abbrev Tab.flds (_ : Tab) : Nat → List Str := FL

/-- the script: a list of ints that is never written -/
def KL (K : PySem.W.Frag) (a : Addr) (xs : List V) : Prop :=
  ∃ (o : Obj) (its : Array Value) (n : Nat), K.lookup a = some o ∧ o.cls = .type "list" ∧ o.dict = none ∧ o.data = .seq its n ∧ its.size ≤ sizeLine ∧ Vals xs its.toList

section
variable (K : PySem.W.Frag) (T : Tab) (ex : Addr → Prop) (H : Hp)
mutual
/-- v stands for d; no object at ex is met -/
def Rep : D → V → Prop
  | .non, v => v = .non
  | .bl b, v => v = .bl b
  | .int i, v => v = .int i
  | .str s, v => v = .str (mkS s)
  | .tup ds, v => ∃ a vs, v = .ref a ∧ ¬ ex a ∧ H a = some (.tup vs) ∧ RepL ds vs
  | .lst ds, v => ∃ a vs, v = .ref a ∧ ¬ ex a ∧ H a = some (.lst vs) ∧ RepL ds vs
  | .dic ks ds, v => ∃ a vs, v = .ref a ∧ ¬ ex a ∧ H a = some (.dK (ks.zip vs)) ∧ ks.length = vs.length ∧ RepL ds vs
  | .obj t ds, v => ∃ a dx vs, v = .ref a ∧ ¬ ex a ∧ H a = some (.ins (T.cls t) dx ((T.flds t).zip vs)) ∧ (T.flds t).length = vs.length ∧ RepL ds vs
  | .raw u, v => v = u
  | .clo f us ds, v => v = .ref f ∧ RepL ds us
  | .scr ns, v => ∃ a, v = .ref a ∧ ((¬ ex a ∧ ∃ o, H a = some (.frz o (.lst (ns.map V.int)))) ∨ KL K a (ns.map V.int))
def RepL : List D → List V → Prop
  | [], vs => vs = []
  | d :: ds, vs => ∃ v r, vs = v :: r ∧ Rep d v ∧ RepL ds r
end
end

/-- induction over data -/
theorem D.ind {P : D → Prop} {PL : List D → Prop} (non : P .non) (bl : ∀ b, P (.bl b)) (int : ∀ i, P (.int i)) (str : ∀ s, P (.str s)) (tup : ∀ xs, PL xs → P (.tup xs)) (lst : ∀ xs, PL xs → P (.lst xs))
    (dic : ∀ ks vs, PL vs → P (.dic ks vs)) (obj : ∀ t fs, PL fs → P (.obj t fs)) (raw : ∀ v, P (.raw v)) (scr : ∀ ns, P (.scr ns)) (clo : ∀ f us ds, PL ds → P (.clo f us ds)) (nil : PL []) (cons : ∀ d ds, P d → PL ds → PL (d :: ds)) : (∀ d, P d) ∧ ∀ ds, PL ds :=
  ⟨fun d => D.rec (motive_1 := P) (motive_2 := PL) non bl int str tup lst dic obj raw scr clo nil cons d, fun ds => D.rec_1 (motive_1 := P) (motive_2 := PL) non bl int str tup lst dic obj raw scr clo nil cons ds⟩

section
variable {K : PySem.W.Frag} {T : Tab} {ex ex' : Addr → Prop} {H H' : Hp}
/-- no table of code objects -/
def NT (o : HO) : Prop := ∀ ps, o ≠ .tbl ps
theorem rep_mono_both (h : ∀ a o, ¬ ex a → H a = some o → ¬ ex' a ∧ (NT o → H' a = some o)) : (∀ d : D, ∀ v, Rep K T ex H d v → Rep K T ex' H' d v) ∧ ∀ ds : List D, ∀ vs, RepL K T ex H ds vs → RepL K T ex' H' ds vs := by
  refine D.ind ?_ ?_ ?_ ?_ ?_ ?_ ?_ ?_ ?_ ?_ ?_ ?_ ?_
  · intro v e; exact e
  · intro b v e; exact e
  · intro b v e; exact e
  · intro b v e; exact e
  · rintro xs ih v ⟨a, vs, e, n, q, r⟩
    exact ⟨a, vs, e, (h a _ n q).1, (h a _ n q).2 (fun _ z => nomatch z), ih _ r⟩
  · rintro xs ih v ⟨a, vs, e, n, q, r⟩
    exact ⟨a, vs, e, (h a _ n q).1, (h a _ n q).2 (fun _ z => nomatch z), ih _ r⟩
  · rintro ks xs ih v ⟨a, vs, e, n, q, l, r⟩
    exact ⟨a, vs, e, (h a _ n q).1, (h a _ n q).2 (fun _ z => nomatch z), l, ih _ r⟩
  · rintro t xs ih v ⟨a, dx, vs, e, n, q, l, r⟩
    exact ⟨a, dx, vs, e, (h a _ n q).1, (h a _ n q).2 (fun _ z => nomatch z), l, ih _ r⟩
  · intro u v e; exact e
  · rintro ns v ⟨a, e, q⟩
    refine ⟨a, e, ?_⟩
    rcases q with ⟨n, o, q⟩ | q
    · exact .inl ⟨(h a _ n q).1, o, (h a _ n q).2 (fun _ z => nomatch z)⟩
    · exact .inr q
  · rintro f us ds ih v ⟨e, r⟩
    exact ⟨e, ih _ r⟩
  · intro vs e; exact e
  · rintro d ds i1 i2 vs ⟨v, r, e, h1, h2⟩
    exact ⟨v, r, e, i1 _ h1, i2 _ h2⟩
theorem Rep.monoT (h : ∀ a o, ¬ ex a → H a = some o → ¬ ex' a ∧ (NT o → H' a = some o)) {d : D} {v : V} (r : Rep K T ex H d v) : Rep K T ex' H' d v := (rep_mono_both h).1 d v r
theorem RepL.monoT (h : ∀ a o, ¬ ex a → H a = some o → ¬ ex' a ∧ (NT o → H' a = some o)) {ds : List D} {vs : List V} (r : RepL K T ex H ds vs) : RepL K T ex' H' ds vs := (rep_mono_both h).2 ds vs r
theorem Rep.mono (h : ∀ a o, ¬ ex a → H a = some o → ¬ ex' a ∧ H' a = some o) {d : D} {v : V} (r : Rep K T ex H d v) : Rep K T ex' H' d v := r.monoT fun a o n e => ⟨(h a o n e).1, fun _ => (h a o n e).2⟩
theorem RepL.mono (h : ∀ a o, ¬ ex a → H a = some o → ¬ ex' a ∧ H' a = some o) {ds : List D} {vs : List V} (r : RepL K T ex H ds vs) : RepL K T ex' H' ds vs := r.monoT fun a o n e => ⟨(h a o n e).1, fun _ => (h a o n e).2⟩
theorem RepL.length : ∀ {ds : List D} {vs : List V}, RepL K T ex H ds vs → ds.length = vs.length
  | [], _, e => by cases (show _ = [] from e); rfl
  | d :: ds, _, ⟨v, r, e, _, h⟩ => by subst e; simp [RepL.length h]
theorem RepL.get : ∀ {ds : List D} {vs : List V}, RepL K T ex H ds vs → ∀ {i : Nat} {d : D}, ds[i]? = some d → ∃ v, vs[i]? = some v ∧ Rep K T ex H d v
  | [], _, _, i, d, q => by simp at q
  | d :: ds, _, ⟨v, r, e, h1, h2⟩, 0, d', q => by subst e; simp at q; subst q; exact ⟨v, by simp, h1⟩
  | d :: ds, _, ⟨v, r, e, h1, h2⟩, i + 1, d', q => by
    subst e
    obtain ⟨w, e1, e2⟩ := RepL.get h2 (i := i) (d := d') (by simpa using q)
    exact ⟨w, by simpa using e1, e2⟩
theorem RepL.nil : RepL K T ex H [] [] := rfl
theorem RepL.cons {d : D} {v : V} {ds : List D} {vs : List V} (h : Rep K T ex H d v) (t : RepL K T ex H ds vs) : RepL K T ex H (d :: ds) (v :: vs) := ⟨v, vs, rfl, h, t⟩
theorem RepL.append : ∀ {ds es : List D} {vs ws : List V}, RepL K T ex H ds vs → RepL K T ex H es ws → RepL K T ex H (ds ++ es) (vs ++ ws)
  | [], _, _, _, e, h => by cases (show _ = [] from e); exact h
  | d :: ds, _, _, _, ⟨v, r, e, h1, h2⟩, h => by subst e; exact ⟨v, _, rfl, h1, RepL.append h2 h⟩
theorem RepL.one {d : D} {v : V} (h : Rep K T ex H d v) : RepL K T ex H [d] [v] := .cons h .nil
theorem RepL.take : ∀ (n : Nat) {ds : List D} {vs : List V}, RepL K T ex H ds vs → RepL K T ex H (ds.take n) (vs.take n)
  | 0, ds, vs, _ => by simp [RepL]
  | n + 1, [], _, e => by cases (show _ = [] from e); simp [RepL]
  | n + 1, d :: ds, _, ⟨v, r, e, h1, h2⟩ => by subst e; exact ⟨v, _, rfl, h1, RepL.take n h2⟩
theorem RepL.drop : ∀ (n : Nat) {ds : List D} {vs : List V}, RepL K T ex H ds vs → RepL K T ex H (ds.drop n) (vs.drop n)
  | 0, ds, vs, h => h
  | n + 1, [], _, e => by cases (show _ = [] from e); simp [RepL]
  | n + 1, d :: ds, _, ⟨v, r, e, h1, h2⟩ => by subst e; exact RepL.drop n h2
theorem RepL.set : ∀ (n : Nat) {ds : List D} {vs : List V} {d : D} {v : V}, RepL K T ex H ds vs → Rep K T ex H d v → RepL K T ex H (ds.set n d) (vs.set n v)
  | n, [], _, _, _, e, _ => by cases (show _ = [] from e); simp [RepL]
  | 0, d :: ds, _, d', v', ⟨v, r, e, h1, h2⟩, h => by subst e; exact ⟨v', _, rfl, h, h2⟩
  | n + 1, d :: ds, _, _, _, ⟨v, r, e, h1, h2⟩, h => by subst e; exact ⟨v, _, rfl, h1, RepL.set n h2 h⟩
theorem RepL.erase : ∀ (n : Nat) {ds : List D} {vs : List V}, RepL K T ex H ds vs → RepL K T ex H (ds.eraseIdx n) (vs.eraseIdx n)
  | n, [], _, e => by cases (show _ = [] from e); simp [RepL]
  | 0, d :: ds, _, ⟨v, r, e, h1, h2⟩ => by subst e; exact h2
  | n + 1, d :: ds, _, ⟨v, r, e, h1, h2⟩ => by subst e; exact ⟨v, _, rfl, h1, RepL.erase n h2⟩
theorem RepL.rep (k : Nat) {ds : List D} {vs : List V} (h : RepL K T ex H ds vs) : RepL K T ex H (List.replicate k ds).flatten (List.replicate k vs).flatten := by
  induction k with
  | zero => simp [RepL]
  | succ k ih => rw [List.replicate_succ, List.replicate_succ, List.flatten_cons, List.flatten_cons]; exact h.append ih

end

/-! ### slots -/
section
variable (K : PySem.W.Frag) (T : Tab)
def Owns (σ : St) (env : Sl) (a : Addr) : Prop := ∃ (i : Nat) (c : OC), env[i]? = some (.own c) ∧ σ[i]? = some (some (V.ref a))
def exO (ex : Addr → Prop) (σ : St) (env : Sl) : Addr → Prop := fun a => ex a ∨ Owns σ env a
def RepO (ex : Addr → Prop) (H : Hp) (a : Addr) : OC → Prop
  | .lst ds => ∃ vs, H a = some (.lst vs) ∧ RepL K T ex H ds vs
  | .dic ks ds => ∃ vs, H a = some (.dK (ks.zip vs)) ∧ ks.length = vs.length ∧ RepL K T ex H ds vs
  | .ins t ds => ∃ dx vs, H a = some (.ins (T.cls t) dx (((FL t).take ds.length).zip vs)) ∧ ds.length ≤ (FL t).length ∧ RepL K T ex H ds vs
structure Good (ex : Addr → Prop) (σ : St) (H : Hp) (env : Sl) : Prop where
  len : env.length = σ.length
  val : ∀ (i : Nat) (d : D), env[i]? = some (.val d) → ∃ v, σ[i]? = some (some v) ∧ Rep K T (exO ex σ env) H d v
  own : ∀ (i : Nat) (c : OC), env[i]? = some (.own c) → ∃ a, σ[i]? = some (some (V.ref a)) ∧ ¬ ex a ∧ RepO K T (exO ex σ env) H a c
  inj : ∀ (i j : Nat) (a : Addr) (c c' : OC), env[i]? = some (.own c) → env[j]? = some (.own c') → σ[i]? = some (some (V.ref a)) → σ[j]? = some (some (V.ref a)) → i = j
  dom : ∀ a, ex a → H a ≠ none
  tb : LamX.Tabs T.tb H
/-- from (H, env) to (H', env') by an expression: the slots' values are as they were -/
structure Step (ex : Addr → Prop) (σ : St) (H : Hp) (env : Sl) (H' : Hp) (env' : Sl) : Prop where
  fr : ∀ b o, H b = some o → ¬ Owns σ env b → NT o → H' b = some o
  dm : ∀ b, H b ≠ none → H' b ≠ none
  sb : ∀ (i : Nat) (c : OC), env'[i]? = some (.own c) → ∃ c', env[i]? = some (.own c')
  gd : Good K T ex σ H' env'
/-- by a statement; the slots at pr (the parameters) keep their values -/
structure SStep (pr : Nat → Bool) (ex : Addr → Prop) (σ : St) (H : Hp) (env : Sl) (σ' : St) (H' : Hp) (env' : Sl) : Prop where
  fr : ∀ b o, H b = some o → ¬ Owns σ env b → NT o → H' b = some o
  dm : ∀ b, H b ≠ none → H' b ≠ none
  sbp : ∀ (i : Nat) (c : OC), pr i = true → env'[i]? = some (.own c) → ∃ c', env[i]? = some (.own c')
  sbl : ∀ (i : Nat) (c : OC) (a : Addr), pr i = false → env'[i]? = some (.own c) → σ'[i]? = some (some (V.ref a)) → (∃ (j : Nat) (c' : OC), pr j = false ∧ env[j]? = some (.own c') ∧ σ[j]? = some (some (V.ref a))) ∨ H a = none
  par : ∀ i, pr i = true → σ'[i]? = σ[i]?
  ln : σ'.length = σ.length
  gd : Good K T ex σ' H' env'
def RepE (ex : Addr → Prop) (σ : St) (env' : Sl) (H0 H' : Hp) (v : V) : EV → Prop
  | .v d => Rep K T (exO ex σ env') H' d v
  | .o c => ∃ a, v = .ref a ∧ H0 a = none ∧ RepO K T (fun b => exO ex σ env' b ∨ b = a) H' a c ∧ Good K T (fun b => ex b ∨ b = a) σ H' env'
/-- .. behind a return -/
def RepR (pr : Nat → Bool) (ex : Addr → Prop) (σ : St) (env : Sl) (H : Hp) (σ' : St) (env' : Sl) (H' : Hp) (v : V) : EV → Prop
  | .v d => Rep K T (exO ex σ' env') H' d v
  | .o c => ∃ a, v = .ref a ∧ ¬ ex a ∧ ¬ Owns σ' env' a ∧ ((∃ (j : Nat) (c' : OC), pr j = false ∧ env[j]? = some (.own c') ∧ σ[j]? = some (some (V.ref a))) ∨ H a = none) ∧ RepO K T (fun b => exO ex σ' env' b ∨ b = a) H' a c ∧ Good K T (fun b => ex b ∨ b = a) σ' H' env'
def RepX (ex : Addr → Prop) (H' : Hp) (cls : Value) (dd : Option Addr) (x : ExD) : Prop :=
  cls = .ref (T.cls x.t) ∧ ((x.fs = [] ∧ dd = none) ∨ ∃ a vs, (dd = some a ∧ x.fs ≠ []) ∧ H' a = some (.xd ((T.flds x.t).zip vs)) ∧ (T.flds x.t).length = vs.length ∧ RepL K T ex H' x.fs vs)
def RepA (ex : Addr → Prop) (σ : St) (env : Sl) (H : Hp) (v : V) : AV → Prop
  | .v d => Rep K T (exO ex σ env) H d v
  | .s i => σ[i]? = some (some v)
end

section
variable {K : PySem.W.Frag} {T : Tab} {np : Nat → Bool} {ex : Addr → Prop} {σ σ' σ'' : St} {H H' H'' : Hp} {env env' env'' : Sl}
theorem RepO.there {a : Addr} {c : OC} (h : RepO K T ex H a c) : H a ≠ none := by
  intro e
  cases c with
  | lst ds => obtain ⟨vs, q, _⟩ := h; rw [e] at q; cases q
  | dic ks ds => obtain ⟨vs, q, _⟩ := h; rw [e] at q; cases q
  | ins t ds => obtain ⟨dx, vs, q, _⟩ := h; rw [e] at q; cases q
theorem RepO.nt {a : Addr} {c : OC} {o : HO} (h : RepO K T ex H a c) (e : H a = some o) : NT o := fun ps z => by
  subst z
  cases c with
  | lst ds => obtain ⟨vs, q, _⟩ := h; rw [e] at q; cases q
  | dic ks ds => obtain ⟨vs, q, _⟩ := h; rw [e] at q; cases q
  | ins t ds => obtain ⟨dx, vs, q, _⟩ := h; rw [e] at q; cases q
theorem RepO.monoT {ex' : Addr → Prop} {a : Addr} {c : OC} (h : RepO K T ex H a c) (ha : H' a = H a) (k : ∀ b o, ¬ ex b → H b = some o → ¬ ex' b ∧ (NT o → H' b = some o)) : RepO K T ex' H' a c := by
  cases c with
  | lst ds => obtain ⟨vs, q, r⟩ := h; exact ⟨vs, ha.trans q, r.monoT k⟩
  | dic ks ds => obtain ⟨vs, q, l, r⟩ := h; exact ⟨vs, ha.trans q, l, r.monoT k⟩
  | ins t ds => obtain ⟨dx, vs, q, l, r⟩ := h; exact ⟨dx, vs, ha.trans q, l, r.monoT k⟩
theorem RepO.mono {ex' : Addr → Prop} {a : Addr} {c : OC} (h : RepO K T ex H a c) (ha : H' a = H a) (k : ∀ b o, ¬ ex b → H b = some o → ¬ ex' b ∧ H' b = some o) : RepO K T ex' H' a c := h.monoT ha fun b o n e => ⟨(k b o n e).1, fun _ => (k b o n e).2⟩
/-- the tables stand when one object is written that is neither a table nor a code object -/
theorem tabs_upd {tb : List (Addr × Str)} {a : Addr} {o o' : HO} (t : LamX.Tabs tb H) (e : H a = some o) (h1 : NT o) (h2 : ∀ p, o ≠ .ext p) : LamX.Tabs tb (upd H a o') := fun p hp => by
  obtain ⟨ps, q1, q2, q3⟩ := t p hp
  refine ⟨ps, ?_, q2, fun pos cv hc => ?_⟩
  · rw [upd_ne (fun z => h1 ps (by rw [z, e] at q1; exact Option.some.inj q1))]; exact q1
  · obtain ⟨c, e1, e2⟩ := q3 pos cv hc
    refine ⟨c, e1, ?_⟩
    rw [upd_ne (fun z => h2 _ (by rw [z, e] at e2; exact Option.some.inj e2))]; exact e2
theorem RepO.noext {a : Addr} {c : OC} {o : HO} (h : RepO K T ex H a c) (e : H a = some o) : ∀ p, o ≠ .ext p := fun ps z => by
  subst z
  cases c with
  | lst ds => obtain ⟨vs, q, _⟩ := h; rw [e] at q; cases q
  | dic ks ds => obtain ⟨vs, q, _⟩ := h; rw [e] at q; cases q
  | ins t ds => obtain ⟨dx, vs, q, _⟩ := h; rw [e] at q; cases q
theorem RepO.tabs {a : Addr} {c : OC} {o' : HO} {tb : List (Addr × Str)} (h : RepO K T ex H a c) (t : LamX.Tabs tb H) : LamX.Tabs tb (upd H a o') := by
  cases e : H a with
  | none => exact absurd e h.there
  | some o => exact tabs_upd t e (h.nt e) (h.noext e)
theorem Good.owned (g : Good K T ex σ H env) {a : Addr} (h : Owns σ env a) : H a ≠ none ∧ ¬ ex a := by
  obtain ⟨i, c, e1, e2⟩ := h
  obtain ⟨b, e3, n, r⟩ := g.own i c e1
  rw [e2] at e3
  cases e3
  exact ⟨r.there, n⟩
theorem Good.fresh (g : Good K T ex σ H env) {a : Addr} (h : H a = none) : ¬ exO ex σ env a := by
  rintro (q | q)
  · exact g.dom a q h
  · exact (g.owned q).1 h
/-- the same slots over a heap that has all that was -/
theorem Good.ext (g : Good K T ex σ H env) (k : ∀ b o, H b = some o → H' b = some o) : Good K T ex σ H' env where
  len := g.len
  val := fun i d e => let ⟨v, e1, r⟩ := g.val i d e; ⟨v, e1, r.mono fun a o n q => ⟨n, k a o q⟩⟩
  own := fun i c e => by
    obtain ⟨a, e1, n, r⟩ := g.own i c e
    refine ⟨a, e1, n, r.mono ?_ fun a o n q => ⟨n, k a o q⟩⟩
    cases q : H a with
    | none => exact absurd q r.there
    | some o => exact k a o q
  inj := g.inj
  dom := fun a h q => by
    cases e : H a with
    | none => exact g.dom a h e
    | some o => rw [k a o e] at q; cases q
  tb := g.tb.ext k
/-- what was not there yet is not met -/
theorem Good.more (g : Good K T ex σ H env) {a : Addr} (n : H a = none) (k : ∀ b o, H b = some o → H' b = some o) (ha : H' a ≠ none) : Good K T (fun b => ex b ∨ b = a) σ H' env := by
  have ne : ∀ b, exO ex σ env b → b ≠ a := fun b h z => by subst z; exact g.fresh n h
  have mo : ∀ b o, ¬ exO ex σ env b → H b = some o → ¬ exO (fun b => ex b ∨ b = a) σ env b ∧ H' b = some o := fun b o nb e => by
    refine ⟨?_, k b o e⟩
    rintro ((q | q) | q)
    · exact nb (.inl q)
    · subst q; rw [n] at e; cases e
    · exact nb (.inr q)
  refine ⟨g.len, fun i d e => let ⟨v, e1, r⟩ := g.val i d e; ⟨v, e1, r.mono mo⟩, fun i c e => ?_, g.inj, fun b h => ?_, g.tb.ext k⟩
  · obtain ⟨b, e1, nb, r⟩ := g.own i c e
    refine ⟨b, e1, fun z => z.elim nb fun z => ?_, r.mono ?_ mo⟩
    · subst z; exact r.there n
    · cases q : H b with
      | none => exact absurd q r.there
      | some o => exact k b o q
  · rcases h with h | h
    · intro q
      cases e : H b with
      | none => exact g.dom b h e
      | some o => rw [k b o e] at q; cases q
    · subst h; exact ha
theorem Step.refl (g : Good K T ex σ H env) : Step K T ex σ H env H env := ⟨fun _ _ e _ _ => e, fun _ e => e, fun i c e => ⟨c, e⟩, g⟩
theorem Step.ext (g : Good K T ex σ H env) (k : ∀ b o, H b = some o → H' b = some o) : Step K T ex σ H env H' env :=
  ⟨fun b o e _ _ => k b o e, (fun b e q => by
    cases h : H b with
    | none => exact e h
    | some o => rw [k b o h] at q; exact nomatch q), fun i c e => ⟨c, e⟩, g.ext k⟩
theorem Step.owns (s : Step K T ex σ H env H' env') {a : Addr} (h : Owns σ env' a) : Owns σ env a := by
  obtain ⟨i, c, e1, e2⟩ := h
  obtain ⟨c', e3⟩ := s.sb i c e1
  exact ⟨i, c', e3, e2⟩
theorem Step.trans (a : Step K T ex σ H env H' env') (b : Step K T ex σ H' env' H'' env'') : Step K T ex σ H env H'' env'' :=
  ⟨fun x o e n nt => b.fr x o (a.fr x o e n nt) (fun q => n (a.owns q)) nt, fun x e => b.dm x (a.dm x e), fun i c e => let ⟨c', e'⟩ := b.sb i c e; a.sb i c' e', b.gd⟩
theorem Step.exO (s : Step K T ex σ H env H' env') {a : Addr} (h : exO ex σ env' a) : Dt.exO ex σ env a := by
  rcases h with h | h
  · exact .inl h
  · exact .inr (s.owns h)
/-- what was told of a value stays true -/
theorem Rep.step {d : D} {v : V} (r : Rep K T (exO ex σ env) H d v) (s : Step K T ex σ H env H' env') : Rep K T (exO ex σ env') H' d v :=
  r.monoT fun a o n e => ⟨fun q => n (s.exO q), s.fr a o e fun q => n (.inr q)⟩
theorem RepA.step {d : AV} {v : V} (r : RepA K T ex σ env H v d) (s : Step K T ex σ H env H' env') : RepA K T ex σ env' H' v d := by
  cases d with
  | v d => exact Rep.step r s
  | s i => exact r
theorem Step.s (s : Step K T ex σ H env H' env') : SStep K T np ex σ H env σ H' env' :=
  ⟨s.fr, s.dm, fun i c _ e => s.sb i c e, fun i c a h e q => let ⟨c', e'⟩ := s.sb i c e; .inl ⟨i, c', h, e', q⟩, fun _ _ => rfl, rfl, s.gd⟩
theorem SStep.refl (g : Good K T ex σ H env) : SStep K T np ex σ H env σ H env := (Step.refl g).s
theorem SStep.owns (s : SStep K T np ex σ H env σ' H' env') {a : Addr} (h : Owns σ' env' a) : Owns σ env a ∨ H a = none := by
  obtain ⟨i, c, e1, e2⟩ := h
  cases hi : np i with
  | true =>
    obtain ⟨c', e3⟩ := s.sbp i c hi e1
    exact .inl ⟨i, c', e3, by rw [← s.par i hi]; exact e2⟩
  | false =>
    rcases s.sbl i c a hi e1 e2 with ⟨j, c', _, e3, e4⟩ | q
    · exact .inl ⟨j, c', e3, e4⟩
    · exact .inr q
theorem SStep.trans (a : SStep K T np ex σ H env σ' H' env') (b : SStep K T np ex σ' H' env' σ'' H'' env'') : SStep K T np ex σ H env σ'' H'' env'' where
  fr := fun x o e n nt => b.fr x o (a.fr x o e n nt) (fun q => by
    rcases a.owns q with q | q
    · exact n q
    · rw [q] at e; cases e) nt
  dm := fun x e => b.dm x (a.dm x e)
  sbp := fun i c h e => let ⟨c', e'⟩ := b.sbp i c h e; a.sbp i c' h e'
  sbl := fun i c x h e q => by
    rcases b.sbl i c x h e q with ⟨j, c', hj, e1, e2⟩ | n
    · exact a.sbl j c' x hj e1 e2
    · refine .inr ?_
      cases w : H x with
      | none => rfl
      | some o => exact absurd n (a.dm x (by rw [w]; exact fun z => by cases z))
  par := fun i h => (b.par i h).trans (a.par i h)
  ln := b.ln.trans a.ln
  gd := b.gd
theorem SStep.rep {d : D} {v : V} (s : SStep K T np ex σ H env σ' H' env') (r : Rep K T (exO ex σ env) H d v) : Rep K T (exO ex σ' env') H' d v :=
  r.monoT fun a o n e => ⟨(fun q => by
    rcases q with q | q
    · exact n (.inl q)
    · rcases s.owns q with q | q
      · exact n (.inr q)
      · rw [q] at e; exact nomatch e), s.fr a o e fun q => n (.inr q)⟩
theorem RepR.trans {e : EV} {v : V} (a : SStep K T np ex σ H env σ' H' env') (r : RepR K T np ex σ' env' H' σ'' env'' H'' v e) : RepR K T np ex σ env H σ'' env'' H'' v e := by
  cases e with
  | v d => exact r
  | o c =>
    obtain ⟨x, e1, n1, n2, h, q⟩ := r
    refine ⟨x, e1, n1, n2, ?_, q⟩
    rcases h with ⟨j, c', hj, e2, e3⟩ | n
    · exact a.sbl j c' x hj e2 e3
    · refine .inr ?_
      cases w : H x with
      | none => rfl
      | some o => exact absurd n (a.dm x (by rw [w]; exact fun z => by cases z))
end
end Dt
end
section
set_option maxRecDepth 100000
set_option maxHeartbeats 4000000
/-! QB: readings of expressions as functions of the slots. -/
namespace Dt
open PySem PySem.Spec L2
open PyProof.Rows hiding St

def M.ret {α : Type} (a : α) : M α := fun e => some (.ok a e)
def M.bind {α β : Type} (m : M α) (k : α → M β) : M β := fun e => match m e with
  | some (.ok a e') => k a e'
  | some (.exc x e') => some (.exc x e')
  | none => none
def M.stuck {α : Type} : M α := fun _ => none
def lift {α : Type} (o : Option α) : M α := fun e => match o with
  | some a => some (.ok a e)
  | none => none
def frzC : OC → Option D
  | .lst ds => some (.lst ds)
  | .dic ks vs => some (.dic ks vs)
  | .ins _ _ => none
def frz : EV → Option D
  | .v d => some d
  | .o c => frzC c
def rdS : Option Slot → Option D
  | some (.val d) => some d
  | some (.own c) => frzC c
  | _ => none
def deref (env : Sl) : AV → Option D
  | .v d => some d
  | .s i => rdS env[i]?
/-- a value to be read: its own object may be a slot's -/
def Rd1 (K : PySem.W.Frag) (T : Tab) (ex : Addr → Prop) (H : Hp) : D → V → Prop
  | .lst ds, v => ∃ a vs, v = .ref a ∧ H a = some (.lst vs) ∧ RepL K T ex H ds vs
  | .dic ks ds, v => ∃ a vs, v = .ref a ∧ H a = some (.dK (ks.zip vs)) ∧ ks.length = vs.length ∧ RepL K T ex H ds vs
  | d, v => Rep K T ex H d v
def Ext (H H' : Hp) : Prop := ∀ b o, H b = some o → H' b = some o
/-- a new value out of values -/
def RepV (K : PySem.W.Frag) (T : Tab) (ex : Addr → Prop) (H0 H' : Hp) (v : V) : EV → Prop
  | .v d => Rep K T ex H' d v
  | .o c => ∃ a, v = .ref a ∧ H0 a = none ∧ RepO K T (fun b => ex b ∨ b = a) H' a c

section
variable {K : PySem.W.Frag} {T : Tab} {ex : Addr → Prop} {σ : St} {H H' : Hp} {env env' : Sl}
theorem Rep.rd1 {d : D} {v : V} (h : Rep K T ex H d v) : Rd1 K T ex H d v := by
  cases d with
  | lst ds =>
    obtain ⟨a, vs, e, _, q, r⟩ := h
    exact ⟨a, vs, e, q, r⟩
  | dic ks ds =>
    obtain ⟨a, vs, e, _, q, l, r⟩ := h
    exact ⟨a, vs, e, q, l, r⟩
  | _ => exact h
theorem RepO.rd1 {a : Addr} {c : OC} {d : D} (h : RepO K T ex H a c) (e : frzC c = some d) : Rd1 K T ex H d (.ref a) := by
  cases c with
  | lst ds => cases e; obtain ⟨vs, q, r⟩ := h; exact ⟨a, vs, rfl, q, r⟩
  | dic ks ds => cases e; obtain ⟨vs, q, l, r⟩ := h; exact ⟨a, vs, rfl, q, l, r⟩
  | ins t ds => cases e
theorem RepO.rep {a : Addr} {c : OC} {d : D} (h : RepO K T ex H a c) (n : ¬ ex a) (e : frzC c = some d) : Rep K T ex H d (.ref a) := by
  cases c with
  | lst ds => cases e; obtain ⟨vs, q, r⟩ := h; exact ⟨a, vs, rfl, n, q, r⟩
  | dic ks ds => cases e; obtain ⟨vs, q, l, r⟩ := h; exact ⟨a, vs, rfl, n, q, l, r⟩
  | ins t ds => cases e
theorem deref_ok {a : AV} {v : V} {d : D} (g : Good K T ex σ H env) (r : RepA K T ex σ env H v a) (e : deref env a = some d) : Rd1 K T (exO ex σ env) H d v := by
  cases a with
  | v d' => cases e; exact Rep.rd1 r
  | s i =>
    have e : rdS env[i]? = some d := e
    cases q : env[i]? with
    | none => rw [q] at e; cases e
    | some sl =>
      rw [q] at e
      have r' : σ[i]? = some (some v) := r
      cases sl with
      | emp => cases e
      | val d' =>
        cases e
        obtain ⟨w, e1, h⟩ := g.val i _ q
        rw [r'] at e1; cases e1
        exact h.rd1
      | own c =>
        obtain ⟨b, e1, n, h⟩ := g.own i c q
        rw [r'] at e1; cases e1
        exact h.rd1 e
theorem frz_rep {a : Addr} {c : OC} {d : D} (g : Good K T ex σ H env) (s : Step K T ex σ H env H' env') (n : H a = none) (h : RepO K T (fun b => exO ex σ env' b ∨ b = a) H' a c) (e : frzC c = some d) : Rep K T (exO ex σ env') H' d (.ref a) := by
  have na : ¬ exO ex σ env' a := fun q => g.fresh n (s.exO q)
  have h' : RepO K T (exO ex σ env') H' a c := h.mono rfl fun b o nb q => ⟨fun z => nb (.inl z), q⟩
  exact h'.rep na e
theorem RepE.frz {ev : EV} {v : V} {d : D} (g : Good K T ex σ H env) (s : Step K T ex σ H env H' env') (r : RepE K T ex σ env' H H' v ev) (e : frz ev = some d) : Rep K T (exO ex σ env') H' d v := by
  cases ev with
  | v d' => cases e; exact r
  | o c =>
    obtain ⟨a, e1, n, h, _⟩ := r
    subst e1
    exact frz_rep g s n h e
end

/-! ### readings -/
abbrev Rl (γ α : Type) := (Addr → Prop) → St → Sl → Hp → Hp → γ → α → Prop
section
variable (K : PySem.W.Frag) (T : Tab)
def relE : Rl V EV := fun ex σ env' H H' v a => RepE K T ex σ env' H H' v a
def relA : Rl V AV := fun ex σ env' _ H' v a => RepA K T ex σ env' H' v a
def relAs : Rl (List V) (List AV) := fun ex σ env' _ H' vs as => Paired (fun a v => RepA K T ex σ env' H' v a) as vs
def relT : Rl Bool Bool := fun _ _ _ _ _ b c => b = c
def Out {γ α : Type} (rel : Rl γ α) (ex : Addr → Prop) (env : Sl) (W : WX) (σ : St) (H : Hp) (Q : γ → Hp → Prop) : Re α → Prop
  | .ok a env' => ∀ v H', Step K T ex σ H env H' env' → rel ex σ env' H H' v a → Q v H'
  | .exc x env' => ∀ cls dd H', Step K T ex σ H env H' env' → RepX K T (exO ex σ env') H' cls dd x → W cls dd σ H'
def trx {γ α : Type} (rel : Rl γ α) (ex : Addr → Prop) (f : M α) (env : Sl) (W : WX) (σ : St) (H : Hp) (Q : γ → Hp → Prop) : Prop :=
  Good K T ex σ H env ∧ ∃ r, f env = some r ∧ Out K T rel ex env W σ H Q r
def tr {γ α : Type} (rel : Rl γ α) (f : M α) (W : WX) : St → Hp → (γ → Hp → Prop) → Prop := fun σ H Q => ∃ ex env, trx K T rel ex f env W σ H Q
end
/-- the start's heap may be an earlier one -/
def RM {γ α : Type} (rel : Rl γ α) : Prop := ∀ ex σ env' H H1 H' v a, (∀ b, H b ≠ none → H1 b ≠ none) → rel ex σ env' H1 H' v a → rel ex σ env' H H' v a
theorem none_back {H H1 : Hp} (k : ∀ b, H b ≠ none → H1 b ≠ none) {a : Addr} (h : H1 a = none) : H a = none := by
  cases w : H a with
  | none => rfl
  | some o => exact absurd h (k a (by rw [w]; exact fun z => by cases z))
section
variable {K : PySem.W.Frag} {T : Tab}
theorem rmE : RM (relE K T) := fun ex σ env' H H1 H' v a k r => by
  cases a with
  | v d => exact r
  | o c => obtain ⟨x, e, n, h⟩ := r; exact ⟨x, e, none_back k n, h⟩
theorem rmA : RM (relA K T) := fun _ _ _ _ _ _ _ _ _ r => r
theorem rmAs : RM (relAs K T) := fun _ _ _ _ _ _ _ _ _ r => r
theorem rmT : RM relT := fun _ _ _ _ _ _ _ _ _ r => r
variable {γ γ' α β : Type} {rel : Rl γ α} {rel' : Rl γ' β} {ex : Addr → Prop} {env env1 : Sl} {W : WX} {σ : St} {H H1 : Hp} {fa : M α} {k : α → M β} {Q : γ' → Hp → Prop}
theorem trx.mono {R R' : γ → Hp → Prop} (h : trx K T rel ex fa env W σ H R) (hq : ∀ v H', R v H' → R' v H') : trx K T rel ex fa env W σ H R' := by
  obtain ⟨g, r, e, o⟩ := h
  refine ⟨g, r, e, ?_⟩
  cases r with
  | ok a env' => exact fun v H' s q => hq v H' (o v H' s q)
  | exc x env' => exact o
theorem Out.back {r : Re β} (hm : RM rel') (s : Step K T ex σ H env H1 env1) (o : Out K T rel' ex env W σ H Q r) : Out K T rel' ex env1 W σ H1 Q r := by
  cases r with
  | ok a env' => exact fun v H' s' q => o v H' (s.trans s') (hm _ _ _ _ _ _ _ _ s.dm q)
  | exc x env' => exact fun c d H' s' q => o c d H' (s.trans s') q
theorem trx_bind (rel : Rl γ α) (hm : RM rel') (h : trx K T rel' ex (M.bind fa k) env W σ H Q) :
    trx K T rel ex fa env W σ H fun v H1 => ∃ a env1, Step K T ex σ H env H1 env1 ∧ rel ex σ env1 H H1 v a ∧ trx K T rel' ex (k a) env1 W σ H1 Q := by
  obtain ⟨g, r, e, o⟩ := h
  unfold M.bind at e
  cases q : fa env with
  | none => rw [q] at e; cases e
  | some ra =>
    rw [q] at e
    refine ⟨g, ra, q, ?_⟩
    cases ra with
    | exc x env' => cases e; exact o
    | ok a env1 => exact fun v H1 s hr => ⟨a, env1, s, hr, s.gd, r, e, o.back hm s⟩
theorem trx.tr {f : M β} (h : trx K T rel' ex f env W σ H Q) : Dt.tr K T rel' f W σ H Q := ⟨ex, env, h⟩
theorem trx_ret {b : β} (h : trx K T rel' ex (M.ret b) env W σ H Q) : Good K T ex σ H env ∧ ∀ v H', Step K T ex σ H env H' env → rel' ex σ env H H' v b → Q v H' := by
  obtain ⟨g, r, e, out⟩ := h
  cases e
  exact ⟨g, out⟩
end

/-! ### judgements -/
section
variable (T : Tab) (X : Cx)
def QE (e : Expr) (f : M EV) : Prop := ∀ pn xe W, Takes (X.tr pn xe) W → PassesOwn (model X.prog X.w) X.A X.env xe → PE (X.tr pn xe) e (tr X.K T (relE X.K T) f W)
def QO (e : Expr) (f : M AV) : Prop := ∀ pn xe W, Takes (X.tr pn xe) W → PassesOwn (model X.prog X.w) X.A X.env xe → PE (X.tr pn xe) e (tr X.K T (relA X.K T) f W)
def QAs (es : List Expr) (f : M (List AV)) : Prop := ∀ pn xe W, Takes (X.tr pn xe) W → PassesOwn (model X.prog X.w) X.A X.env xe → PA (X.tr pn xe) es (tr X.K T (relAs X.K T) f W)
def QT (e : Expr) (f : M Bool) : Prop := ∀ pn xe W, Takes (X.tr pn xe) W → PassesOwn (model X.prog X.w) X.A X.env xe → PT (X.tr pn xe) e (tr X.K T relT f W)
def QW (e : Expr) (f : M Bool) : Prop := ∀ pn xe W, Takes (X.tr pn xe) W → PassesOwn (model X.prog X.w) X.A X.env xe → PW (X.tr pn xe) e (tr X.K T relT f W)
end
theorem impE {X : Cx} {e : Expr} {t t' : TE} (h : PE X e t) (k : ∀ σ H Q, t' σ H Q → t σ H Q) : PE X e t' := ⟨fun pins s σ H Q I q => h.run pins s σ H Q I (k σ H Q q)⟩
theorem impT {X : Cx} {e : Expr} {t t' : TT} (h : PT X e t) (k : ∀ σ H Q, t' σ H Q → t σ H Q) : PT X e t' := ⟨fun pins s σ H Q I q => h.run pins s σ H Q I (k σ H Q q)⟩
theorem impW {X : Cx} {e : Expr} {t t' : TT} (h : PW X e t) (k : ∀ σ H Q, t' σ H Q → t σ H Q) : PW X e t' := ⟨fun wh pins s σ H Q I q => h.run wh pins s σ H Q I (k σ H Q q)⟩
theorem impA {X : Cx} {e : List Expr} {t t' : TA} (h : PA X e t) (k : ∀ σ H Q, t' σ H Q → t σ H Q) : PA X e t' := ⟨fun pos pins s σ H Q I q => h.run pos pins s σ H Q I (k σ H Q q)⟩
theorem impS {X : Cx} {e : Stmt} {t t' : TS} (h : PS X e t) (k : ∀ D σ H, t' D σ H → t D σ H) : PS X e t' := ⟨fun pins s σ H D I q => h.run pins s σ H D I (k D σ H q)⟩
theorem impSs {X : Cx} {e : List Stmt} {t t' : TS} (h : PSs X e t) (k : ∀ D σ H, t' D σ H → t D σ H) : PSs X e t' := ⟨fun pins s σ H D I q => h.run pins s σ H D I (k D σ H q)⟩

/-! ### names -/
def oName (i : Nat) : M AV := fun env => match env[i]? with
  | some (.val d) => some (.ok (.v d) env)
  | some (.own _) => some (.ok (.s i) env)
  | _ => none
def eName (i : Nat) : M EV := fun env => match env[i]? with
  | some (.val d) => some (.ok (.v d) env)
  | some (.own c) => match frzC c with
    | some d => some (.ok (.v d) (env.set i (.val d)))
    | none => none
  | _ => none
section
variable {K : PySem.W.Frag} {T : Tab} {ex : Addr → Prop} {σ : St} {H : Hp} {env : Sl}
/-- an owned thing becomes one that never changes -/
theorem Good.freeze (g : Good K T ex σ H env) {i : Nat} {c : OC} {d : D} (e : env[i]? = some (.own c)) (f : frzC c = some d) :
    Step K T ex σ H env H (env.set i (.val d)) ∧ ∃ a, σ[i]? = some (some (V.ref a)) ∧ Rep K T (exO ex σ (env.set i (.val d))) H d (.ref a) := by
  have hi : i < env.length := (List.getElem?_eq_some_iff.mp e).1
  obtain ⟨a, ea, na, ra⟩ := g.own i c e
  have other : ∀ j sl, (env.set i (.val d))[j]? = some sl → (j = i ∧ sl = .val d) ∨ (j ≠ i ∧ env[j]? = some sl) := fun j sl h => by
    by_cases q : j = i
    · subst q
      rw [List.getElem?_set_self hi] at h
      exact .inl ⟨rfl, (Option.some.inj h).symm⟩
    · rw [List.getElem?_set_ne (Ne.symm q)] at h
      exact .inr ⟨q, h⟩
  have ow : ∀ {b}, Owns σ (env.set i (.val d)) b → Owns σ env b ∧ b ≠ a := fun {b} h => by
    obtain ⟨j, c', e1, e2⟩ := h
    rcases other j _ e1 with ⟨_, z⟩ | ⟨hj, e3⟩
    · cases z
    · refine ⟨⟨j, c', e3, e2⟩, fun z => ?_⟩
      subst z
      exact hj (g.inj j i b c' c e3 e e2 ea)
  have ow' : ∀ {b}, exO ex σ (env.set i (.val d)) b → exO ex σ env b ∧ b ≠ a := fun {b} h => by
    rcases h with h | h
    · exact ⟨.inl h, fun z => na (by rw [← z]; exact h)⟩
    · exact ⟨.inr (ow h).1, (ow h).2⟩
  have mo : ∀ b o, ¬ exO ex σ env b → H b = some o → ¬ exO ex σ (env.set i (.val d)) b ∧ H b = some o := fun b o n q => ⟨fun z => n (ow' z).1, q⟩
  have rd : Rep K T (exO ex σ (env.set i (.val d))) H d (.ref a) := (ra.mono rfl mo).rep (fun z => (ow' z).2 rfl) f
  refine ⟨⟨fun _ _ q _ _ => q, fun _ q => q, fun j c' q => ?_, ?_⟩, a, ea, rd⟩
  · rcases other j _ q with ⟨_, z⟩ | ⟨_, e3⟩
    · cases z
    · exact ⟨c', e3⟩
  · refine ⟨by rw [List.length_set]; exact g.len, fun j d' q => ?_, fun j c' q => ?_, fun j k b c1 c2 q1 q2 => ?_, g.dom, g.tb⟩
    · rcases other j _ q with ⟨z, z'⟩ | ⟨_, e3⟩
      · cases z'; subst z; exact ⟨.ref a, ea, rd⟩
      · obtain ⟨v, e1, r⟩ := g.val j d' e3
        exact ⟨v, e1, r.mono mo⟩
    · rcases other j _ q with ⟨_, z⟩ | ⟨_, e3⟩
      · cases z
      · obtain ⟨b, e1, n, r⟩ := g.own j c' e3
        exact ⟨b, e1, n, r.mono rfl mo⟩
    · rcases other j _ q1 with ⟨_, z⟩ | ⟨_, e3⟩
      · cases z
      · rcases other k _ q2 with ⟨_, z⟩ | ⟨_, e4⟩
        · cases z
        · exact g.inj j k b c1 c2 e3 e4
end
section
variable {T : Tab} {X : Cx}
theorem qo_name (i : Nat) {x : Str} {pos : Pos} (hN : X.N[i]? = some x := by rfl) (hv : Vis X.env.scope x := by first | exact Or.inl rfl | exact Or.inr (Or.inl rfl) | exact Or.inr (Or.inr rfl))
    (hd : (x == ("__debug__" : Str)) = false := by decide) (hcd : (x == ("__classdict__" : Str)) = false := by decide) : QO T X (.Name x pos) (oName i) := by
  intro pn xe W tk hp
  refine impE (pe_var (X := X.tr pn xe) (i := i) hN hv hd hcd) fun σ H Q h => ?_
  obtain ⟨ex, env, g, r, e, o⟩ := h
  unfold oName at e
  cases q : env[i]? with
  | none => rw [q] at e; cases e
  | some sl =>
    rw [q] at e
    cases sl with
    | emp => cases e
    | val d =>
      cases e
      obtain ⟨v, e1, h1⟩ := g.val i d q
      exact ⟨v, e1, o v H (Step.refl g) h1⟩
    | own c =>
      cases e
      obtain ⟨a, e1, _⟩ := g.own i c q
      exact ⟨.ref a, e1, o (.ref a) H (Step.refl g) e1⟩
theorem qe_name (i : Nat) {x : Str} {pos : Pos} (hN : X.N[i]? = some x := by rfl) (hv : Vis X.env.scope x := by first | exact Or.inl rfl | exact Or.inr (Or.inl rfl) | exact Or.inr (Or.inr rfl))
    (hd : (x == ("__debug__" : Str)) = false := by decide) (hcd : (x == ("__classdict__" : Str)) = false := by decide) : QE T X (.Name x pos) (eName i) := by
  intro pn xe W tk hp
  refine impE (pe_var (X := X.tr pn xe) (i := i) hN hv hd hcd) fun σ H Q h => ?_
  obtain ⟨ex, env, g, r, e, o⟩ := h
  unfold eName at e
  cases q : env[i]? with
  | none => rw [q] at e; cases e
  | some sl =>
    rw [q] at e
    cases sl with
    | emp => cases e
    | val d =>
      cases e
      obtain ⟨v, e1, h1⟩ := g.val i d q
      exact ⟨v, e1, o v H (Step.refl g) h1⟩
    | own c =>
      dsimp only at e
      cases f : frzC c with
      | none => rw [f] at e; cases e
      | some d =>
        rw [f] at e
        cases e
        obtain ⟨s, a, e1, rd⟩ := g.freeze q f
        exact ⟨.ref a, e1, o (.ref a) H s rd⟩
/-- an expression's value, no more than read -/
def toA (f : M EV) : M AV := M.bind f fun ev => match frz ev with
  | some d => M.ret (.v d)
  | none => M.stuck
theorem qo_of {e : Expr} {f : M EV} (h : QE T X e f) : QO T X e (toA f) := by
  intro pn xe W tk hp
  refine impE (h pn xe W tk hp) fun σ H Q q => ?_
  obtain ⟨ex, env, q⟩ := q
  refine ⟨ex, env, (trx_bind (relE X.K T) rmA q).mono fun v H1 ⟨ev, env1, s, r, q⟩ => ?_⟩
  cases f : frz ev with
  | none => rw [f] at q; obtain ⟨_, _, e, _⟩ := q; cases e
  | some d =>
    rw [f] at q
    obtain ⟨g, k⟩ := trx_ret q
    obtain ⟨g0, _⟩ : Good X.K T ex σ H env ∧ True := ⟨by rename_i q0 _; exact q0.1, trivial⟩
    exact k v H1 (Step.refl g) (RepE.frz g0 s r f)
end
end Dt
end
section
set_option maxRecDepth 100000
set_option maxHeartbeats 4000000
/-! QC: constants, operators by their data, tests, displays, calls of the text's own defs. -/
namespace Dt
open PySem PySem.Spec L2
open PyProof.Rows hiding St

section
variable {T : Tab} {X : Cx} {pos : Pos}
/-! ### constants -/
def eC (d : D) : M EV := M.ret (.v d)
theorem trC {K : PySem.W.Frag} {W : WX} {σ : St} {H : Hp} {Q : VK} {d : D} {v : V} (hd : ∀ ex H, Rep K T ex H d v) (h : tr K T (relE K T) (eC d) W σ H Q) : Q v H := by
  obtain ⟨ex, env, q⟩ := h
  obtain ⟨g, k⟩ := trx_ret q
  exact k v H (Step.refl g) (hd _ _)
theorem qe_int {i : Int} {j : Nat} : QE T X (.Constant (.int i) j pos) (eC (.int i)) := fun pn xe W _ _ => impE pe_int fun σ H Q h => trC (d := .int i) (v := .int i) (fun _ _ => by exact rfl) h
theorem qe_bl {b : Bool} {j : Nat} : QE T X (.Constant (.bool b) j pos) (eC (.bl b)) := fun pn xe W _ _ => impE pe_bl fun σ H Q h => trC (d := .bl b) (v := .bl b) (fun _ _ => by exact rfl) h
theorem qe_str {x : Str} {j : Nat} (l : List Nat) (hl : mkS l = x := by decide +kernel) : QE T X (.Constant (.str x) j pos) (eC (.str l)) := fun pn xe W _ _ => impE pe_str fun σ H Q h => trC (d := .str l) (v := .str x) (fun _ _ => by show V.str x = V.str (mkS l); rw [hl]) h
end

/-! ### operators -/
def rQ (K : PySem.W.Frag) (T : Tab) (op : D → D → Option EV) : R2 := fun x y H Q => ∃ ex d1 d2 ev, (∀ a, ex a → H a ≠ none) ∧ Rd1 K T ex H d1 x ∧ Rd1 K T ex H d2 y ∧ op d1 d2 = some ev ∧ ∀ v H', Ext H H' → RepV K T ex H H' v ev → Q v H'
def opM (op : D → D → Option EV) (x y : AV) : M EV := fun env => (deref env x).bind fun d1 => (deref env y).bind fun d2 => lift (op d1 d2) env
def eOp (op : D → D → Option EV) (fa fb : M AV) : M EV := M.bind fa fun x => M.bind fb fun y => opM op x y
def toB (f : M EV) : M Bool := M.bind f fun ev => match ev with
  | .v (.bl b) => M.ret b
  | _ => M.stuck
theorem Good.dm {K : PySem.W.Frag} {T : Tab} {ex : Addr → Prop} {σ : St} {H : Hp} {env : Sl} (g : Good K T ex σ H env) : ∀ a, exO ex σ env a → H a ≠ none := fun a h q => g.fresh q h
section
variable {K : PySem.W.Frag} {T : Tab} {ex : Addr → Prop} {σ : St} {H H' : Hp} {env : Sl} {W : WX} {Q : VK}
theorem RepV.e {v : V} {ev : EV} (g : Good K T ex σ H env) (k : Ext H H') (r : RepV K T (exO ex σ env) H H' v ev) : RepE K T ex σ env H H' v ev := by
  cases ev with
  | v d => exact r
  | o c => obtain ⟨a, e, n, h⟩ := r; exact ⟨a, e, n, h, g.more n k h.there⟩
theorem opt_bind {α β : Type} {o : Option α} {f : α → Option β} {b : β} (h : o.bind f = some b) : ∃ a, o = some a ∧ f a = some b := by
  cases o with
  | none => cases h
  | some a => exact ⟨a, rfl, h⟩
theorem trx_op {op : D → D → Option EV} {x y : AV} {vx vy : V} (h : trx K T (relE K T) ex (opM op x y) env W σ H Q) (rx : RepA K T ex σ env H vx x) (ry : RepA K T ex σ env H vy y) : rQ K T op vx vy H Q := by
  obtain ⟨g, r, e, o⟩ := h
  obtain ⟨d1, e1, e⟩ := opt_bind e
  obtain ⟨d2, e2, e⟩ := opt_bind e
  cases q : op d1 d2 with
  | none => rw [q] at e; cases e
  | some ev =>
    rw [q] at e
    cases e
    exact ⟨_, d1, d2, ev, g.dm, deref_ok g rx e1, deref_ok g ry e2, q, fun v H' k r => o v H' (Step.ext g k) (r.e g k)⟩
theorem tr_op {op : D → D → Option EV} {fa fb : M AV} (h : tr K T (relE K T) (eOp op fa fb) W σ H Q) : tOp (rQ K T op) (tr K T (relA K T) fa W) (tr K T (relA K T) fb W) σ H Q := by
  obtain ⟨ex, env, h⟩ := h
  refine ⟨ex, env, (trx_bind (relA K T) rmE h).mono fun x H1 ⟨a, env1, s1, ra, h1⟩ => ⟨ex, env1, (trx_bind (relA K T) rmE h1).mono fun y H2 ⟨b, env2, s2, rb, h2⟩ => ?_⟩⟩
  exact trx_op h2 (RepA.step ra s2) rb
theorem tr_opB {op : D → D → Option EV} {fa fb : M AV} {Q : Bool → Hp → Prop} (h : tr K T relT (toB (eOp op fa fb)) W σ H Q) : tTest (tOp (rQ K T op) (tr K T (relA K T) fa W) (tr K T (relA K T) fb W)) σ H Q := by
  obtain ⟨ex, env, h⟩ := h
  refine tr_op ⟨ex, env, (trx_bind (relE K T) rmT h).mono fun x H1 ⟨ev, env1, s1, ra, h1⟩ => ?_⟩
  have stuck : ∀ {f : M Bool}, f = M.stuck → trx K T relT ex f env1 W σ H1 Q → False := fun e ⟨_, _, q, _⟩ => by rw [e] at q; cases q
  cases ev with
  | o c => exact (stuck rfl h1).elim
  | v d =>
    cases d with
    | bl b =>
      obtain ⟨g, k⟩ := trx_ret h1
      exact ⟨b, ra, k b H1 (Step.refl g) rfl⟩
    | _ => exact (stuck rfl h1).elim
end
section
variable {T : Tab} {X : Cx} {pos : Pos} {a b c : Expr} {fa fb fc : M AV}
theorem qe_op {o : Operator} {op : D → D → Option EV} (ho : ∀ pn xe, OpR (X.tr pn xe) (binaryOp o) (rQ X.K T op)) (ha : QO T X a fa) (hb : QO T X b fb) : QE T X (.BinOp a o b pos) (eOp op fa fb) :=
  fun pn xe W tk hp => impE (pe_op (ho pn xe) (ha pn xe W tk hp) (hb pn xe W tk hp)) fun σ H Q h => tr_op h
theorem qe_cmp {o : CmpOp} {op : D → D → Option EV} (ho : ∀ pn xe, OpR (X.tr pn xe) (compareOp o) (rQ X.K T op)) (ha : QO T X a fa) (hb : QO T X b fb) (hm : behindInMarks o b = false := by first | exact nomark _ (by decide) (by decide) | rfl | with_unfolding_all rfl) : QE T X (.Compare a [o] [b] pos) (eOp op fa fb) :=
  fun pn xe W tk hp => impE (pe_cmpR (ho pn xe) (ha pn xe W tk hp) (hb pn xe W tk hp) hm) fun σ H Q h => tr_op h
theorem qt_cmp {o : CmpOp} {op : D → D → Option EV} (ho : ∀ pn xe, OpR (X.tr pn xe) (compareOp o) (rQ X.K T op)) (ha : QO T X a fa) (hb : QO T X b fb) (hm : behindInMarks o b = false := by first | exact nomark _ (by decide) (by decide) | rfl | with_unfolding_all rfl) : QT T X (.Compare a [o] [b] pos) (toB (eOp op fa fb)) :=
  fun pn xe W tk hp => impT (pt_cmpR (ho pn xe) (ha pn xe W tk hp) (hb pn xe W tk hp) hm) fun σ H Q h => tr_opB h
end

/-! ### a op b op' c -/
def eChain (op op' : D → D → Option EV) (fa fb fc : M AV) : M EV := M.bind fa fun x => M.bind fb fun y => M.bind (toB (opM op x y)) fun k => if k = true then M.bind fc fun z => opM op' y z else M.ret (.v (.bl false))
section
variable {K : PySem.W.Frag} {T : Tab} {ex : Addr → Prop} {σ : St} {H H' : Hp} {env : Sl} {W : WX} {Q : VK}
theorem trx_opB {op : D → D → Option EV} {x y : AV} {vx vy : V} {R : Bool → Hp → Prop} (h : trx K T relT ex (toB (opM op x y)) env W σ H R) (rx : RepA K T ex σ env H vx x) (ry : RepA K T ex σ env H vy y) : rQ K T op vx vy H fun z H3 => ∃ k, z = .bl k ∧ R k H3 := by
  refine trx_op ((trx_bind (relE K T) rmT h).mono fun z H1 ⟨ev, env1, s1, ra, h1⟩ => ?_) rx ry
  have stuck : ∀ {f : M Bool}, f = M.stuck → trx K T relT ex f env1 W σ H1 R → False := fun e ⟨_, _, q, _⟩ => by rw [e] at q; cases q
  cases ev with
  | o c => exact (stuck rfl h1).elim
  | v d =>
    cases d with
    | bl b =>
      obtain ⟨g, k⟩ := trx_ret h1
      exact ⟨b, ra, k b H1 (Step.refl g) rfl⟩
    | _ => exact (stuck rfl h1).elim
theorem tr_chain {op op' : D → D → Option EV} {fa fb fc : M AV} (h : tr K T (relE K T) (eChain op op' fa fb fc) W σ H Q) : tChain (rQ K T op) (rQ K T op') (tr K T (relA K T) fa W) (tr K T (relA K T) fb W) (tr K T (relA K T) fc W) σ H Q := by
  obtain ⟨ex, env, h⟩ := h
  refine ⟨ex, env, (trx_bind (relA K T) rmE h).mono fun x H1 ⟨a, env1, s1, ra, h1⟩ => ⟨ex, env1, (trx_bind (relA K T) rmE h1).mono fun y H2 ⟨b, env2, s2, rb, h2⟩ => ?_⟩⟩
  have q : rQ K T op x y H2 fun z H3 => ∃ k, z = .bl k ∧ ∃ c env3, Step K T ex σ H2 env2 H3 env3 ∧ relT ex σ env3 H2 H3 k c ∧ trx K T (relE K T) ex (if c = true then M.bind fc fun z => opM op' b z else M.ret (.v (.bl false))) env3 W σ H3 Q :=
    trx_opB (trx_bind relT rmE h2) (RepA.step ra s2) rb
  have mono : ∀ {R R' : VK}, rQ K T op x y H2 R → (∀ v H', R v H' → R' v H') → rQ K T op x y H2 R' := fun ⟨ex, d1, d2, ev, p1, p2, p3, p4, p5⟩ k => ⟨ex, d1, d2, ev, p1, p2, p3, p4, fun v H' a b => k v H' (p5 v H' a b)⟩
  refine mono q fun z H3 ⟨k, ez, c, env3, s3, ec, h3⟩ => ⟨k, ez, ?_⟩
  have ec : k = c := ec
  subst ec
  cases k with
  | true =>
    rw [if_pos rfl] at h3 ⊢
    exact ⟨ex, env3, (trx_bind (relA K T) rmE h3).mono fun w H4 ⟨d, env4, s4, rd, h4⟩ => trx_op h4 (RepA.step (RepA.step rb s3) s4) rd⟩
  | false =>
    rw [if_neg Bool.false_ne_true] at h3 ⊢
    obtain ⟨g, k⟩ := trx_ret h3
    exact k _ H3 (Step.refl g) rfl
theorem tr_chainB {op op' : D → D → Option EV} {fa fb fc : M AV} {Q : Bool → Hp → Prop} (h : tr K T relT (toB (eChain op op' fa fb fc)) W σ H Q) : tTest (tChain (rQ K T op) (rQ K T op') (tr K T (relA K T) fa W) (tr K T (relA K T) fb W) (tr K T (relA K T) fc W)) σ H Q := by
  obtain ⟨ex, env, h⟩ := h
  refine tr_chain ⟨ex, env, (trx_bind (relE K T) rmT h).mono fun x H1 ⟨ev, env1, s1, ra, h1⟩ => ?_⟩
  have stuck : ∀ {f : M Bool}, f = M.stuck → trx K T relT ex f env1 W σ H1 Q → False := fun e ⟨_, _, q, _⟩ => by rw [e] at q; cases q
  cases ev with
  | o c => exact (stuck rfl h1).elim
  | v d =>
    cases d with
    | bl b =>
      obtain ⟨g, k⟩ := trx_ret h1
      exact ⟨b, ra, k b H1 (Step.refl g) rfl⟩
    | _ => exact (stuck rfl h1).elim
end
section
variable {T : Tab} {X : Cx} {pos : Pos} {a b c : Expr} {fa fb fc : M AV} {o o' : CmpOp} {op op' : D → D → Option EV}
theorem qt_chain (ho : ∀ pn xe, OpR (X.tr pn xe) (compareOp o) (rQ X.K T op)) (ho' : ∀ pn xe, OpR (X.tr pn xe) (compareOp o') (rQ X.K T op')) (ha : QO T X a fa) (hb : QO T X b fb) (hc : QO T X c fc)
    (hm : lastMarks [o, o'] [b, c] = false := by with_unfolding_all rfl) : QT T X (.Compare a [o, o'] [b, c] pos) (toB (eChain op op' fa fb fc)) :=
  fun pn xe W tk hp => impT (pt_chain (ho pn xe) (ho' pn xe) (ha pn xe W tk hp) (hb pn xe W tk hp) (hc pn xe W tk hp) hm) fun σ H Q h => tr_chainB h
end

/-! ### truth values -/
def bAnd (f g : M Bool) : M Bool := M.bind f fun c => if c = true then g else M.ret false
def bOr (f g : M Bool) : M Bool := M.bind f fun c => if c = true then M.ret true else g
def bNot (f : M Bool) : M Bool := M.bind f fun c => M.ret (!c)
def eAnd (f g : M EV) : M EV := M.bind (toB f) fun c => if c = true then g else M.ret (.v (.bl false))
def eNot (f : M EV) : M EV := M.bind (toB f) fun c => M.ret (.v (.bl (!c)))
def eIf (c : M Bool) (f g : M EV) : M EV := M.bind c fun b => if b = true then f else g
section
variable {K : PySem.W.Frag} {T : Tab} {ex : Addr → Prop} {σ : St} {H H' : Hp} {env : Sl} {W : WX}
theorem tr_toB {f : M EV} {Q : Bool → Hp → Prop} (h : tr K T relT (toB f) W σ H Q) : tr K T (relE K T) f W σ H fun x H1 => ∃ c, x = .bl c ∧ Q c H1 := by
  obtain ⟨ex, env, h⟩ := h
  refine ⟨ex, env, (trx_bind (relE K T) rmT h).mono fun x H1 ⟨ev, env1, s1, ra, h1⟩ => ?_⟩
  have stuck : ∀ {f : M Bool}, f = M.stuck → trx K T relT ex f env1 W σ H1 Q → False := fun e ⟨_, _, q, _⟩ => by rw [e] at q; cases q
  cases ev with
  | o c => exact (stuck rfl h1).elim
  | v d =>
    cases d with
    | bl b =>
      obtain ⟨g, k⟩ := trx_ret h1
      exact ⟨b, ra, k b H1 (Step.refl g) rfl⟩
    | _ => exact (stuck rfl h1).elim
theorem tr_bool {α γ : Type} {rel : Rl γ α} (hm : RM rel) {f : M Bool} {k : Bool → M α} {Q : γ → Hp → Prop} (h : tr K T rel (M.bind f k) W σ H Q) : tr K T relT f W σ H fun c H1 => tr K T rel (k c) W σ H1 Q := by
  obtain ⟨ex, env, h⟩ := h
  refine ⟨ex, env, (trx_bind relT hm h).mono fun c H1 ⟨b, env1, s1, e, h1⟩ => ?_⟩
  have e : c = b := e
  subst e
  exact ⟨ex, env1, h1⟩
theorem tr_ret {α γ : Type} {rel : Rl γ α} {a : α} {v : γ} {Q : γ → Hp → Prop} (h : tr K T rel (M.ret a) W σ H Q) (r : ∀ ex env, rel ex σ env H H v a) : Q v H := by
  obtain ⟨ex, env, h⟩ := h
  obtain ⟨g, k⟩ := trx_ret h
  exact k v H (Step.refl g) (r _ _)
end
section
variable {T : Tab} {X : Cx} {pos : Pos} {a b c : Expr} {rest : List Expr} {f g : M Bool} {fe ge : M EV}
theorem qt_val (h : QE T X a fe) (he : ∀ whole, isTrue a X.env whole = (do let v ← whole; standAt a.pos; holding [v] (truthy v)) := by intro _; rfl) : QT T X a (toB fe) :=
  fun pn xe W tk hp => impT (pt_val (h pn xe W tk hp) he) fun σ H Q q => tr_toB q
theorem qw_and1 (h : QT T X a f) : QW T X (.BoolOp .And [a] pos) f := fun pn xe W tk hp => pw_and1 (h pn xe W tk hp)
theorem qw_or1 (h : QT T X a f) : QW T X (.BoolOp .Or [a] pos) f := fun pn xe W tk hp => pw_or1 (h pn xe W tk hp)
theorem qw_and (h : QT T X a f) (k : QW T X (.BoolOp .And (b :: rest) pos) g) : QW T X (.BoolOp .And (a :: b :: rest) pos) (bAnd f g) := fun pn xe W tk hp => impW (pw_and (h pn xe W tk hp) (k pn xe W tk hp)) fun σ H Q q => by
  obtain ⟨ex, env, z⟩ := tr_bool rmT q
  refine ⟨ex, env, z.mono fun c H1 q1 => ?_⟩
  cases c with
  | true => exact q1
  | false => exact tr_ret q1 fun _ _ => rfl
theorem qw_or (h : QT T X a f) (k : QW T X (.BoolOp .Or (b :: rest) pos) g) : QW T X (.BoolOp .Or (a :: b :: rest) pos) (bOr f g) := fun pn xe W tk hp => impW (pw_or (h pn xe W tk hp) (k pn xe W tk hp)) fun σ H Q q => by
  obtain ⟨ex, env, z⟩ := tr_bool rmT q
  refine ⟨ex, env, z.mono fun c H1 q1 => ?_⟩
  cases c with
  | true => exact tr_ret q1 fun _ _ => rfl
  | false => exact q1
theorem qt_w (h : QW T X a f) : QT T X a f := fun pn xe W tk hp => (h pn xe W tk hp).pt
theorem qt_not (h : QT T X a f) : QT T X (.UnaryOp .Not a pos) (bNot f) := fun pn xe W tk hp => impT (pt_not (h pn xe W tk hp)) fun σ H Q q => by
  obtain ⟨ex, env, z⟩ := tr_bool rmT q
  exact ⟨ex, env, z.mono fun c H1 q1 => tr_ret q1 fun _ _ => rfl⟩
theorem qe_one {o : BoolOp} (h : QE T X a fe) : QE T X (.BoolOp o [a] pos) fe := fun pn xe W tk hp => pe_one (h pn xe W tk hp)
theorem qe_and (h : QE T X a fe) (k : QE T X (.BoolOp .And (b :: rest) pos) ge) : QE T X (.BoolOp .And (a :: b :: rest) pos) (eAnd fe ge) := fun pn xe W tk hp => impE (pe_and (h pn xe W tk hp) (k pn xe W tk hp)) fun σ H Q q => by
  obtain ⟨ex, env, z⟩ := tr_toB (tr_bool rmE q)
  refine ⟨ex, env, z.mono fun x H1 ⟨c, e, q1⟩ => ⟨c, e, ?_⟩⟩
  cases c with
  | true => exact q1
  | false => exact tr_ret q1 fun _ _ => rfl
theorem qe_if (h : QT T X c f) (ha : QE T X a fe) (hb : QE T X b ge) : QE T X (.IfExp c a b pos) (eIf f fe ge) := fun pn xe W tk hp => impE (pe_ifExp (h pn xe W tk hp) (ha pn xe W tk hp) (hb pn xe W tk hp)) fun σ H Q q => by
  obtain ⟨ex, env, z⟩ := tr_bool rmE q
  refine ⟨ex, env, z.mono fun c H1 q1 => ?_⟩
  cases c with
  | true => exact q1
  | false => exact q1
end

/-! ### lists of arguments -/
def asNil : M (List AV) := M.ret []
def asCons (f : M AV) (g : M (List AV)) : M (List AV) := M.bind f fun a => M.bind g fun as => M.ret (a :: as)
def vals : List AV → Option (List D)
  | [] => some []
  | .v d :: r => (vals r).map (d :: ·)
  | .s _ :: _ => none
def eTup (g : M (List AV)) : M EV := M.bind g fun as => match vals as with
  | some ds => if ds.length ≤ 4000 then M.ret (.v (.tup ds)) else M.stuck
  | none => M.stuck
def eLst (g : M (List AV)) : M EV := M.bind g fun as => match vals as with
  | some ds => if ds.length ≤ 4000 then M.ret (.o (.lst ds)) else M.stuck
  | none => M.stuck
section
variable {K : PySem.W.Frag} {T : Tab} {ex : Addr → Prop} {σ : St} {H H' : Hp} {env : Sl} {W : WX}
theorem small4000 {n : Nat} (h : n ≤ 4000) : n ≤ sizeLine := by rw [sizeLine_eq]; omega
theorem vals_rep : ∀ {as : List AV} {ds : List D} {vs : List V}, Paired (fun a v => RepA K T ex σ env H v a) as vs → vals as = some ds → RepL K T (exO ex σ env) H ds vs
  | [], _, _, h, e => by cases h; cases e; exact .nil
  | .v d :: r, ds, _, h, e => by
    cases h with
    | cons h1 h2 =>
      unfold vals at e
      cases q : vals r with
      | none => rw [q] at e; cases e
      | some es => rw [q] at e; cases e; exact .cons h1 (vals_rep h2 q)
  | .s i :: r, ds, _, h, e => by cases e
theorem tr_tup {g : M (List AV)} {Q : VK} (h : tr K T (relE K T) (eTup g) W σ H Q) : tTup (tr K T (relAs K T) g W) σ H Q := by
  obtain ⟨ex, env, h⟩ := h
  refine ⟨ex, env, (trx_bind (relAs K T) rmE h).mono fun vs H1 ⟨as, env1, s1, ra, h1⟩ => ?_⟩
  cases q : vals as with
  | none => rw [q] at h1; obtain ⟨_, _, e, _⟩ := h1; cases e
  | some ds =>
    rw [q] at h1
    by_cases hl : ds.length ≤ 4000
    · dsimp only at h1
      rw [if_pos hl] at h1
      obtain ⟨g1, k⟩ := trx_ret h1
      have rl := vals_rep ra q
      refine ⟨by rw [← rl.length]; exact small4000 hl, fun p hp => ?_⟩
      have ext : Ext H1 (upd H1 p (.tup vs)) := fun b o e => by rw [upd_ne (ne_of_none e hp)]; exact e
      refine k _ _ (Step.ext g1 ext) ?_
      exact ⟨p, vs, rfl, g1.fresh hp, upd_same, rl.mono fun b o n e => ⟨n, ext b o e⟩⟩
    · dsimp only at h1
      rw [if_neg hl] at h1
      obtain ⟨_, _, e, _⟩ := h1; cases e
theorem rep_newL {ds : List D} {vs : List V} {ex : Addr → Prop} {p : Addr} (hp : H p = none) (rl : RepL K T ex H ds vs) : RepO K T (fun b => ex b ∨ b = p) (upd H p (.lst vs)) p (.lst ds) :=
  ⟨vs, upd_same, rl.mono fun b o n e => ⟨fun z => z.elim n fun z => ne_of_none e hp z, by rw [upd_ne (ne_of_none e hp)]; exact e⟩⟩
theorem ext_new {o : HO} {p : Addr} (hp : H p = none) : Ext H (upd H p o) := fun b o e => by rw [upd_ne (ne_of_none e hp)]; exact e
theorem tr_lst {g : M (List AV)} {Q : VK} (h : tr K T (relE K T) (eLst g) W σ H Q) : tLst (tr K T (relAs K T) g W) σ H Q := by
  obtain ⟨ex, env, h⟩ := h
  refine ⟨ex, env, (trx_bind (relAs K T) rmE h).mono fun vs H1 ⟨as, env1, s1, ra, h1⟩ => ?_⟩
  cases q : vals as with
  | none => rw [q] at h1; obtain ⟨_, _, e, _⟩ := h1; cases e
  | some ds =>
    rw [q] at h1
    by_cases hl : ds.length ≤ 4000
    · dsimp only at h1
      rw [if_pos hl] at h1
      obtain ⟨g1, k⟩ := trx_ret h1
      have rl := vals_rep ra q
      refine ⟨by rw [← rl.length]; exact small4000 hl, fun p hp => ?_⟩
      exact k _ _ (Step.ext g1 (ext_new hp)) ⟨p, rfl, hp, rep_newL hp rl, g1.more hp (ext_new hp) (by rw [upd_same]; exact fun z => nomatch z)⟩
    · dsimp only at h1
      rw [if_neg hl] at h1
      obtain ⟨_, _, e, _⟩ := h1; cases e
end
section
variable {T : Tab} {X : Cx} {pos : Pos} {e : Expr} {es : List Expr} {f : M AV} {g : M (List AV)}
theorem qas_nil : QAs T X [] asNil := fun pn xe W tk hp => impA pa_nil fun σ H Q q => tr_ret q fun _ _ => .nil
theorem qas_cons (h : QO T X e f) (k : QAs T X es g) (hs : starEach (e :: es) X.env = (false, eval e X.env) :: starEach es X.env := by rfl) : QAs T X (e :: es) (asCons f g) := fun pn xe W tk hp => impA (pa_cons (h pn xe W tk hp) (k pn xe W tk hp) hs) fun σ H Q q => by
  obtain ⟨ex, env, q⟩ := q
  refine ⟨ex, env, (trx_bind (relA X.K T) rmAs q).mono fun v H1 ⟨a, env1, s1, ra, h1⟩ => ⟨ex, env1, (trx_bind (relAs X.K T) rmAs h1).mono fun vs H2 ⟨as, env2, s2, rs, h2⟩ => ?_⟩⟩
  obtain ⟨g2, z⟩ := trx_ret h2
  exact z (v :: vs) H2 (Step.refl g2) (.cons (RepA.step ra s2) rs)
theorem qe_tup {x1} (h : QAs T X es g) : QE T X (.Tuple es x1 pos) (eTup g) := fun pn xe W tk hp => impE (pe_tup (h pn xe W tk hp)) fun σ H Q q => tr_tup q
theorem qe_lst (h : QAs T X es g) : QE T X (.List es pos) (eLst g) := fun pn xe W tk hp => impE (pe_lst (h pn xe W tk hp)) fun σ H Q q => tr_lst q
end
end Dt
end
section
set_option maxRecDepth 100000
set_option maxHeartbeats 4000000
/-! QD: calls of the text's own defs: what a slot owns is lent. -/
namespace Dt
variable {NG : Prop}
open PySem PySem.Spec L2
open PyProof.Rows hiding St

def argS : Option Slot → Option Slot
  | some (.val d) => some (.val d)
  | some (.own c) => some (.own c)
  | _ => none
def argOf (env : Sl) : AV → Option Slot
  | .v d => some (.val d)
  | .s i => argS env[i]?
def argsOf (env : Sl) : List AV → Option Sl
  | [] => some []
  | a :: r => (argOf env a).bind fun s => (argsOf env r).map (s :: ·)
def sidx : List AV → List Nat
  | [] => []
  | .v _ :: r => sidx r
  | .s i :: r => i :: sidx r
def isOwn : Option Slot → Bool
  | some (.own _) => true
  | _ => false
def put1 (env : Sl) (i : Nat) (o : Slot) : Sl := if isOwn env[i]? = true then env.set i o else env
def back (env : Sl) : List AV → Sl → Sl
  | .s i :: r, o :: os => back (put1 env i o) r os
  | .v _ :: r, _ :: os => back env r os
  | _, _ => env
def callM (g : M EV) (as : List AV) : M EV := fun env =>
  if (sidx as).Nodup then (argsOf env as).bind fun sl => match g sl with
    | some (.ok ev outs) => some (.ok ev (back env as outs))
    | some (.exc x outs) => some (.exc x (back env as outs))
    | none => none
  else none
def eCall (g : M EV) (fs : M (List AV)) : M EV := M.bind fs fun as => callM g as

theorem put1_get (env : Sl) (i k : Nat) (o : Slot) : (put1 env i o)[k]? = if k = i ∧ isOwn env[i]? = true then some o else env[k]? := by
  unfold put1
  by_cases h : isOwn env[i]? = true
  · rw [if_pos h]
    have hi : i < env.length := by
      rcases Nat.lt_or_ge i env.length with q | q
      · exact q
      · rw [List.getElem?_eq_none q] at h; cases h
    by_cases e : k = i
    · subst e; rw [List.getElem?_set_self hi, if_pos ⟨rfl, h⟩]
    · rw [List.getElem?_set_ne (Ne.symm e), if_neg fun z => e z.1]
  · rw [if_neg h, if_neg fun z => h z.2]
theorem mem_sidx : ∀ {as : List AV} {j k : Nat}, as[j]? = some (.s k) → k ∈ sidx as
  | [], j, k, h => by simp at h
  | .v d :: r, 0, k, h => by simp at h
  | .v d :: r, j + 1, k, h => by simp at h; exact mem_sidx (as := r) h
  | .s i :: r, 0, k, h => by simp at h; subst h; simp [sidx]
  | .s i :: r, j + 1, k, h => by simp at h; exact List.mem_cons_of_mem _ (mem_sidx (as := r) h)
theorem back_get : ∀ {as : List AV} {env outs : Sl}, (sidx as).Nodup → outs.length = as.length →
    (∀ k : Nat, k ∉ sidx as → (back env as outs)[k]? = env[k]?) ∧ ∀ j k : Nat, as[j]? = some (AV.s k) → (back env as outs)[k]? = if isOwn env[k]? = true then outs[j]? else env[k]?
  | [], env, outs, _, _ => by
    refine ⟨fun k _ => ?_, fun j k h => by simp at h⟩
    cases outs <;> rfl
  | .v d :: r, env, [], _, hl => by simp at hl
  | .v d :: r, env, o :: os, hn, hl => by
    obtain ⟨h1, h2⟩ := back_get (as := r) (env := env) (outs := os) hn (by simpa using hl)
    refine ⟨fun k hk => h1 k hk, fun j k h => ?_⟩
    cases j with
    | zero => simp at h
    | succ j => simp at h; simpa [back] using h2 j k h
  | .s i :: r, env, [], _, hl => by simp at hl
  | .s i :: r, env, o :: os, hn, hl => by
    have hn' : i ∉ sidx r ∧ (sidx r).Nodup := by simpa [sidx] using hn
    obtain ⟨h1, h2⟩ := back_get (as := r) (env := put1 env i o) (outs := os) hn'.2 (by simpa using hl)
    refine ⟨fun k hk => ?_, fun j k h => ?_⟩
    · have hk' : k ≠ i ∧ k ∉ sidx r := by simpa [sidx] using hk
      show (back (put1 env i o) r os)[k]? = _
      rw [h1 k hk'.2, put1_get, if_neg fun z => hk'.1 z.1]
    · cases j with
      | zero =>
        simp at h; subst h
        show (back (put1 env i o) r os)[i]? = _
        rw [h1 i hn'.1, put1_get]
        by_cases q : isOwn env[i]? = true
        · rw [if_pos ⟨rfl, q⟩, if_pos q] <;> simp
        · rw [if_neg fun z => q z.2, if_neg q]
      | succ j =>
        simp at h
        have hki : k ≠ i := fun z => hn'.1 (z ▸ mem_sidx h)
        show (back (put1 env i o) r os)[k]? = _
        have pk : (put1 env i o)[k]? = env[k]? := by rw [put1_get, if_neg fun z => hki z.1]
        rw [h2 j k h, pk] <;> simp
theorem back_len : ∀ {as : List AV} {env outs : Sl}, (back env as outs).length = env.length
  | [], env, outs => by cases outs <;> rfl
  | .v d :: r, env, [] => rfl
  | .v d :: r, env, o :: os => back_len (as := r) (env := env) (outs := os)
  | .s i :: r, env, [] => rfl
  | .s i :: r, env, o :: os => by
    show (back (put1 env i o) r os).length = _
    rw [back_len (as := r)]
    unfold put1
    split
    · rw [List.length_set]
    · rfl
theorem args_get : ∀ {as : List AV} {env sl : Sl}, argsOf env as = some sl → sl.length = as.length ∧ ∀ (j : Nat) (a : AV), as[j]? = some a → ∃ s, sl[j]? = some s ∧ argOf env a = some s
  | [], env, sl, h => by cases h; exact ⟨rfl, fun j a e => by simp at e⟩
  | a :: r, env, sl, h => by
    obtain ⟨s, e1, h⟩ := opt_bind h
    cases q : argsOf env r with
    | none => rw [q] at h; cases h
    | some sr =>
      rw [q] at h
      cases h
      obtain ⟨hl, h2⟩ := args_get q
      refine ⟨by simp [hl], fun j b e => ?_⟩
      cases j with
      | zero => simp at e; subst e; exact ⟨s, by simp, e1⟩
      | succ j => simp at e; simpa using h2 j b e

section
variable {K : PySem.W.Frag} {T : Tab} {ex : Addr → Prop} {σ : St} {H H' : Hp} {env sl outs : Sl} {as : List AV} {vs : List V}
/-- what of the caller's is not lent -/
def exC (ex : Addr → Prop) (σ : St) (env : Sl) (vs : List V) (sl : Sl) : Addr → Prop := fun a => exO ex σ env a ∧ ¬ Owns (vs.map some) sl a
theorem paired_len {α β : Type} {F : α → β → Prop} : ∀ {l : List α} {m : List β}, Paired F l m → l.length = m.length
  | _, _, .nil => rfl
  | _, _, .cons _ t => by simp [paired_len t]
theorem vmap {v : Option V} {j : Nat} (h : (vs.map some)[j]? = some v) : ∃ u, v = some u ∧ vs[j]? = some u := by
  rw [List.getElem?_map] at h
  cases q : vs[j]? with
  | none => rw [q] at h; cases h
  | some u => rw [q] at h; cases h; exact ⟨u, rfl, rfl⟩
theorem vmap' {u : V} {j : Nat} (h : vs[j]? = some u) : (vs.map some)[j]? = some (some u) := by rw [List.getElem?_map, h]; rfl
/-- an argument that owns comes from a slot that does -/
theorem lent (hp : Paired (fun a v => RepA K T ex σ env H v a) as vs) (ha : argsOf env as = some sl) {j : Nat} {c : OC} (e : sl[j]? = some (.own c)) :
    ∃ i u, as[j]? = some (.s i) ∧ env[i]? = some (.own c) ∧ vs[j]? = some u ∧ σ[i]? = some (some u) := by
  obtain ⟨hl, hg⟩ := args_get ha
  have hj : j < as.length := by rw [← hl]; exact (List.getElem?_eq_some_iff.mp e).1
  obtain ⟨s, e1, e2⟩ := hg j _ (List.getElem?_eq_getElem hj)
  rw [e] at e1; cases e1
  obtain ⟨u, e3, r⟩ := paired_get hp (List.getElem?_eq_getElem hj)
  cases q : as[j] with
  | v d => rw [q] at e2; cases e2
  | s i =>
    rw [q] at e2 r
    refine ⟨i, u, by rw [List.getElem?_eq_getElem hj, q], ?_, e3, r⟩
    have e2 : argS env[i]? = some (.own c) := e2
    cases w : env[i]? with
    | none => rw [w] at e2; cases e2
    | some s => rw [w] at e2; cases s <;> cases e2; rfl
theorem lent_owns (hp : Paired (fun a v => RepA K T ex σ env H v a) as vs) (ha : argsOf env as = some sl) {a : Addr} (h : Owns (vs.map some) sl a) : Owns σ env a := by
  obtain ⟨j, c, e1, e2⟩ := h
  obtain ⟨i, u, _, e4, e5, e6⟩ := lent hp ha e1
  obtain ⟨u', eu, e7⟩ := vmap e2
  cases eu
  rw [e5] at e7; cases e7
  exact ⟨i, c, e4, e6⟩
theorem exC_exO (hp : Paired (fun a v => RepA K T ex σ env H v a) as vs) (ha : argsOf env as = some sl) (a : Addr) : exO (exC ex σ env vs sl) (vs.map some) sl a ↔ exO ex σ env a := by
  constructor
  · rintro (h | h)
    · exact h.1
    · exact .inr (lent_owns hp ha h)
  · intro h
    by_cases q : Owns (vs.map some) sl a
    · exact .inr q
    · exact .inl ⟨h, q⟩
theorem exC_eq (hp : Paired (fun a v => RepA K T ex σ env H v a) as vs) (ha : argsOf env as = some sl) : exO (exC ex σ env vs sl) (vs.map some) sl = exO ex σ env := funext fun a => propext (exC_exO hp ha a)
theorem call_good (g : Good K T ex σ H env) (hn : (sidx as).Nodup) (hp : Paired (fun a v => RepA K T ex σ env H v a) as vs) (ha : argsOf env as = some sl) : Good K T (exC ex σ env vs sl) (vs.map some) H sl := by
  obtain ⟨hl, hg⟩ := args_get ha
  have hlv := paired_len hp
  refine ⟨by rw [List.length_map, hl, hlv], fun j d e => ?_, fun j c e => ?_, fun i j a c c' e1 e2 e3 e4 => ?_, fun a h => g.dm a h.1, g.tb⟩
  · rw [exC_eq hp ha]
    have hj : j < as.length := by rw [← hl]; exact (List.getElem?_eq_some_iff.mp e).1
    obtain ⟨s, e1, e2⟩ := hg j _ (List.getElem?_eq_getElem hj)
    rw [e] at e1; cases e1
    obtain ⟨u, e3, r⟩ := paired_get hp (List.getElem?_eq_getElem hj)
    refine ⟨u, vmap' e3, ?_⟩
    cases q : as[j] with
    | v d' => rw [q] at e2 r; cases e2; exact r
    | s i =>
      rw [q] at e2 r
      have e2 : argS env[i]? = some (.val d) := e2
      have r : σ[i]? = some (some u) := r
      cases w : env[i]? with
      | none => rw [w] at e2; cases e2
      | some s =>
        rw [w] at e2
        cases s with
        | emp => cases e2
        | own c => cases e2
        | val d' =>
          cases e2
          obtain ⟨u', e5, r'⟩ := g.val i d w
          rw [r] at e5; cases e5
          exact r'
  · rw [exC_eq hp ha]
    obtain ⟨i, u, _, e4, e5, e6⟩ := lent hp ha e
    obtain ⟨a, e7, n, r⟩ := g.own i c e4
    rw [e6] at e7; cases e7
    exact ⟨a, vmap' e5, fun z => z.2 ⟨j, c, e, vmap' e5⟩, r⟩
  · obtain ⟨i1, u1, a1, b1, c1, d1⟩ := lent hp ha e1
    obtain ⟨i2, u2, a2, b2, c2, d2⟩ := lent hp ha e2
    obtain ⟨w1, x1, y1⟩ := vmap e3
    obtain ⟨w2, x2, y2⟩ := vmap e4
    cases x1; cases x2
    rw [c1] at y1; cases y1
    rw [c2] at y2; cases y2
    have := g.inj i1 i2 a c c' b1 b2 d1 d2
    subst this
    -- equal slots stand at one place
    have uniq : ∀ {as : List AV} {i j k : Nat}, (sidx as).Nodup → as[i]? = some (.s k) → as[j]? = some (.s k) → i = j := by
      intro as
      induction as with
      | nil => intro i j k _ h; simp at h
      | cons a r ih =>
        intro i j k hn h1 h2
        cases a with
        | v d =>
          cases i with
          | zero => simp at h1
          | succ i => cases j with
            | zero => simp at h2
            | succ j => simp at h1 h2; rw [ih (i := i) (j := j) hn h1 h2]
        | s m =>
          have hn' : m ∉ sidx r ∧ (sidx r).Nodup := by simpa [sidx] using hn
          cases i with
          | zero => cases j with
            | zero => rfl
            | succ j => simp at h1 h2; subst h1; exact absurd (mem_sidx h2) hn'.1
          | succ i => cases j with
            | zero => simp at h1 h2; subst h2; exact absurd (mem_sidx h1) hn'.1
            | succ j => simp at h1 h2; rw [ih (i := i) (j := j) hn'.2 h1 h2]
    exact uniq hn a1 a2
/-- behind the call -/
theorem call_step (g : Good K T ex σ H env) (hn : (sidx as).Nodup) (hp : Paired (fun a v => RepA K T ex σ env H v a) as vs) (ha : argsOf env as = some sl)
    (s : Step K T (exC ex σ env vs sl) (vs.map some) H sl H' outs) : Step K T ex σ H env H' (back env as outs) ∧ (∀ a, exO ex σ (back env as outs) a → exO (exC ex σ env vs sl) (vs.map some) outs a) ∧
      ∀ x, H x = none → Good K T (fun b => exC ex σ env vs sl b ∨ b = x) (vs.map some) H' outs → Good K T (fun b => ex b ∨ b = x) σ H' (back env as outs) := by
  obtain ⟨hl, hg⟩ := args_get ha
  have hlv := paired_len hp
  have hlo : outs.length = as.length := by rw [s.gd.len, List.length_map, hlv]
  obtain ⟨b1, b2⟩ := back_get (env := env) hn hlo
  have lo : ∀ {a}, Owns (vs.map some) sl a → Owns σ env a := fun h => lent_owns hp ha h
  -- each slot behind: as it was, or one that was lent
  have cs : ∀ k : Nat, ((back env as outs)[k]? = env[k]? ∧ (∀ (j : Nat) (c : OC), as[j]? = some (AV.s k) → env[k]? ≠ some (Slot.own c))) ∨ ∃ (j : Nat) (c : OC), as[j]? = some (AV.s k) ∧ env[k]? = some (Slot.own c) ∧ (back env as outs)[k]? = outs[j]? := fun k => by
    by_cases hk : ∃ j : Nat, as[j]? = some (.s k)
    · obtain ⟨j, hj⟩ := hk
      have q := b2 j k hj
      by_cases o : isOwn env[k]? = true
      · rw [if_pos o] at q
        cases w : env[k]? with
        | none => rw [w] at o; cases o
        | some sl' => rw [w] at o; cases sl' <;> first | exact .inr ⟨j, _, hj, rfl, q⟩ | cases o
      · rw [if_neg o] at q
        exact .inl ⟨q, fun j c _ e => o (by rw [e]; rfl)⟩
    · refine .inl ⟨b1 k fun hm => ?_, fun j c e => absurd ⟨j, e⟩ hk⟩
      refine hk ?_
      clear b1 b2 hlo hlv hl hg lo s ha hp hn
      induction as with
      | nil => simp [sidx] at hm
      | cons a r ih =>
        cases a with
        | v d => obtain ⟨j, e⟩ := ih (fun ⟨j, e⟩ => hk ⟨j + 1, by simpa using e⟩) hm; exact ⟨j + 1, by simpa using e⟩
        | s i =>
          rcases List.mem_cons.mp hm with e | e
          · subst e; exact ⟨0, by simp⟩
          · obtain ⟨j, e⟩ := ih (fun ⟨j, e⟩ => hk ⟨j + 1, by simpa using e⟩) e; exact ⟨j + 1, by simpa using e⟩
  have vj : ∀ {j k : Nat} {u : V}, as[j]? = some (AV.s k) → σ[k]? = some (some u) → vs[j]? = some u := fun {j k u} e1 e2 => by
    obtain ⟨w, e3, r⟩ := paired_get hp e1
    have r : σ[k]? = some (some w) := r
    rw [e2] at r; cases r
    exact e3
  -- what is owned behind was owned ahead
  have own2 : ∀ (k : Nat) (c : OC), (back env as outs)[k]? = some (Slot.own c) → ∃ c', env[k]? = some (Slot.own c') := fun k c e => by
    rcases cs k with ⟨q, _⟩ | ⟨j, c', _, q, _⟩
    · exact ⟨c, by rw [← q]; exact e⟩
    · exact ⟨c', q⟩
  have ow : ∀ {a}, Owns σ (back env as outs) a → Owns σ env a := fun {a} ⟨k, c, e1, e2⟩ => let ⟨c', e3⟩ := own2 k c e1; ⟨k, c', e3, e2⟩
  have exb : ∀ a, exO ex σ (back env as outs) a → exO (exC ex σ env vs sl) (vs.map some) outs a := fun a h => by
    rcases h with h | ⟨k, c, e1, e2⟩
    · refine .inl ⟨.inl h, fun q => ?_⟩
      exact (g.owned (lo q)).2 h
    · rcases cs k with ⟨q, nq⟩ | ⟨j, c', e3, e4, q⟩
      · rw [q] at e1
        refine .inl ⟨.inr ⟨k, c, e1, e2⟩, fun ⟨j, c', e5, e6⟩ => ?_⟩
        obtain ⟨i, u, e7, e8, e9, e10⟩ := lent hp ha e5
        obtain ⟨u', x1, x2⟩ := vmap e6
        cases x1
        rw [e9] at x2; cases x2
        have := g.inj i k a c' c e8 e1 e10 e2
        subst this
        exact nq j c' e7 e8
      · rw [q] at e1
        exact .inr ⟨j, c, e1, vmap' (vj e3 e2)⟩
  -- the slots behind, P: what besides is not to be met
  have gen : ∀ P : Addr → Prop, (∀ x, P x → H x = none) → (∀ x, P x → H' x ≠ none) → Good K T (fun b => exC ex σ env vs sl b ∨ P b) (vs.map some) H' outs → Good K T (fun b => ex b ∨ P b) σ H' (back env as outs) := fun P hP hP' gd => by
    have exP : ∀ a, exO (fun b => ex b ∨ P b) σ (back env as outs) a → exO ex σ env a ∨ P a := fun a h => by
      rcases h with (h | h) | h
      · exact .inl (.inl h)
      · exact .inr h
      · exact .inl (.inr (ow h))
    have mo : ∀ a o, ¬ exO ex σ env a → H a = some o → ¬ exO (fun b => ex b ∨ P b) σ (back env as outs) a ∧ (NT o → H' a = some o) := fun a o n e =>
      ⟨fun z => (exP a z).elim n fun z => (by rw [hP a z] at e; exact nomatch e), s.fr a o e fun z => n (.inr (lo z))⟩
    have mo2 : ∀ a o, ¬ exO (fun b => exC ex σ env vs sl b ∨ P b) (vs.map some) outs a → H' a = some o → ¬ exO (fun b => ex b ∨ P b) σ (back env as outs) a ∧ H' a = some o := fun a o n e => by
      refine ⟨fun z => n ?_, e⟩
      rcases z with (z | z) | z
      · exact (exb a (.inl z)).imp .inl id
      · exact .inl (.inr z)
      · exact (exb a (.inr z)).imp .inl id
    refine ⟨by rw [back_len]; exact g.len, fun k d e => ?_, fun k c e => ?_, fun i j a c c' e1 e2 e3 e4 => ?_, fun a h => ?_, gd.tb⟩
    · rcases cs k with ⟨q, nq⟩ | ⟨j, c', e3, e4, q⟩
      · rw [q] at e
        obtain ⟨v, e1, r⟩ := g.val k d e
        exact ⟨v, e1, r.monoT mo⟩
      · rw [q] at e
        obtain ⟨v, e1, r⟩ := gd.val j d e
        obtain ⟨u, x1, x2⟩ := vmap e1
        cases x1
        obtain ⟨a, e5, _, _⟩ := g.own k c' e4
        have := vj e3 e5
        rw [x2] at this; cases this
        exact ⟨_, e5, r.mono mo2⟩
    · rcases cs k with ⟨q, nq⟩ | ⟨j, c', e3, e4, q⟩
      · rw [q] at e
        obtain ⟨a, e1, n, r⟩ := g.own k c e
        refine ⟨a, e1, fun z => z.elim n fun z => r.there (hP a z), r.monoT ?_ mo⟩
        cases w : H a with
        | none => exact absurd w r.there
        | some o =>
          refine s.fr a o w (fun ⟨j, c', e5, e6⟩ => ?_) (r.nt w)
          obtain ⟨i, u, e7, e8, e9, e10⟩ := lent hp ha e5
          obtain ⟨u', x1, x2⟩ := vmap e6
          cases x1
          rw [e9] at x2; cases x2
          have := g.inj i k a c' c e8 e e10 e1
          subst this
          exact nq j c' e7 e8
      · rw [q] at e
        obtain ⟨a, e1, n, r⟩ := gd.own j c e
        obtain ⟨u, x1, x2⟩ := vmap e1
        cases x1
        obtain ⟨a', e5, n', r'⟩ := g.own k c' e4
        have := vj e3 e5
        rw [x2] at this; cases this
        exact ⟨a, e5, fun z => z.elim n' fun z => n (.inr z), r.mono rfl mo2⟩
    · obtain ⟨c1, f1⟩ := own2 i c e1
      obtain ⟨c2, f2⟩ := own2 j c' e2
      exact g.inj i j a c1 c2 f1 f2 e3 e4
    · rcases h with h | h
      · exact s.dm a (g.dom a h)
      · exact hP' a h
  have e0 : ∀ ex : Addr → Prop, (fun b => ex b ∨ (fun _ : Addr => False) b) = ex := fun ex => funext fun b => propext ⟨fun h => h.elim id False.elim, .inl⟩
  have g1 : Good K T ex σ H' (back env as outs) := by
    have q := gen (fun _ => False) (fun _ z => z.elim) (fun _ z => z.elim) (by rw [e0]; exact s.gd)
    rw [e0] at q
    exact q
  exact ⟨⟨fun b o e n => s.fr b o e fun z => n (lo z), s.dm, own2, g1⟩, exb, fun x hx gx => gen (fun b => b = x) (fun y e => by subst e; exact hx) (fun y e => by subst e; exact gx.dom y (.inr rfl)) gx⟩
end

/-! ### promises of defs -/
def spD (K : PySem.W.Frag) (T : Tab) (g : M EV) : Sp := fun vs H Q E => tr K T (relE K T) g (fun c d _ H' => E c d H') (vs.map some) H Q
section
variable {K : PySem.W.Frag} {T : Tab} {ex : Addr → Prop} {σ : St} {H H' : Hp} {env : Sl} {W : WX} {Q : VK}
theorem trx_call {g : M EV} {as : List AV} {vs : List V} (h : trx K T (relE K T) ex (callM g as) env W σ H Q) (hp : Paired (fun a v => RepA K T ex σ env H v a) as vs) : spD K T g vs H Q fun c d H' => W c d σ H' := by
  obtain ⟨gd, r, e, o⟩ := h
  unfold callM at e
  by_cases hn : (sidx as).Nodup
  · rw [if_pos hn] at e
    obtain ⟨sl, ha, e⟩ := opt_bind e
    refine ⟨exC ex σ env vs sl, sl, call_good gd hn hp ha, ?_⟩
    cases q : g sl with
    | none => rw [q] at e; cases e
    | some rg =>
      rw [q] at e
      refine ⟨rg, rfl, ?_⟩
      cases rg with
      | ok ev outs =>
        cases e
        intro v H' s rv
        obtain ⟨s', exb, gm⟩ := call_step gd hn hp ha s
        have mo2 : ∀ a o, ¬ exO (exC ex σ env vs sl) (vs.map some) outs a → H' a = some o → ¬ exO ex σ (back env as outs) a ∧ H' a = some o := fun a o n e => ⟨fun z => n (exb a z), e⟩
        refine o v H' s' ?_
        cases ev with
        | v d => exact Rep.mono mo2 rv
        | o c =>
          obtain ⟨a, e1, n, r, gx⟩ := rv
          exact ⟨a, e1, n, r.mono rfl fun b o nb e => ⟨fun z => nb (z.imp (exb b) id), e⟩, gm a n gx⟩
      | exc x outs =>
        cases e
        intro cls dd H' s rx
        obtain ⟨s', exb, gm⟩ := call_step gd hn hp ha s
        refine o cls dd H' s' ⟨rx.1, rx.2.imp id ?_⟩
        rintro ⟨a, ws, e1, e2, l, r⟩
        exact ⟨a, ws, e1, e2, l, r.mono fun a o n e => ⟨fun z => n (exb a z), e⟩⟩
  · rw [if_neg hn] at e; cases e
theorem tr_call {g : M EV} {fs : M (List AV)} (h : tr K T (relE K T) (eCall g fs) W σ H Q) : tr K T (relAs K T) fs W σ H fun vs H1 => spD K T g vs H1 Q fun c d H' => W c d σ H' := by
  obtain ⟨ex, env, h⟩ := h
  exact ⟨ex, env, (trx_bind (relAs K T) rmE h).mono fun vs H1 ⟨as, env1, s1, ra, h1⟩ => trx_call h1 ra⟩
end
/-- room for calls, and no display under way -/
structure RG (NG : Prop) (k : Nat) (A : Around) : Prop where
  r : Room k A
  g : A.guards = some [] ∨ NG
theorem RG.mono {j k : Nat} {A : Around} (h : RG NG k A) (l : j ≤ k) : RG NG j A := ⟨h.r.mono l, h.g⟩
theorem RG.deeper {k : Nat} {A : Around} (h : RG NG (k + 1) A) (env : Env) : RG NG k (A.deeper env) := ⟨h.r.deeper env, h.g⟩
theorem RG.in1 {k : Nat} {A : Around} (h : RG NG (k + 1) A) : RG NG k A.in1 := ⟨h.r.in1, h.g⟩
theorem RG.make {k : Nat} {A : Around} (h : RG NG (k + 1) A) (C : Addr) (us : List Value) : RG NG k (A.under (.builtin "type.__call__" ⟨.ref C :: us, []⟩)) := ⟨h.r.make C us [], h.g.imp (fun hg => by
  have e : (Code.builtin "type.__call__" ⟨.ref C :: us, []⟩).isGuard = false := by
    show guardIds.contains "type.__call__" = false
    decide +kernel
  simp [Around.under, Code.guards, e, pushGuards, hg]) id⟩
/-- a promise by positional values -/
def FnG (NG : Prop) (P : Program) (w : World) (K : PySem.W.Frag) (mg : Str → Option Value) (base : Heap) (k : Nat) (f : Addr) (sp : Sp) : Prop :=
  ∀ (A : Around) (outer : List Env) (s : Shared) (H : Hp) (us : List Value) (vs : List V) (Q : VK) (E : XK), RG NG k A → Env0 P w K mg base A outer s H → Vals vs us → sp vs H Q E →
    codeAny (model P w) A (.call (.ref f) ⟨us, []⟩) (CR (L2.CX P w) outer P w H s Q E) s
theorem FnG.mono {P : Program} {w : World} {K : PySem.W.Frag} {mg : Str → Option Value} {base : Heap} {j k : Nat} {f : Addr} {sp : Sp} (F : FnG NG P w K mg base j f sp) (h : j ≤ k) : FnG NG P w K mg base k f sp := fun A outer s H us vs Q E hr => F A outer s H us vs Q E (hr.mono h)
theorem FnG.imp {P : Program} {w : World} {K : PySem.W.Frag} {mg : Str → Option Value} {base : Heap} {k : Nat} {f : Addr} {sp sp' : Sp} (F : FnG NG P w K mg base k f sp) (h : ∀ vs H Q E, sp' vs H Q E → sp vs H Q E) : FnG NG P w K mg base k f sp' := fun A outer s H us vs Q E hr e0 r hs => F A outer s H us vs Q E hr e0 r (h _ _ _ _ hs)
/-- a def whose promise is g -/
def FnQ (NG : Prop) (T : Tab) (X : Cx) (k : Nat) (f : Addr) (g : M EV) : Prop := FnG NG X.prog X.w X.K X.mg X.base k f (spD X.K T g)
section
variable {X : Cx} {pins : List (Addr × Obj)} {σ : St} {H : Hp} {s : Shared} {W : WX} {k : Nat} {f C : Addr} {sp : Sp} {Q : VK} {us : List Value} {vs : List V} {x : Str} {p pos apos : Pos} {e : Expr} {es : List Expr} {t : TA}
theorem run_at (F : FnG NG X.prog X.w X.K X.mg X.base k f sp) (hr : RG NG k X.A) (tk : Takes X W) (I : Inv X pins σ H s) (r : Vals vs us) (h : sp vs H Q fun c d H' => W c d σ H') :
    codeAny (model X.prog X.w) X.A (.call (.ref f) ⟨us, []⟩) (fun r s' => match r with | .ok (.ret v) => EP X pins σ Q v s' | .ok _ => False | .error e => X.xe e s') s := by
  refine codeAny_mono (F X.A X.stack s H us vs Q _ hr I.env0 r h) fun r s' hq => ?_
  cases r with
  | error e => exact tk e s' (XE.of_call I (fun _ _ _ h => h) hq)
  | ok fl =>
    cases fl with
    | ret u => exact I.after hq
    | next => exact False.elim hq
    | brk => exact False.elim hq
    | cont => exact False.elim hq
theorem pe_callQ (F : FnG NG X.prog X.w X.K X.mg X.base k f sp) (hr : RG NG k X.A) (tk : Takes X W) (hg : Gl X x) (hm : X.mg x = some (.ref f)) (hk : PySem.W.keepIn X.K (.ref f) = true) (ha : PA X (e :: es) t)
    (hdb : (x == ("__debug__" : Str)) = false := by decide) (he : starEach (e :: es) X.env = (false, eval e X.env) :: starEach es X.env := by rfl) (hpl : (backTo pos (starEach es X.env)).any (·.1) = false := by rfl) :
    PE X (.Call (.Name x p) (e :: es) [] pos) (fun σ H Q => t σ H fun vs H1 => sp vs H1 Q fun c d H' => W c d σ H') := by
  refine ⟨fun pins s σ H Q I h => ?_⟩
  refine wpAny_Call_Name_kw (ld_glob I hg hm ?_ hdb)
  refine PySem.W.callWith_K (h₀ := X.base) I.ok.mod.kin hk (thn (ha.run pos pins s σ H _ I h) fun us s1 ⟨vs, H1, I1, r, q⟩ => ⟨I1.kIn, ?_⟩) he hpl
  exact wpAny_call (run_at F hr tk I1 r q)
end
section
variable {T : Tab} {X : Cx} {k : Nat} {f : Addr} {g : M EV} {x : Str} {p pos : Pos} {e : Expr} {es : List Expr} {fs : M (List AV)}
theorem qe_call (F : FnQ NG T X k f g) (hr : RG NG k X.A) (hg : Gl X x) (hm : X.mg x = some (.ref f)) (hk : PySem.W.keepIn X.K (.ref f) = true) (ha : QAs T X (e :: es) fs) (hdb : (x == ("__debug__" : Str)) = false := by decide)
    (he : starEach (e :: es) X.env = (false, eval e X.env) :: starEach es X.env := by rfl) (hpl : (backTo pos (starEach es X.env)).any (·.1) = false := by rfl) : QE T X (.Call (.Name x p) (e :: es) [] pos) (eCall g fs) :=
  fun pn xe W tk hp => impE (pe_callQ (X := X.tr pn xe) F hr tk hg hm hk (ha pn xe W tk hp) hdb he hpl) fun σ H Q q => tr_call q
end
end Dt
end
section
set_option maxRecDepth 100000
set_option maxHeartbeats 4000000
/-! QF: statements, loops, try, the promise of a def. -/
namespace Dt
variable {NG : Prop}
open PySem PySem.Spec L2
open PyProof.Rows hiding St

inductive SR where
  | nx (e : Sl) | bk (e : Sl) | ct (e : Sl) | rt (v : EV) (e : Sl) | exc (x : ExD) (e : Sl)
abbrev S := Sl → Option SR
section
variable (K : PySem.W.Frag) (T : Tab) (np : Nat → Bool)
def OutS (ex : Addr → Prop) (env : Sl) (W : WX) (σ : St) (H : Hp) (D : Ends) : SR → Prop
  | .nx env' => ∀ σ' H', SStep K T np ex σ H env σ' H' env' → D.nx σ' H'
  | .bk env' => ∀ σ' H', SStep K T np ex σ H env σ' H' env' → D.bk σ' H'
  | .ct env' => ∀ σ' H', SStep K T np ex σ H env σ' H' env' → D.ct σ' H'
  | .rt ev env' => ∀ v σ' H', SStep K T np ex σ H env σ' H' env' → RepR K T np ex σ env H σ' env' H' v ev → D.rt v H'
  | .exc x env' => ∀ cls dd σ' H', SStep K T np ex σ H env σ' H' env' → RepX K T (exO ex σ' env') H' cls dd x → W cls dd σ' H'
def tsx (ex : Addr → Prop) (f : S) (env : Sl) (W : WX) (σ : St) (H : Hp) (D : Ends) : Prop := Good K T ex σ H env ∧ ∃ r, f env = some r ∧ OutS K T np ex env W σ H D r
def trS (f : S) (W : WX) : TS := fun D σ H => ∃ ex env, tsx K T np ex f env W σ H D
end
section
variable {K : PySem.W.Frag} {T : Tab} {np : Nat → Bool} {ex : Addr → Prop} {env env1 : Sl} {W : WX} {σ σ1 : St} {H H1 : Hp} {D : Ends}
theorem OutS.back {r : SR} (s : SStep K T np ex σ H env σ1 H1 env1) (o : OutS K T np ex env W σ H D r) : OutS K T np ex env1 W σ1 H1 D r := by
  cases r with
  | nx e => exact fun σ' H' q => o σ' H' (s.trans q)
  | bk e => exact fun σ' H' q => o σ' H' (s.trans q)
  | ct e => exact fun σ' H' q => o σ' H' (s.trans q)
  | rt v e => exact fun v σ' H' q r => o v σ' H' (s.trans q) (RepR.trans s r)
  | exc x e => exact fun c d σ' H' q r => o c d σ' H' (s.trans q) r
theorem RepE.r {v : V} {ev : EV} {env' : Sl} {H' : Hp} (g : Good K T ex σ H env) (s : Step K T ex σ H env H' env') (r : RepE K T ex σ env' H H' v ev) : RepR K T np ex σ env H σ env' H' v ev := by
  cases ev with
  | v d => exact r
  | o c =>
    obtain ⟨a, e, n, h, gx⟩ := r
    exact ⟨a, e, fun q => g.dom a q n, fun q => g.fresh n (.inr (s.owns q)), .inr n, h, gx⟩
end
def sE {α : Type} (f : M α) (k : α → S) : S := fun env => match f env with
  | some (.ok a e) => k a e
  | some (.exc x e) => some (.exc x e)
  | none => none
section
variable {K : PySem.W.Frag} {T : Tab} {np : Nat → Bool} {ex : Addr → Prop} {env env1 : Sl} {W : WX} {σ σ1 : St} {H H1 : Hp} {D : Ends}
theorem trS_expr {α γ : Type} {f : M α} {k : α → S} (h : trS K T np (sE f k) W D σ H) (rel : Rl γ α) : tr K T rel f W σ H fun v H1 => ∃ ex env H0 env1 a, Good K T ex σ H0 env ∧ Step K T ex σ H0 env H1 env1 ∧ rel ex σ env1 H0 H1 v a ∧ tsx K T np ex (k a) env1 W σ H1 D ∧
    ∃ r, k a env1 = some r ∧ OutS K T np ex env W σ H0 D r := by
  obtain ⟨ex, env, g, r, e, o⟩ := h
  refine ⟨ex, env, g, ?_⟩
  unfold sE at e
  cases q : f env with
  | none => rw [q] at e; cases e
  | some ra =>
    rw [q] at e
    refine ⟨ra, rfl, ?_⟩
    cases ra with
    | ok a e1 => exact fun v H' s hr => ⟨ex, env, H, e1, a, g, s, hr, ⟨s.gd, r, e, o.back s.s⟩, r, e, o⟩
    | exc x e1 => cases e; exact fun c d H' s rx => o c d σ H' s.s rx
end

/-! ### judgements -/
section
variable (T : Tab) (X : Cx) (np : Nat → Bool)
def QS (st : Stmt) (f : S) : Prop := ∀ pn xe W, Takes (X.tr pn xe) W → PassesOwn (model X.prog X.w) X.A X.env xe → PS (X.tr pn xe) st (trS X.K T np f W)
def QSs (st : List Stmt) (f : S) : Prop := ∀ pn xe W, Takes (X.tr pn xe) W → PassesOwn (model X.prog X.w) X.A X.env xe → PSs (X.tr pn xe) st (trS X.K T np f W)
end
def sSeq (f g : S) : S := fun env => match f env with
  | some (.nx e) => g e
  | r => r
def sNil : S := fun env => some (.nx env)
def sExpr (f : M EV) : S := sE f fun _ e => some (.nx e)
def sRet (f : M EV) : S := sE f fun v e => some (.rt v e)
def sIf (c : M Bool) (f g : S) : S := sE c fun b => if b = true then f else g
def slotOf : EV → Slot
  | .v d => .val d
  | .o c => .own c
def sSet (i : Nat) (f : M EV) : S := sE f fun v e => some (.nx (e.set i (slotOf v)))
/-- return x: what a local owns is given away -/
def sRetV (np : Nat → Bool) (i : Nat) : S := fun env => match env[i]? with
  | some (.val d) => some (.rt (.v d) env)
  | some (.own c) => if np i = false then some (.rt (.o c) (env.set i .emp)) else match frzC c with
    | some d => some (.rt (.v d) (env.set i (.val d)))
    | none => none
  | _ => none
section
variable {K : PySem.W.Frag} {T : Tab} {np : Nat → Bool} {ex : Addr → Prop} {env env0 : Sl} {W : WX} {σ σ1 : St} {H H0 : Hp} {D : Ends}
theorem set_get {α : Type} {l : List α} {i j : Nat} {x y : α} (h : (l.set i x)[j]? = some y) : (j = i ∧ y = x ∧ i < l.length) ∨ (j ≠ i ∧ l[j]? = some y) := by
  by_cases e : j = i
  · subst e
    by_cases hl : j < l.length
    · rw [List.getElem?_set_self hl] at h; exact .inl ⟨rfl, (Option.some.inj h).symm, hl⟩
    · rw [List.getElem?_eq_none (by simpa using hl)] at h; cases h
  · rw [List.getElem?_set_ne (Ne.symm e)] at h; exact .inr ⟨e, h⟩
theorem Good.store {v : V} {ev : EV} {i : Nat} (hi : np i = false) (g0 : Good K T ex σ H0 env0) (s : Step K T ex σ H0 env0 H env) (r : RepE K T ex σ env H0 H v ev) : SStep K T np ex σ H0 env0 (σ.set i (some v)) H (env.set i (slotOf ev)) := by
  have g := s.gd
  by_cases hl : i < env.length
  case neg =>
    have h1 : env.set i (slotOf ev) = env := List.set_eq_of_length_le (by omega)
    have h2 : σ.set i (some v) = σ := List.set_eq_of_length_le (by rw [← g.len]; omega)
    rw [h1, h2]
    exact s.s
  have hσ : i < σ.length := by rw [← g.len]; exact hl
  have σi : (σ.set i (some v))[i]? = some (some v) := List.getElem?_set_self hσ
  have σj : ∀ j, j ≠ i → (σ.set i (some v))[j]? = σ[j]? := fun j h => List.getElem?_set_ne (Ne.symm h)
  have par : ∀ j, np j = true → (σ.set i (some v))[j]? = σ[j]? := fun j h => σj j (fun z => by rw [z, hi] at h; cases h)
  have ln : (σ.set i (some v)).length = σ.length := List.length_set
  have subp : ∀ (j : Nat) (c : OC), np j = true → (env.set i (slotOf ev))[j]? = some (.own c) → ∃ c', env0[j]? = some (.own c') := fun j c hj e => by
    rcases set_get e with ⟨h1, _, _⟩ | ⟨_, h⟩
    · rw [h1, hi] at hj; cases hj
    · exact s.sb j c h
  cases ev with
  | v d =>
    have ow : ∀ {a}, Owns (σ.set i (some v)) (env.set i (slotOf (.v d))) a → Owns σ env a := fun ⟨j, c, e1, e2⟩ => by
      rcases set_get e1 with ⟨_, h, _⟩ | ⟨h1, h2⟩
      · cases h
      · rw [σj j h1] at e2; exact ⟨j, c, h2, e2⟩
    have mo : ∀ a o, ¬ exO ex σ env a → H a = some o → ¬ exO ex (σ.set i (some v)) (env.set i (slotOf (.v d))) a ∧ H a = some o := fun a o n e => ⟨fun z => n (z.imp id ow), e⟩
    refine ⟨s.fr, s.dm, subp, fun j c a hj e e2 => ?_, par, ln, ⟨by rw [List.length_set, List.length_set]; exact g.len, fun j d' e => ?_, fun j c e => ?_, fun j k a c c' e1 e2 e3 e4 => ?_, g.dom, g.tb⟩⟩
    · rcases set_get e with ⟨_, h, _⟩ | ⟨h1, h2⟩
      · cases h
      · obtain ⟨c', e3⟩ := s.sb j c h2
        rw [σj j h1] at e2
        exact .inl ⟨j, c', hj, e3, e2⟩
    · rcases set_get e with ⟨h1, h, _⟩ | ⟨h1, h2⟩
      · cases h; subst h1; exact ⟨v, σi, Rep.mono mo r⟩
      · obtain ⟨u, e1, q⟩ := g.val j d' h2
        exact ⟨u, by rw [σj j h1]; exact e1, q.mono mo⟩
    · rcases set_get e with ⟨_, h, _⟩ | ⟨h1, h2⟩
      · cases h
      · obtain ⟨a, e1, n, q⟩ := g.own j c h2
        exact ⟨a, by rw [σj j h1]; exact e1, n, q.mono rfl mo⟩
    · rcases set_get e1 with ⟨_, h, _⟩ | ⟨h1, h2⟩
      · cases h
      · rcases set_get e2 with ⟨_, h, _⟩ | ⟨h3, h4⟩
        · cases h
        · rw [σj j h1] at e3
          rw [σj k h3] at e4
          exact g.inj j k a c c' h2 h4 e3 e4
  | o c0 =>
    obtain ⟨x, ev, nx, ro, gx⟩ := r
    subst ev
    have nox : ¬ exO ex σ env x := fun z => g0.fresh nx (s.exO z)
    have ow : ∀ {a}, Owns (σ.set i (some (.ref x))) (env.set i (slotOf (.o c0))) a → Owns σ env a ∨ a = x := fun ⟨j, c, e1, e2⟩ => by
      rcases set_get e1 with ⟨h1, _, _⟩ | ⟨h1, h2⟩
      · subst h1; rw [σi] at e2; cases e2; exact .inr rfl
      · rw [σj j h1] at e2; exact .inl ⟨j, c, h2, e2⟩
    have mo : ∀ a o, ¬ exO (fun b => ex b ∨ b = x) σ env a → H a = some o → ¬ exO ex (σ.set i (some (.ref x))) (env.set i (slotOf (.o c0))) a ∧ H a = some o := fun a o n e => ⟨fun z => n (by
      rcases z with z | z
      · exact .inl (.inl z)
      · rcases ow z with z | z
        · exact .inr z
        · exact .inl (.inr z)), e⟩
    have mo2 : ∀ a o, ¬ (exO ex σ env a ∨ a = x) → H a = some o → ¬ exO ex (σ.set i (some (.ref x))) (env.set i (slotOf (.o c0))) a ∧ H a = some o := fun a o n e => ⟨fun z => n (by
      rcases z with z | z
      · exact .inl (.inl z)
      · exact (ow z).imp .inr id), e⟩
    refine ⟨s.fr, s.dm, subp, fun j c a hj e e2 => ?_, par, ln, ⟨by rw [List.length_set, List.length_set]; exact g.len, fun j d' e => ?_, fun j c e => ?_, fun j k a c c' e1 e2 e3 e4 => ?_, g.dom, g.tb⟩⟩
    · rcases set_get e with ⟨h1, _, _⟩ | ⟨h1, h2⟩
      · subst h1; rw [σi] at e2; cases e2; exact .inr nx
      · obtain ⟨c', e3⟩ := s.sb j c h2
        rw [σj j h1] at e2
        exact .inl ⟨j, c', hj, e3, e2⟩
    · rcases set_get e with ⟨_, h, _⟩ | ⟨h1, h2⟩
      · cases h
      · obtain ⟨u, e1, q⟩ := gx.val j d' h2
        exact ⟨u, by rw [σj j h1]; exact e1, q.mono mo⟩
    · rcases set_get e with ⟨h1, h, _⟩ | ⟨h1, h2⟩
      · cases h; subst h1; exact ⟨x, σi, fun z => nox (.inl z), ro.mono rfl mo2⟩
      · obtain ⟨a, e1, n, q⟩ := gx.own j c h2
        exact ⟨a, by rw [σj j h1]; exact e1, fun z => n (.inl z), q.mono rfl mo⟩
    · have nj : ∀ {j : Nat} {c : OC}, env[j]? = some (.own c) → σ[j]? ≠ some (some (V.ref x)) := fun {j c} h z => nox (.inr ⟨j, c, h, z⟩)
      rcases set_get e1 with ⟨h1, _, _⟩ | ⟨h1, h2⟩
      · subst h1
        rw [σi] at e3
        cases e3
        rcases set_get e2 with ⟨h3, _, _⟩ | ⟨h3, h4⟩
        · exact h3.symm
        · rw [σj k h3] at e4; exact absurd e4 (nj h4)
      · rw [σj j h1] at e3
        rcases set_get e2 with ⟨h3, _, _⟩ | ⟨h3, h4⟩
        · subst h3; rw [σi] at e4; cases e4; exact absurd e3 (nj h2)
        · rw [σj k h3] at e4
          exact g.inj j k a c c' h2 h4 e3 e4
/-- what a local owns, given away -/
theorem Good.give (g : Good K T ex σ H env) {i : Nat} {c : OC} (hi : np i = false) (e : env[i]? = some (.own c)) :
    ∃ a, σ[i]? = some (some (V.ref a)) ∧ SStep K T np ex σ H env σ H (env.set i .emp) ∧ RepR K T np ex σ env H σ (env.set i .emp) H (.ref a) (.o c) := by
  obtain ⟨a, ea, na, ra⟩ := g.own i c e
  have get : ∀ {j : Nat} {s : Slot}, (env.set i .emp)[j]? = some s → s ≠ .emp → j ≠ i ∧ env[j]? = some s := fun {j s} h n => by
    rcases set_get h with ⟨_, h2, _⟩ | h
    · exact absurd h2 n
    · exact h
  have ow : ∀ {b}, Owns σ (env.set i .emp) b → Owns σ env b ∧ b ≠ a := fun {b} ⟨j, c', e1, e2⟩ => by
    obtain ⟨h1, h2⟩ := get e1 (fun z => nomatch z)
    exact ⟨⟨j, c', h2, e2⟩, fun z => h1 (by subst z; exact g.inj j i b c' c h2 e e2 ea)⟩
  have no : ∀ b, exO (fun b => ex b ∨ b = a) σ (env.set i .emp) b → exO ex σ env b := fun b h => by
    rcases h with (h | h) | h
    · exact .inl h
    · subst h; exact .inr ⟨i, c, e, ea⟩
    · exact .inr (ow h).1
  have mo : ∀ b o, ¬ exO ex σ env b → H b = some o → ¬ exO (fun b => ex b ∨ b = a) σ (env.set i .emp) b ∧ H b = some o := fun b o n q => ⟨fun z => n (no b z), q⟩
  have gx : Good K T (fun b => ex b ∨ b = a) σ H (env.set i .emp) := by
    refine ⟨by rw [List.length_set]; exact g.len, fun j d q => ?_, fun j c' q => ?_, fun j k b c1 c2 q1 q2 q3 q4 => ?_, fun b h => ?_, g.tb⟩
    · obtain ⟨_, h⟩ := get q (fun z => nomatch z)
      obtain ⟨v, e1, r⟩ := g.val j d h
      exact ⟨v, e1, r.mono mo⟩
    · obtain ⟨h1, h⟩ := get q (fun z => nomatch z)
      obtain ⟨b, e1, n, r⟩ := g.own j c' h
      exact ⟨b, e1, fun z => z.elim n fun z => h1 (by subst z; exact g.inj j i b c' c h e e1 ea), r.mono rfl mo⟩
    · exact g.inj j k b c1 c2 (get q1 fun z => nomatch z).2 (get q2 fun z => nomatch z).2 q3 q4
    · rcases h with h | h
      · exact g.dom b h
      · subst h; exact ra.there
  have g1 : Good K T ex σ H (env.set i .emp) := by
    have mo' : ∀ b o, ¬ exO (fun b => ex b ∨ b = a) σ (env.set i .emp) b → H b = some o → ¬ exO ex σ (env.set i .emp) b ∧ H b = some o := fun b o n q => ⟨fun z => n (z.imp .inl id), q⟩
    refine ⟨gx.len, fun j d q => ?_, fun j c' q => ?_, gx.inj, fun b h => gx.dom b (.inl h), gx.tb⟩
    · obtain ⟨v, e1, r⟩ := gx.val j d q
      exact ⟨v, e1, r.mono mo'⟩
    · obtain ⟨b, e1, n, r⟩ := gx.own j c' q
      exact ⟨b, e1, fun z => n (.inl z), r.mono rfl mo'⟩
  refine ⟨a, ea, ⟨fun _ _ q _ _ => q, fun _ q => q, fun j c' _ q => ⟨c', (get q fun z => nomatch z).2⟩, fun j c' b hj q1 q2 => .inl ⟨j, c', hj, (get q1 fun z => nomatch z).2, q2⟩, fun _ _ => rfl, rfl, g1⟩,
    a, rfl, na, fun z => (ow z).2 rfl, .inl ⟨i, c, hi, e, ea⟩, ra.mono rfl fun b o n q => ⟨fun z => n ?_, q⟩, gx⟩
  rcases z with z | z
  · exact z.elim .inl fun z => .inr (ow z).1
  · subst z; exact .inr ⟨i, c, e, ea⟩
end
section
variable {T : Tab} {X : Cx} {np : Nat → Bool} {pos : Pos} {e : Expr} {st : Stmt} {rest : List Stmt} {f : M EV} {p q : S}
theorem qss_nil : QSs T X np [] sNil := fun pn xe W tk hp => impSs pss_nil fun D σ H ⟨ex, env, g, r, e, o⟩ => by cases e; exact o σ H (SStep.refl g)
theorem qss_cons (h : QS T X np st p) (k : QSs T X np rest q) : QSs T X np (st :: rest) (sSeq p q) := fun pn xe W tk hp => impSs (pss_cons (h pn xe W tk hp) (k pn xe W tk hp)) fun D σ H ⟨ex, env, g, r, e, o⟩ => by
  unfold sSeq at e
  refine ⟨ex, env, g, ?_⟩
  cases w : p env with
  | none => rw [w] at e; cases e
  | some rp =>
    rw [w] at e
    refine ⟨rp, rfl, ?_⟩
    cases rp with
    | nx env1 => exact fun σ' H' s => ⟨ex, env1, s.gd, r, e, o.back s⟩
    | _ => cases e; exact o
theorem qss_one (h : QS T X np st p) : QSs T X np [st] p := fun pn xe W tk hp => pss_one (h pn xe W tk hp)
theorem qs_expr (h : QE T X e f) (hs : swapsWith e none pos.line X.env = pure false := by rfl) : QS T X np (.Expr e pos) (sExpr f) := fun pn xe W tk hp => impS (ps_expr (X := X.tr pn xe) (h pn xe W tk hp) hs) fun D σ H q => by
  obtain ⟨ex, env, z⟩ := trS_expr q (relE X.K T)
  refine ⟨ex, env, z.mono fun v H1 ⟨ex, env, H0, env1, a, g, s, ra, _, r, e, o⟩ => ?_⟩
  cases e
  exact o σ H1 s.s
theorem qs_ret (h : QE T X e f) : QS T X np (.Return (some e) pos) (sRet f) := fun pn xe W tk hp => impS (ps_ret (h pn xe W tk hp)) fun D σ H q => by
  obtain ⟨ex, env, z⟩ := trS_expr q (relE X.K T)
  refine ⟨ex, env, z.mono fun v H1 ⟨ex, env, H0, env1, a, g, s, ra, _, r, e, o⟩ => ?_⟩
  cases e
  exact o v σ H1 s.s (RepE.r g s ra)
theorem qs_if {c : Expr} {a b : List Stmt} {t : M Bool} (hc : QT T X c t) (ha : QSs T X np a p) (hb : QSs T X np b q) : QS T X np (.If c a b pos) (sIf t p q) := fun pn xe W tk hp => impS (ps_if (hc pn xe W tk hp) (ha pn xe W tk hp) (hb pn xe W tk hp)) fun D σ H z => by
  obtain ⟨ex, env, z⟩ := trS_expr z relT
  refine ⟨ex, env, z.mono fun c H1 ⟨ex, env, H0, env1, a, g, s, ra, t, _⟩ => ?_⟩
  have ra : c = a := ra
  subst ra
  cases c with
  | true => exact ⟨ex, env1, t⟩
  | false => exact ⟨ex, env1, t⟩
theorem qs_set (i : Nat) {x : Str} {pos' : Pos} (hN : X.N.Nodup) (h : QE T X e f) (hi : X.N[i]? = some x := by rfl) (hx : Loc X.env.scope x := by first | exact Or.inl rfl | exact Or.inr rfl) (hnp : np i = false := by rfl)
    (hs : swapsWith e (some (.Name x pos')) pos.line X.env = pure false := by rfl) (hf : X.fn x = true ∨ X.env.scope.names.lookup x = some .local := by first | exact .inl rfl | exact .inr rfl) : QS T X np (.Assign [.Name x pos'] e pos) (sSet i f) :=
  fun pn xe W tk hp => impS (ps_set (X := X.tr pn xe) hN hi hx (h pn xe W tk hp) hs hf) fun D σ H q => by
    obtain ⟨ex, env, z⟩ := trS_expr q (relE X.K T)
    refine ⟨ex, env, z.mono fun v H1 ⟨ex, env, H0, env1, a, g, s, ra, _, r, e, o⟩ => ?_⟩
    cases e
    exact o _ H1 (Good.store hnp g s ra)
theorem qs_retV (i : Nat) {x : Str} {p : Pos} (hN : X.N[i]? = some x := by rfl) (hv : Vis X.env.scope x := by first | exact Or.inl rfl | exact Or.inr (Or.inl rfl) | exact Or.inr (Or.inr rfl))
    (hd : (x == ("__debug__" : Str)) = false := by decide) (hcd : (x == ("__classdict__" : Str)) = false := by decide) : QS T X np (.Return (some (.Name x p)) pos) (sRetV np i) :=
  fun pn xe W tk hp => impS (ps_ret (pe_var (X := X.tr pn xe) (i := i) hN hv hd hcd)) fun D σ H ⟨ex, env, g, r, e, o⟩ => by
    unfold sRetV at e
    cases w : env[i]? with
    | none => rw [w] at e; cases e
    | some s =>
      rw [w] at e
      cases s with
      | emp => cases e
      | val d =>
        cases e
        obtain ⟨v, e1, h1⟩ := g.val i d w
        exact ⟨v, e1, o v σ H (SStep.refl g) h1⟩
      | own c =>
        dsimp only at e
        by_cases hi : np i = false
        · rw [if_pos hi] at e
          cases e
          obtain ⟨a, e1, s, r⟩ := g.give hi w
          exact ⟨.ref a, e1, o _ σ H s r⟩
        · rw [if_neg hi] at e
          cases fc : frzC c with
          | none => rw [fc] at e; cases e
          | some d =>
            rw [fc] at e
            cases e
            obtain ⟨s, a, e1, rd⟩ := g.freeze w fc
            exact ⟨.ref a, e1, o _ σ H s.s rd⟩
end

/-! ### a def -/
def lt (np : Nat) : Nat → Bool := fun i => decide (i < np)
def funD (n np : Nat) (body : S) : M EV := fun args => if args.length = np then match body (args ++ List.replicate (n - np) .emp) with
  | some (.rt v e) => some (.ok v (e.take np))
  | some (.nx e) => some (.ok (.v .non) (e.take np))
  | some (.exc x e) => some (.exc x (e.take np))
  | _ => none
  else none
section
variable {K : PySem.W.Frag} {T : Tab} {ex : Addr → Prop} {args env' : Sl} {vs : List V} {σ' : St} {H H' : Hp} {n np : Nat}
theorem app_get {α : Type} {l : List α} {k j : Nat} {x y : α} (h : (l ++ List.replicate k x)[j]? = some y) : (j < l.length ∧ l[j]? = some y) ∨ (l.length ≤ j ∧ y = x) := by
  by_cases e : j < l.length
  · rw [List.getElem?_append_left e] at h; exact .inl ⟨e, h⟩
  · rw [List.getElem?_append_right (by omega), List.getElem?_replicate] at h
    split at h
    · cases h; exact .inr ⟨by omega, rfl⟩
    · cases h
theorem start_owns {k k' : Nat} (hl : args.length = vs.length) {a : Addr} : Owns (vs.map some ++ List.replicate k none) (args ++ List.replicate k' .emp) a ↔ Owns (vs.map some) args a := by
  constructor
  · rintro ⟨j, c, e1, e2⟩
    rcases app_get e1 with ⟨h1, h2⟩ | ⟨_, h⟩
    · rcases app_get e2 with ⟨_, h3⟩ | ⟨h4, _⟩
      · exact ⟨j, c, h2, h3⟩
      · rw [List.length_map] at h4; omega
    · cases h
  · rintro ⟨j, c, e1, e2⟩
    have h1 := (List.getElem?_eq_some_iff.mp e1).1
    refine ⟨j, c, ?_, ?_⟩
    · rw [List.getElem?_append_left h1]; exact e1
    · rw [List.getElem?_append_left (by rw [List.length_map]; omega)]; exact e2
theorem start_good (hnp : args.length = np) (hn : np ≤ n) (g : Good K T ex (vs.map some) H args) : Good K T ex (vs.map some ++ List.replicate (n - vs.length) none) H (args ++ List.replicate (n - np) .emp) := by
  have hl : args.length = vs.length := by have := g.len; rwa [List.length_map] at this
  have eo : exO ex (vs.map some ++ List.replicate (n - vs.length) none) (args ++ List.replicate (n - np) .emp) = exO ex (vs.map some) args := funext fun a => propext (or_congr Iff.rfl (start_owns hl))
  have up : ∀ {i : Nat} {x : Option V}, (vs.map some)[i]? = some x → (vs.map some ++ List.replicate (n - vs.length) none)[i]? = some x := fun {i x} h => by
    rw [List.getElem?_append_left (List.getElem?_eq_some_iff.mp h).1]; exact h
  refine ⟨by simp only [List.length_append, List.length_map, List.length_replicate]; omega, fun i d e => ?_, fun i c e => ?_, fun i j a c c' e1 e2 e3 e4 => ?_, g.dom, g.tb⟩
  · rw [eo]
    rcases app_get e with ⟨_, h⟩ | ⟨_, h⟩
    · obtain ⟨v, e1, r⟩ := g.val i d h; exact ⟨v, up e1, r⟩
    · cases h
  · rw [eo]
    rcases app_get e with ⟨_, h⟩ | ⟨_, h⟩
    · obtain ⟨v, e1, n, r⟩ := g.own i c h; exact ⟨v, up e1, n, r⟩
    · cases h
  · rcases app_get e1 with ⟨h1, h2⟩ | ⟨_, h⟩
    · rcases app_get e2 with ⟨h3, h4⟩ | ⟨_, h⟩
      · rw [List.getElem?_append_left (by rw [List.length_map]; omega)] at e3 e4
        exact g.inj i j a c c' h2 h4 e3 e4
      · cases h
    · cases h
theorem end_step (hnp : args.length = np) (hn : np ≤ n) (g : Good K T ex (vs.map some) H args) (s : SStep K T (lt np) ex (vs.map some ++ List.replicate (n - vs.length) none) H (args ++ List.replicate (n - np) .emp) σ' H' env') :
    Step K T ex (vs.map some) H args H' (env'.take np) ∧ (∀ a, exO ex (vs.map some) (env'.take np) a → exO ex σ' env' a) ∧ ∀ x, Good K T (fun b => ex b ∨ b = x) σ' H' env' → Good K T (fun b => ex b ∨ b = x) (vs.map some) H' (env'.take np) := by
  have hl : args.length = vs.length := by have := g.len; rwa [List.length_map] at this
  have tk : ∀ {i : Nat} {x : Slot}, (env'.take np)[i]? = some x → i < np ∧ env'[i]? = some x := fun {i x} h => by
    rw [List.getElem?_take] at h
    split at h
    · exact ⟨by assumption, h⟩
    · cases h
  have par : ∀ i, i < np → σ'[i]? = (vs.map some)[i]? := fun i h => by
    rw [s.par i (decide_eq_true h), List.getElem?_append_left (by rw [List.length_map]; omega)]
  have ow : ∀ {a}, Owns (vs.map some) (env'.take np) a → Owns σ' env' a := fun ⟨i, c, e1, e2⟩ => ⟨i, c, (tk e1).2, by rw [par i (tk e1).1]; exact e2⟩
  have gen : ∀ ex2 : Addr → Prop, Good K T ex2 σ' H' env' → Good K T ex2 (vs.map some) H' (env'.take np) := fun ex2 gd => by
    have mo : ∀ a o, ¬ exO ex2 σ' env' a → H' a = some o → ¬ exO ex2 (vs.map some) (env'.take np) a ∧ H' a = some o := fun a o n e => ⟨fun z => n (z.imp id ow), e⟩
    refine ⟨?_, fun i d e => ?_, fun i c e => ?_, fun i j a c c' e1 e2 e3 e4 => ?_, gd.dom, gd.tb⟩
    · have h1 := s.gd.len
      rw [List.length_take, List.length_map]
      -- the slots' number
      have h2 : np ≤ σ'.length := by
        rcases Nat.lt_or_ge σ'.length np with q | q
        · have := par σ'.length q
          rw [List.getElem?_eq_none (Nat.le_refl _)] at this
          have h3 : σ'.length < (vs.map some).length := by rw [List.length_map]; omega
          rw [List.getElem?_eq_getElem h3] at this
          cases this
        · exact q
      omega
    · obtain ⟨v, e1, r⟩ := gd.val i d (tk e).2
      exact ⟨v, by rw [← par i (tk e).1]; exact e1, r.mono mo⟩
    · obtain ⟨a, e1, n, r⟩ := gd.own i c (tk e).2
      exact ⟨a, by rw [← par i (tk e).1]; exact e1, n, r.mono rfl mo⟩
    · exact gd.inj i j a c c' (tk e1).2 (tk e2).2 (by rw [par i (tk e1).1]; exact e3) (by rw [par j (tk e2).1]; exact e4)
  refine ⟨⟨fun b o e nb => s.fr b o e fun z => nb ((start_owns hl).mp z), s.dm, fun i c e => ?_, gen ex s.gd⟩, fun a h => h.imp id ow, fun x => gen _⟩
  obtain ⟨h1, h2⟩ := tk e
  obtain ⟨c', e3⟩ := s.sbp i c (decide_eq_true h1) h2
  rcases app_get e3 with ⟨_, h⟩ | ⟨_, h⟩
  · exact ⟨c', h⟩
  · cases h
end
section
variable {P : Program} {w : World} {K : PySem.W.Frag} {mg : Str → Option Value} {base : Heap} {T : Tab}
theorem fun_len {body : S} {n np : Nat} {vs : List V} {H : Hp} {Q : VK} {E : XK} (h : spD K T (funD n np body) vs H Q E) : vs.length = np := by
  obtain ⟨ex, env, g, r, e, _⟩ := h
  unfold funD at e
  by_cases hl : env.length = np
  · have := g.len; rw [List.length_map] at this; omega
  · rw [if_neg hl] at e; cases e
theorem sp_body {st : Stmt} {qual : Str} {f : Addr} {N ps : List Str} {body : S} {cdv : Value} {A : Around} {outer : List Env} {s : Shared} {H : Hp} {E : XK} {vs : List V} {Q : VK} (hpl : ps.length ≤ N.length)
    (q : QSs T (cxOf (L2.CX P w) P w K mg base N qual (defScope st) f cdv A outer s H E) (lt ps.length) (defBody st) body) (hsp : spD K T (funD N.length ps.length body) vs H Q E) :
    ∃ t, PSs (cxOf (L2.CX P w) P w K mg base N qual (defScope st) f cdv A outer s H E) (defBody st) t ∧ t { nx := fun _ H' => Q .non H', rt := Q } (start N vs) H := by
  have q := q (cxOf (L2.CX P w) P w K mg base N qual (defScope st) f cdv A outer s H E).pn (cxOf (L2.CX P w) P w K mg base N qual (defScope st) f cdv A outer s H E).xe (fun c d _ H => E c d H) (takes_of rfl rfl rfl rfl) (passes_of rfl)
  refine ⟨_, q, ?_⟩
  obtain ⟨ex, args, g, r, e, o⟩ := hsp
  unfold funD at e
  by_cases hl : args.length = ps.length
  · rw [if_pos hl] at e
    refine ⟨ex, _, start_good hl hpl g, ?_⟩
    cases w : body (args ++ List.replicate (N.length - ps.length) .emp) with
    | none => rw [w] at e; cases e
    | some rb =>
      rw [w] at e
      refine ⟨rb, rfl, ?_⟩
      cases rb with
      | bk _ => cases e
      | ct _ => cases e
      | nx e1 =>
        cases e
        intro σ' H' s
        obtain ⟨s', _, _⟩ := end_step hl hpl g s
        exact o .non H' s' rfl
      | rt v e1 =>
        cases e
        intro u σ' H' s rr
        obtain ⟨s', exb, gm⟩ := end_step hl hpl g s
        refine o u H' s' ?_
        cases v with
        | v d => exact Rep.mono (fun a o n e => ⟨fun z => n (exb a z), e⟩) rr
        | o c =>
          obtain ⟨a, ev, na, no, hn, ro, gx⟩ := rr
          refine ⟨a, ev, ?_, ro.mono rfl fun b o n e => ⟨fun z => n (z.imp (exb b) id), e⟩, gm a gx⟩
          rcases hn with ⟨j, c', hj, e1, _⟩ | hn
          · rcases app_get e1 with ⟨h1, _⟩ | ⟨_, h⟩
            · have := of_decide_eq_false hj; omega
            · cases h
          · exact hn
      | exc x e1 =>
        cases e
        intro cls dd σ' H' s rx
        obtain ⟨s', exb, _⟩ := end_step hl hpl g s
        refine o cls dd H' s' ⟨rx.1, rx.2.imp id ?_⟩
        rintro ⟨a, ws, e1, e2, l, r⟩
        exact ⟨a, ws, e1, e2, l, r.mono fun a o n e => ⟨fun z => n (exb a z), e⟩⟩
  · rw [if_neg hl] at e; cases e
theorem Fun.qc {x qual : Str} {st : Stmt} {f : Addr} {fd : FuncData} {N ps : List Str} {k : Nat} {body : S} (F : Fun K x qual st f fd) (Sc : FnScope N ps (defScope st)) (bd : Binds K fd ps [])
    (hb : ∀ (cdv : Value) (A : Around) (outer : List Env) (s : Shared) (H : Hp) (E : XK), fd.code = cdv → RG NG k (A.deeper (envOfC qual (defScope st) s.heap.objs.size f cdv)) →
      QSs T (cxOf (L2.CX P w) P w K mg base N qual (defScope st) f cdv A outer s H E) (lt ps.length) (defBody st) body) :
    FnG NG P w K mg base (k + 1) f (spD K T (funD N.length ps.length body)) := by
  have hpl : ps.length ≤ N.length := by have := congrArg List.length Sc.pre; rw [List.length_take] at this; omega
  obtain ⟨oc, od, kV, doc, pm, an, cdv, ct, osl, rfl, lk, hcd⟩ := F.ex
  intro A outer s H us vs Q E hr e0 r hsp
  have hl : vs.length = ps.length := fun_len hsp
  have KX : K.In s.heap := e0.mod.kin.keeps fun b o e => (e0.bs b o e).1
  have lim : s.heap.NoLimit := e0.mod.nolimit.keeps fun b o e => (e0.bs b o e).1
  have hb2 := bd s us KX (by rw [List.append_nil, ← r.length]; exact hl)
  rw [List.append_nil] at hb2
  have hkind : ∀ y ∈ ps.zip us, (defScope st).names.lookup y.1 = some .local ∨ ((defScope st).names.lookup y.1 = some .cell ∧ ((cellsFrom (s.heap.objs.size + 1) (defScope st).names []).lookup y.1).isSome = true) := fun ⟨n, v⟩ hy => by
    rcases Sc.par n (List.of_mem_zip hy).1 with q | q
    · exact .inl q
    · exact .inr ⟨q, PySem.W.cellsFrom_some _ _ _ (.inl q)⟩
  refine codeAny_call_function hr.r.depth (KX _ _ lk) rfl Sc.co Sc.gen rfl (PySem.W.codeRec_of KX hcd) (hb2 _ _ _ _ ?_)
  refine wpAny_newFunctionEnv_cells Sc.kind hkind fun env he s1 x => ?_
  subst he
  refine ⟨lim.keeps x.toInCall.keep, codeAny_func ?_⟩
  obtain ⟨t, ht, hq⟩ := sp_body hpl (hb cdv A outer s H E rfl (hr.deeper _)) hsp
  have I : Inv (cxOf (L2.CX P w) P w K mg base N qual (defScope st) f cdv A outer s H E) [] (start N vs) H s1 := inv_start Sc hr.r.hd e0 hl r x
  refine wpAny_mono (ht.run [] s1 (start N vs) H _ I hq) (fun fl s' hs => ?_) fun e s' hs => hs
  have fin : ∀ {σ' : St} {H' : Hp} {v : V} {u : Value}, Inv (cxOf (L2.CX P w) P w K mg base N qual (defScope st) f cdv A outer s H E) [] σ' H' s' → RelV v u → Q v H' → CE outer P w H s Q u s' :=
    fun {σ' H' v u} J rv q => ⟨v, H', J.os, J.bare, J.base, J.hok, rv, q⟩
  cases fl with
  | ret u =>
    obtain ⟨v, σ', H', J, rv, q⟩ := hs
    exact fin J rv q
  | next =>
    obtain ⟨σ', H', J, q⟩ := hs
    exact fin (v := V.non) (u := Value.none) J rfl q
  | brk =>
    obtain ⟨_, _, _, q⟩ := hs
    exact False.elim q
  | cont =>
    obtain ⟨_, _, _, q⟩ := hs
    exact False.elim q
theorem Fun.q {x qual : Str} {st : Stmt} {f : Addr} {fd : FuncData} {N ps : List Str} {k : Nat} {body : S} (F : Fun K x qual st f fd) (Sc : FnScope N ps (defScope st)) (bd : Binds K fd ps [])
    (hb : ∀ (cdv : Value) (A : Around) (outer : List Env) (s : Shared) (H : Hp) (E : XK), RG NG k (A.deeper (envOfC qual (defScope st) s.heap.objs.size f cdv)) →
      QSs T (cxOf (L2.CX P w) P w K mg base N qual (defScope st) f cdv A outer s H E) (lt ps.length) (defBody st) body) :
    FnG NG P w K mg base (k + 1) f (spD K T (funD N.length ps.length body)) := Fun.qc F Sc bd fun cdv A outer s H E _ hr => hb cdv A outer s H E hr
end
end Dt
end
section
set_option maxRecDepth 100000
set_option maxHeartbeats 4000000
/-! QG: what is walked; targets; for, while, list comprehensions; raise and try. -/
namespace Dt
open PySem PySem.Spec L2
open PyProof.Rows hiding St

/-! ### what is walked -/
def Keep (exs : Addr → Prop) (H1 H : Hp) : Prop := ∀ b o, ¬ exs b → H1 b = some o → NT o → H b = some o
structure ItOK (K : PySem.W.Frag) (T : Tab) (exs : Addr → Prop) (H1 : Hp) (J : It) (items : List D) : Prop where
  len : items.length ≤ sizeLine
  go : ∀ i H, i < items.length → Keep exs H1 H → J.go i H
  stop : ∀ H, Keep exs H1 H → J.stop items.length H
  yld : ∀ (i : Nat) (H : Hp) (x : V) (H' : Hp) (d : D), items[i]? = some d → Keep exs H1 H → J.yld i H x H' → Ext H H' ∧ ∀ ex', (∀ b o, ¬ exs b → H1 b = some o → ¬ ex' b) → (∀ b, ex' b → H b ≠ none) → Rep K T ex' H' d x
def relI (K : PySem.W.Frag) (T : Tab) : Rl It (List D) := fun ex σ env' _ H' J items => ItOK K T (exO ex σ env') H' J items
theorem rmI {K : PySem.W.Frag} {T : Tab} : RM (relI K T) := fun _ _ _ _ _ _ _ _ _ r => r
def QI (T : Tab) (X : Cx) (tg iter : Expr) (f : M (List D)) : Prop := ∀ pn xe W, Takes (X.tr pn xe) W → PassesOwn (model X.prog X.w) X.A X.env xe → PI (X.tr pn xe) tg iter (tr X.K T (relI X.K T) f W)
theorem impI {X : Cx} {tg e : Expr} {t t' : TI} (h : PI X tg e t) (k : ∀ σ H Q, t' σ H Q → t σ H Q) : PI X tg e t' := ⟨fun pins s σ H Q I q => h.run pins s σ H Q I (k σ H Q q)⟩
theorem impG {X : Cx} {e : Expr} {t t' : TG} (h : PG X e t) (k : ∀ v σ H Q, t' v σ H Q → t v σ H Q) : PG X e t' := ⟨fun pins s σ H v u Q I r q => h.run pins s σ H v u Q I r (k v σ H Q q)⟩

/-- a list, a tuple, a text: its items (what owns the list lets it go) -/
def itemsOf : D → Option (List D)
  | .lst ds => some ds
  | .tup ds => some ds
  | .str s => if s.length ≤ 1000000 then some (s.map fun c => .str [c]) else none
  | _ => none
def iOf (f : M EV) : M (List D) := M.bind f fun ev => match frz ev with
  | some d => lift (itemsOf d)
  | none => M.stuck
section
variable {K : PySem.W.Frag} {T : Tab} {exs : Addr → Prop} {H1 : Hp}
theorem itok_list {a : Addr} {vs : List V} {ds : List D} (hz : vs.length ≤ sizeLine) (h : ¬ exs a ∧ H1 a = some (.lst vs)) (r : RepL K T exs H1 ds vs) : ItOK K T exs H1 (Itl K a) ds := by
  have sq : ∀ H, Keep exs H1 H → SqL K H a vs := fun H k => SqL.of (k a _ h.1 h.2 (fun _ z => nomatch z))
  have hl := r.length
  refine ⟨by omega, fun i H hi k => ?_, fun H k => ⟨vs, sq H k, by omega⟩, fun i H x H' d hd k y => ?_⟩
  · have : i < vs.length := by omega
    exact ⟨vs, vs[i], sq H k, List.getElem?_eq_getElem this⟩
  · obtain ⟨e, q⟩ := y
    subst e
    obtain ⟨v, e1, rv⟩ := r.get hd
    rw [q vs (sq _ k)] at e1
    cases e1
    exact ⟨fun _ _ q => q, fun ex' n1 _ => rv.monoT fun b o nb e => ⟨n1 b o nb e, k b o nb e⟩⟩
theorem itok_tup {a : Addr} {vs : List V} {ds : List D} (hz : vs.length ≤ sizeLine) (h : ¬ exs a ∧ H1 a = some (.tup vs)) (r : RepL K T exs H1 ds vs) : ItOK K T exs H1 (Itt K a) ds := by
  have sq : ∀ H, Keep exs H1 H → SqT K H a vs := fun H k => SqT.of (k a _ h.1 h.2 (fun _ z => nomatch z))
  have hl := r.length
  refine ⟨by omega, fun i H hi k => ?_, fun H k => ⟨vs, sq H k, by omega⟩, fun i H x H' d hd k y => ?_⟩
  · have : i < vs.length := by omega
    exact ⟨vs, vs[i], sq H k, List.getElem?_eq_getElem this⟩
  · obtain ⟨e, q⟩ := y
    subst e
    obtain ⟨v, e1, rv⟩ := r.get hd
    rw [q vs (sq _ k)] at e1
    cases e1
    exact ⟨fun _ _ q => q, fun ex' n1 _ => rv.monoT fun b o nb e => ⟨n1 b o nb e, k b o nb e⟩⟩
theorem itok_str {s : List Nat} (hs : s.length ≤ 1000000) : ItOK K T exs H1 (Its (mkS s)) (s.map fun c => .str [c]) := by
  have hz : (mkS s).cps.size = s.length := by simp [mkS]
  refine ⟨by rw [List.length_map, sizeLine_eq]; omega, fun i H hi k => ?_, fun H k => ?_, fun i H x H' d hd k y => ?_⟩
  · rw [List.length_map] at hi
    show i < (mkS s).cps.size
    omega
  · show (mkS s).cps.size ≤ _
    rw [List.length_map]; omega
  · obtain ⟨e, c, e1, e2⟩ := y
    subst e e2
    refine ⟨fun _ _ q => q, fun ex' _ _ => ?_⟩
    have e3 : s[i]? = some c := by rw [← e1, ← Array.getElem?_toList, mkS_cps]
    rw [List.getElem?_map, e3] at hd
    cases hd
    show V.str ⟨#[c]⟩ = V.str (mkS [c])
    rfl
theorem itok_range {n : Nat} {lo : Int} (hn : n ≤ 2000000) : ItOK K T exs H1 (Itr lo n) ((List.range n).map fun (i : Nat) => D.int (lo + (i : Int))) := by
  refine ⟨by rw [List.length_map, List.length_range, sizeLine_eq]; omega, fun i H hi k => (show i < n by simpa using hi), fun H k => (by simp [Itr]), fun i H x H' d hd k y => ?_⟩
  obtain ⟨e, e1⟩ := y
  subst e e1
  refine ⟨fun _ _ q => q, fun ex' _ _ => ?_⟩
  rw [List.getElem?_map] at hd
  cases q : (List.range n)[i]? with
  | none => rw [q] at hd; cases hd
  | some j =>
    rw [q] at hd; cases hd
    have := List.getElem?_range (n := n) (i := i) (by have := (List.getElem?_eq_some_iff.mp q).1; simpa using this)
    rw [this] at q; cases q
    exact rfl
end
section
variable {X : Cx} {tg : Expr}
def iListL (K : PySem.W.Frag) (tl : TE) : TI := fun σ H R => tl σ H fun x H1 => ∃ a xs, x = .ref a ∧ SqL K H1 a xs ∧ (xs.length ≤ sizeLine → R (Itl K a) H1)
def iTupL (K : PySem.W.Frag) (tl : TE) : TI := fun σ H R => tl σ H fun x H1 => ∃ a xs, x = .ref a ∧ SqT K H1 a xs ∧ (xs.length ≤ sizeLine → R (Itt K a) H1)
theorem pi_listL {l : Expr} {tl : TE} (hl : PE X l tl) : PI X tg l (iListL X.K tl) := by
  refine ⟨fun pins s σ H R I h => ?_⟩
  refine thn (hl.run pins s σ H _ I h) fun v s1 ⟨x, H1, I1, r1, q1⟩ => ?_
  obtain ⟨a, xs, e, hq, q⟩ := q1
  subst e
  cases r1
  obtain ⟨its, rv, p, hz⟩ := I1.list hq
  refine wpAny_pyIter_list p.isList ?_
  refine ⟨s1.heap.objs.size, [s1.heap.objs.size], _, _, H1, rfl, I1.kept (t' := s1.toks) fun b o e => Heap.get?_push_of_some _ e, turn_list a _, ⟨_, Heap.get?_push_size _ rfl, rfl, rfl⟩, fun b hb => ?_, q hz⟩
  have e : b = s1.heap.objs.size := by simpa using hb
  subst e
  exact I1.fpOk (Nat.le_refl _) (I1.hok.fresh (Nat.le_refl _))
theorem pi_tupL {l : Expr} {tl : TE} (hl : PE X l tl) : PI X tg l (iTupL X.K tl) := by
  refine ⟨fun pins s σ H R I h => ?_⟩
  refine thn (hl.run pins s σ H _ I h) fun v s1 ⟨x, H1, I1, r1, q1⟩ => ?_
  obtain ⟨a, xs, e, hq, q⟩ := q1
  subst e
  cases r1
  obtain ⟨its, rv, p, hz⟩ := I1.tuple hq
  refine wpAny_pyIter_tuple (show s1.heap.IsTuple a its.toArray from p) ?_
  refine ⟨s1.heap.objs.size, [s1.heap.objs.size], _, _, H1, rfl, I1.kept (t' := s1.toks) fun b o e => Heap.get?_push_of_some _ e, turn_tuple a _, ⟨_, Heap.get?_push_size _ rfl, rfl, rfl⟩, fun b hb => ?_, q hz⟩
  have e : b = s1.heap.objs.size := by simpa using hb
  subst e
  exact I1.fpOk (Nat.le_refl _) (I1.hok.fresh (Nat.le_refl _))
end
section
variable {T : Tab} {X : Cx} {tg e : Expr} {f : M EV}
/-- a walk over what an expression gives: list, tuple or text by the data -/
theorem qi_lst (h : QE T X e f) : QI T X tg e (M.bind f fun ev => match frz ev with | some (.lst ds) => M.ret ds | _ => M.stuck) := fun pn xe W tk hp => impI (pi_listL (h pn xe W tk hp)) fun σ H Q ⟨ex, env, q⟩ => by
  have g0 := q.1
  refine ⟨ex, env, (trx_bind (relE X.K T) rmI q).mono fun v H1 ⟨ev, env1, s, r, q⟩ => ?_⟩
  have stuck : ∀ {f : M (List D)}, f = M.stuck → trx X.K T (relI X.K T) ex f env1 W σ H1 Q → False := fun e ⟨_, _, q, _⟩ => by rw [e] at q; cases q
  cases w : frz ev with
  | none => rw [w] at q; exact (stuck rfl q).elim
  | some d =>
    rw [w] at q
    have rd := RepE.frz g0 s r w
    cases d with
    | lst ds =>
      obtain ⟨g, k⟩ := trx_ret q
      obtain ⟨a, vs, e1, h0, h1, h2⟩ := rd
      exact ⟨a, vs, e1, SqL.of h1, fun hz => k _ H1 (Step.refl g) (itok_list hz ⟨h0, h1⟩ h2)⟩
    | _ => exact (stuck rfl q).elim
theorem qi_tup (h : QE T X e f) : QI T X tg e (M.bind f fun ev => match frz ev with | some (.tup ds) => M.ret ds | _ => M.stuck) := fun pn xe W tk hp => impI (pi_tupL (h pn xe W tk hp)) fun σ H Q ⟨ex, env, q⟩ => by
  have g0 := q.1
  refine ⟨ex, env, (trx_bind (relE X.K T) rmI q).mono fun v H1 ⟨ev, env1, s, r, q⟩ => ?_⟩
  have stuck : ∀ {f : M (List D)}, f = M.stuck → trx X.K T (relI X.K T) ex f env1 W σ H1 Q → False := fun e ⟨_, _, q, _⟩ => by rw [e] at q; cases q
  cases w : frz ev with
  | none => rw [w] at q; exact (stuck rfl q).elim
  | some d =>
    rw [w] at q
    have rd := RepE.frz g0 s r w
    cases d with
    | tup ds =>
      obtain ⟨g, k⟩ := trx_ret q
      obtain ⟨a, vs, e1, h0, h1, h2⟩ := rd
      exact ⟨a, vs, e1, SqT.of h1, fun hz => k _ H1 (Step.refl g) (itok_tup hz ⟨h0, h1⟩ h2)⟩
    | _ => exact (stuck rfl q).elim
theorem qi_str (h : QE T X e f) : QI T X tg e (M.bind f fun ev => match frz ev with | some (.str s) => if s.length ≤ 1000000 then M.ret (s.map fun c => D.str [c]) else M.stuck | _ => M.stuck) := fun pn xe W tk hp => impI (pi_str (h pn xe W tk hp)) fun σ H Q ⟨ex, env, q⟩ => by
  have g0 := q.1
  refine ⟨ex, env, (trx_bind (relE X.K T) rmI q).mono fun v H1 ⟨ev, env1, s, r, q⟩ => ?_⟩
  have stuck : ∀ {f : M (List D)}, f = M.stuck → trx X.K T (relI X.K T) ex f env1 W σ H1 Q → False := fun e ⟨_, _, q, _⟩ => by rw [e] at q; cases q
  cases w : frz ev with
  | none => rw [w] at q; exact (stuck rfl q).elim
  | some d =>
    rw [w] at q
    have rd := RepE.frz g0 s r w
    cases d with
    | str z =>
      dsimp only at q
      by_cases hz : z.length ≤ 1000000
      · rw [if_pos hz] at q
        obtain ⟨g, k⟩ := trx_ret q
        exact ⟨mkS z, rd, k _ H1 (Step.refl g) (itok_str hz)⟩
      · rw [if_neg hz] at q; exact (stuck rfl q).elim
    | _ => exact (stuck rfl q).elim
end
theorem qi_of {T : Tab} {X : Cx} {tg e : Expr} {f : M EV} (h : QE T X e f) : QI T X tg e (iOf f) := fun pn xe W tk hp => ⟨fun pins s σ H Q I ⟨ex, env, gd, r, er, o⟩ => by
  unfold iOf M.bind at er
  cases q : f env with
  | none => rw [q] at er; cases er
  | some ra =>
    rw [q] at er
    cases ra with
    | exc x e1 =>
      cases er
      exact (qi_lst h pn xe W tk hp).run pins s σ H Q I ⟨ex, env, gd, .exc x e1, by simp only [M.bind, q], o⟩
    | ok ev e1 =>
      dsimp only at er
      cases w : frz ev with
      | none => rw [w] at er; cases er
      | some d =>
        rw [w] at er
        cases d with
        | lst ds => cases er; exact (qi_lst h pn xe W tk hp).run pins s σ H Q I ⟨ex, env, gd, .ok ds e1, by simp only [M.bind, q, w]; rfl, o⟩
        | tup ds => cases er; exact (qi_tup h pn xe W tk hp).run pins s σ H Q I ⟨ex, env, gd, .ok ds e1, by simp only [M.bind, q, w]; rfl, o⟩
        | str z =>
          have er : lift (if z.length ≤ 1000000 then some (z.map fun c => D.str [c]) else none) e1 = some r := er
          by_cases hz : z.length ≤ 1000000
          · rw [if_pos hz] at er
            cases er
            exact (qi_str h pn xe W tk hp).run pins s σ H Q I ⟨ex, env, gd, .ok _ e1, by simp only [M.bind, q, w, if_pos hz]; rfl, o⟩
          · rw [if_neg hz] at er; cases er
        | _ => cases er⟩
def rangeD (lo hi : Int) : List D := (List.range (hi - lo).toNat).map fun (i : Nat) => D.int (lo + (i : Int))
def small62 (i : Int) : Bool := decide (-1000000 ≤ i ∧ i ≤ 1000000)
def iRange1 (fs : M (List AV)) : M (List D) := M.bind fs fun as => match as with
  | [.v (.int j)] => if small62 j = true then M.ret (rangeD 0 j) else M.stuck
  | _ => M.stuck
section
variable {T : Tab} {X : Cx} {tg a b : Expr} {fs : M (List AV)} {p pos : Pos}
theorem int_of {K : PySem.W.Frag} {T : Tab} {ex : Addr → Prop} {σ : St} {env : Sl} {H : Hp} {v : V} {j : Int} (r : RepA K T ex σ env H v (.v (.int j))) : v = .int j := r
theorem qi_range1 (hg : Gl X "range") (hm : X.mg "range" = none) (h : QAs T X [a] fs) (hs : starEach [a] X.env = [(false, eval a X.env)] := by rfl) : QI T X tg (.Call (.Name "range" p) [a] [] pos) (iRange1 fs) := fun pn xe W tk hp => impI (pi_range1 (X := X.tr pn xe) hg hm (h pn xe W tk hp) hs) fun σ H Q ⟨ex, env, q⟩ => by
  refine ⟨ex, env, (trx_bind (relAs X.K T) rmI q).mono fun vs H1 ⟨as, env1, s, r, q⟩ => ?_⟩
  have stuck : ∀ {f : M (List D)}, f = M.stuck → trx X.K T (relI X.K T) ex f env1 W σ H1 Q → False := fun e ⟨_, _, q, _⟩ => by rw [e] at q; cases q
  split at q
  · rename_i j
    by_cases hj : small62 j = true
    · rw [if_pos hj] at q
      obtain ⟨g, k⟩ := trx_ret q
      have hj' := of_decide_eq_true hj
      cases r with
      | cons r1 r2 =>
        cases r2
        have e := int_of r1
        subst e
        refine ⟨j, rfl, by omega, by omega, k _ H1 (Step.refl g) ?_⟩
        have : ItOK X.K T (exO ex σ env1) H1 (Itr 0 j.toNat) ((List.range j.toNat).map fun (i : Nat) => D.int (0 + (i : Int))) := itok_range (by omega)
        unfold relI rangeD
        rw [Int.sub_zero]
        exact this
    · rw [if_neg hj] at q; exact (stuck rfl q).elim
  · exact (stuck rfl q).elim
end

/-! ### targets -/
def trG (K : PySem.W.Frag) (T : Tab) (np : Nat → Bool) (t : D → Sl → Option Sl) : TG := fun v σ H Q => ∃ ex env d env', Good K T ex σ H env ∧ Rep K T (exO ex σ env) H d v ∧ t d env = some env' ∧ ∀ σ' H', SStep K T np ex σ H env σ' H' env' → Q σ' H'
def QG (T : Tab) (X : Cx) (np : Nat → Bool) (tg : Expr) (t : D → Sl → Option Sl) : Prop := ∀ pn xe, PG (X.tr pn xe) tg (trG X.K T np t)
def gN (i : Nat) : D → Sl → Option Sl := fun d env => some (env.set i (.val d))
def gsNil : List D → Sl → Option Sl := fun ds env => match ds with
  | [] => some env
  | _ => none
def gsCons (t : D → Sl → Option Sl) (u : List D → Sl → Option Sl) : List D → Sl → Option Sl := fun ds env => match ds with
  | d :: r => (t d env).bind fun e => u r e
  | [] => none
def gT (u : List D → Sl → Option Sl) : D → Sl → Option Sl := fun d env => match d with
  | .tup ds => u ds env
  | _ => none
def trGs (K : PySem.W.Frag) (T : Tab) (np : Nat → Bool) (t : List D → Sl → Option Sl) : TGs := fun vs σ H Q => ∃ ex env ds env', Good K T ex σ H env ∧ RepL K T (exO ex σ env) H ds vs ∧ t ds env = some env' ∧ ∀ σ' H', SStep K T np ex σ H env σ' H' env' → Q σ' H'
def QGs (T : Tab) (X : Cx) (np : Nat → Bool) (tgs : List Expr) (n : Nat) (t : List D → Sl → Option Sl) : Prop := (∀ ds env env', t ds env = some env' → ds.length = n) ∧ ∀ pn xe, PGs (X.tr pn xe) tgs (trGs X.K T np t)
section
variable {T : Tab} {X : Cx} {np : Nat → Bool} {n : Nat} {pos : Pos} {e : Expr} {es : List Expr} {t : D → Sl → Option Sl} {u : List D → Sl → Option Sl}
theorem qg_name (i : Nat) {x : Str} (hN : X.N.Nodup) (hi : X.N[i]? = some x := by rfl) (hx : Loc X.env.scope x := by first | exact Or.inl rfl | exact Or.inr rfl) (hnp : np i = false := by rfl)
    (hf : X.fn x = true ∨ X.env.scope.names.lookup x = some .local := by first | exact .inl rfl | exact .inr rfl) : QG T X np (.Name x pos) (gN i) := fun pn xe => impG (pg_name (X := X.tr pn xe) hN hi hx hf) fun v σ H Q ⟨ex, env, d, env', g, r, e, k⟩ => by
  cases e
  exact k _ H (Good.store (ev := .v d) hnp g (Step.refl g) r)
theorem qgs_nil : QGs T X np [] 0 gsNil := by
  refine ⟨fun ds env env' h => (by cases ds <;> first | rfl | cases h), fun pn xe => ⟨fun pins s σ H vs us Q I rv ⟨ex, env, ds, env', g, r, e, k⟩ => ?_⟩⟩
  cases ds with
  | nil =>
    cases e
    have : vs = [] := r
    subst this
    exact pgs_nil.run pins s σ H [] us Q I rv ⟨rfl, k σ H (SStep.refl g)⟩
  | cons d r => cases e
theorem RepL.sstep {K : PySem.W.Frag} {ex : Addr → Prop} {σ σ' : St} {H H' : Hp} {env env' : Sl} {ds : List D} {vs : List V} (s : SStep K T np ex σ H env σ' H' env') (r : RepL K T (exO ex σ env) H ds vs) : RepL K T (exO ex σ' env') H' ds vs :=
  r.monoT fun a o n e => ⟨(fun q => by
    rcases q with q | q
    · exact n (.inl q)
    · rcases s.owns q with q | q
      · exact n (.inr q)
      · rw [q] at e; exact nomatch e), s.fr a o e fun q => n (.inr q)⟩
theorem qgs_cons (h : QG T X np e t) (k : QGs T X np es n u) (hs : (assignEach (e :: es) X.env).map (·.2) = assign e X.env :: (assignEach es X.env).map (·.2) := by rfl) : QGs T X np (e :: es) (n + 1) (gsCons t u) := by
  refine ⟨fun ds env env' q => ?_, fun pn xe => ⟨fun pins s σ H vs us Q I rv ⟨ex, env, ds, env', g, r, eq, kk⟩ => ?_⟩⟩
  · cases ds with
    | nil => cases q
    | cons d r => obtain ⟨e1, _, q⟩ := opt_bind q; simp [k.1 r e1 env' q]
  · cases ds with
    | nil => cases eq
    | cons d rs =>
      obtain ⟨e1, q1, q2⟩ := opt_bind eq
      obtain ⟨v, vr, ev, h1, h2⟩ := r
      subst ev
      refine (pgs_cons (h pn xe) (k.2 pn xe) hs).run pins s σ H _ us Q I rv ⟨v, vr, rfl, ex, env, d, e1, g, h1, q1, fun σ' H' s => ?_⟩
      exact ⟨ex, e1, rs, env', s.gd, h2.sstep s, q2, fun σ2 H2 s2 => kk σ2 H2 (s.trans s2)⟩
theorem qg_tup {k : Nat} (hc : X.calm = true) (h : QGs T X np es n u) (hn : (assignEach es X.env).length = n := by rfl) (hst : (assignEach es X.env).findIdx? (·.1) = none := by rfl) : QG T X np (.Tuple es k pos) (gT u) := fun pn xe => impG (pg_tup (X := X.tr pn xe) hc (h.2 pn xe) hn hst) fun v σ H Q ⟨ex, env, d, env', g, r, e, kk⟩ => by
  cases d with
  | tup ds =>
    obtain ⟨a, vs, e1, h0, h1, h2⟩ := r
    exact ⟨a, vs, e1, SqT.of h1, by rw [← h2.length]; exact h.1 ds env env' e, ex, env, ds, env', g, h2, e, kk⟩
  | _ => cases e
end

/-! ### for -/
def forL (t : D → Sl → Option Sl) (body : S) : List D → Sl → Option SR
  | [], env => some (.nx env)
  | d :: ds, env => match t d env with
    | none => none
    | some e1 => match body e1 with
      | some (.nx e) => forL t body ds e
      | some (.ct e) => forL t body ds e
      | some (.bk e) => some (.nx e)
      | some (.rt v e) => some (.rt v e)
      | some (.exc x e) => some (.exc x e)
      | none => none
def sFor (f : M (List D)) (t : D → Sl → Option Sl) (body : S) : S := sE f fun ds => forL t body ds
section
variable {T : Tab} {X : Cx} {np : Nat → Bool} {pos : Pos} {tg iter : Expr} {body : List Stmt} {f : M (List D)} {t : D → Sl → Option Sl} {b : S}
theorem qs_for (hc : X.calm = true) (hi : QI T X tg iter f) (hg : QG T X np tg t) (hb : QSs T X np body b) (hs : ∀ x, foldedSetIterable iter X.env x = pure x := by intro _; rfl) : QS T X np (.For tg iter body [] pos) (sFor f t b) := fun pn xe W tk hp => by
  refine impS (ps_for (X := X.tr pn xe) hp hc (hi pn xe W tk hp) (hg pn xe) (hb pn xe W tk hp) hs) fun D σ H q => ?_
  obtain ⟨ex, env, z⟩ := trS_expr q (relI X.K T)
  refine ⟨ex, env, z.mono fun J H1 ⟨ex, env0, H0, env1, items, g0, s0, it, ⟨g1, r, er, o⟩, _⟩ => ?_⟩
  have it : ItOK X.K T (exO ex σ env1) H1 J items := it
  refine ⟨fun i m σi Hi => m = items.length - i ∧ i ≤ items.length ∧ ∃ envi, SStep X.K T np ex σ H1 env1 σi Hi envi ∧ forL t b (items.drop i) envi = some r, ⟨items.length, by simp, Nat.zero_le _, env1, SStep.refl g1, by simpa using er⟩, ?_⟩
  rintro i m σi Hi ⟨rfl, hi, envi, s, e⟩
  have keep : Keep (exO ex σ env1) H1 Hi := fun b o n q => s.fr b o q fun z => n (.inr z)
  by_cases hlt : i < items.length
  · refine .inr ⟨it.go i Hi hlt keep, fun σ' H' => ∃ m', m' < items.length - i ∧ m' = items.length - (i + 1) ∧ i + 1 ≤ items.length ∧ ∃ envi, SStep X.K T np ex σ H1 env1 σ' H' envi ∧ forL t b (items.drop (i + 1)) envi = some r, fun σ' H' ⟨m', h1, h2, h3, h4⟩ => ⟨m', h1, h2, h3, h4⟩, fun x H' y => ?_⟩
    have hd : items.drop i = items[i] :: items.drop (i + 1) := List.drop_eq_getElem_cons hlt
    rw [hd] at e
    unfold forL at e
    obtain ⟨ext, rep⟩ := it.yld i Hi x H' items[i] (List.getElem?_eq_getElem hlt) keep y
    have gi := s.gd.ext ext
    have se : SStep X.K T np ex σi Hi envi σi H' envi := (Step.ext s.gd ext).s
    have rd : Rep X.K T (exO ex σi envi) H' items[i] x := rep _ (fun b o nb q z => by
      rcases z with z | z
      · exact nb (.inl z)
      · rcases s.owns z with z | z
        · exact nb (.inr z)
        · rw [z] at q; cases q) s.gd.dm
    cases q1 : t items[i] envi with
    | none => rw [q1] at e; cases e
    | some e1 =>
      rw [q1] at e
      dsimp only at e
      refine ⟨ex, envi, _, e1, gi, rd, q1, fun σ2 H2 s2 => ?_⟩
      have s12 := (s.trans se).trans s2
      cases q2 : b e1 with
      | none => rw [q2] at e; cases e
      | some rb =>
        rw [q2] at e
        refine ⟨ex, e1, s2.gd, rb, q2, ?_⟩
        cases rb with
        | nx e3 => exact fun σ3 H3 s3 => ⟨items.length - (i + 1), by omega, rfl, hlt, e3, s12.trans s3, e⟩
        | ct e3 => exact fun σ3 H3 s3 => ⟨items.length - (i + 1), by omega, rfl, hlt, e3, s12.trans s3, e⟩
        | bk e3 => cases e; exact fun σ3 H3 s3 => o σ3 H3 (s12.trans s3)
        | rt v e3 => cases e; exact fun v σ3 H3 s3 rr => o v σ3 H3 (s12.trans s3) (RepR.trans s12 rr)
        | exc x e3 => cases e; exact fun c d σ3 H3 s3 rx => o c d σ3 H3 (s12.trans s3) rx
  · have ei : i = items.length := by omega
    subst ei
    rw [List.drop_length] at e
    cases e
    exact .inl ⟨it.stop Hi keep, o σi Hi s⟩
end

/-! ### while -/
def whileL (c : M Bool) (body : S) : Nat → Sl → Option SR
  | 0, _ => none
  | n + 1, env => match c env with
    | some (.ok true e1) => match body e1 with
      | some (.nx e) => whileL c body n e
      | some (.ct e) => whileL c body n e
      | some (.bk e) => some (.nx e)
      | some (.rt v e) => some (.rt v e)
      | some (.exc x e) => some (.exc x e)
      | none => none
    | some (.ok false e1) => some (.nx e1)
    | some (.exc x e) => some (.exc x e)
    | none => none
def sWhile (fuel : Nat) (c : M Bool) (body : S) : S := whileL c body fuel
section
variable {T : Tab} {X : Cx} {np : Nat → Bool} {pos : Pos} {test : Expr} {body : List Stmt} {c : M Bool} {b : S}
theorem qs_while (fuel : Nat) (hc : QT T X test c) (hb : QSs T X np body b) : QS T X np (.While test body [] pos) (sWhile fuel c b) := fun pn xe W tk hp => by
  refine impS (ps_while (X := X.tr pn xe) hp (hc pn xe W tk hp) (hb pn xe W tk hp)) fun D σ H ⟨ex, env, g, r, er, o⟩ => ?_
  refine ⟨fun m σi Hi => ∃ envi, SStep X.K T np ex σ H env σi Hi envi ∧ whileL c b m envi = some r, ⟨fuel, env, SStep.refl g, er⟩, ?_⟩
  rintro m σi Hi ⟨envi, s, e⟩
  cases m with
  | zero => cases e
  | succ m =>
    unfold whileL at e
    refine ⟨ex, envi, s.gd, ?_⟩
    cases q1 : c envi with
    | none => rw [q1] at e; cases e
    | some rc =>
      rw [q1] at e
      refine ⟨rc, rfl, ?_⟩
      cases rc with
      | exc x e1 => cases e; exact fun cl d H' s1 rx => o cl d σi H' (s.trans s1.s) rx
      | ok k e1 =>
        intro k' H2 s1 ek
        have ek : k' = k := ek
        subst ek
        have s12 := s.trans s1.s
        cases k' with
        | false => cases e; exact o σi H2 s12
        | true =>
          dsimp only at e
          refine iteT ⟨fun σ' H' => ∃ m', m' < m + 1 ∧ ∃ envi, SStep X.K T np ex σ H env σ' H' envi ∧ whileL c b m' envi = some r, fun σ' H' q => q, ?_⟩
          cases q2 : b e1 with
          | none => rw [q2] at e; cases e
          | some rb =>
            rw [q2] at e
            refine ⟨ex, e1, s1.gd, rb, q2, ?_⟩
            cases rb with
            | nx e3 => exact fun σ3 H3 s3 => ⟨m, by omega, e3, s12.trans s3, e⟩
            | ct e3 => exact fun σ3 H3 s3 => ⟨m, by omega, e3, s12.trans s3, e⟩
            | bk e3 => cases e; exact fun σ3 H3 s3 => o σ3 H3 (s12.trans s3)
            | rt v e3 => cases e; exact fun v σ3 H3 s3 rr => o v σ3 H3 (s12.trans s3) (RepR.trans s12 rr)
            | exc x e3 => cases e; exact fun c d σ3 H3 s3 rx => o c d σ3 H3 (s12.trans s3) rx
end
end Dt
end
section
set_option maxRecDepth 100000
set_option maxHeartbeats 4000000
/-! QH: list comprehensions. -/
namespace Dt
open PySem PySem.Spec L2
open PyProof.Rows hiding St

def wipeE (env : Sl) : List Nat → Sl
  | [] => env
  | v :: vs => (wipeE env vs).set v .emp
theorem wipeE_len (env : Sl) : ∀ vs, (wipeE env vs).length = env.length
  | [] => rfl
  | v :: vs => by unfold wipeE; rw [List.length_set, wipeE_len env vs]
theorem wipeE_get {env : Sl} {i : Nat} {s : Slot} : ∀ {vs : List Nat}, (wipeE env vs)[i]? = some s → s = .emp ∨ (i ∉ vs ∧ env[i]? = some s)
  | [], h => .inr ⟨by simp, h⟩
  | v :: vs, h => by
    unfold wipeE at h
    rcases set_get h with ⟨_, e, _⟩ | ⟨h1, h2⟩
    · exact .inl e
    · rcases wipeE_get h2 with e | ⟨e1, e2⟩
      · exact .inl e
      · exact .inr ⟨by simp only [List.mem_cons, not_or]; exact ⟨h1, e1⟩, e2⟩
theorem wipe_in {σ : St} {i : Nat} : ∀ {vs : List Nat}, i ∈ vs → i < σ.length → (wipe σ vs)[i]? = some none
  | v :: vs, h, hl => by
    unfold wipe
    by_cases e : i = v
    · subst e
      rw [List.getElem?_set_self (by rw [wipe_length]; exact hl)]
    · rw [List.getElem?_set_ne (Ne.symm e)]
      exact wipe_in ((List.mem_cons.mp h).resolve_left e) hl
theorem wipe_eq {σ τ : St} {vs : List Nat} (hl : τ.length = σ.length) (h : ∀ i, i ∉ vs → τ[i]? = σ[i]?) : wipe τ vs = wipe σ vs := by
  refine List.ext_getElem? fun i => ?_
  by_cases hi : i ∈ vs
  · by_cases hs : i < σ.length
    · rw [wipe_in hi hs, wipe_in hi (by rw [hl]; exact hs)]
    · rw [List.getElem?_eq_none (by rw [wipe_length]; omega), List.getElem?_eq_none (by rw [wipe_length]; omega)]
  · rw [wipe_out hi, wipe_out hi, h i hi]

section
variable {K : PySem.W.Frag} {T : Tab} {ex : Addr → Prop} {σ τ : St} {H H' : Hp} {env env' : Sl}
/-- fewer slots are told, at σ in place of τ -/
theorem Good.wipe {vs : List Nat} (g : Good K T ex τ H env) (hl : τ.length = σ.length) (h : ∀ i, i ∉ vs → τ[i]? = σ[i]?) : Good K T ex σ H (wipeE env vs) := by
  have get : ∀ {j : Nat} {s : Slot}, (wipeE env vs)[j]? = some s → s ≠ .emp → env[j]? = some s ∧ σ[j]? = τ[j]? := fun {j s} e n => by
    rcases wipeE_get e with e | ⟨e1, e2⟩
    · exact absurd e n
    · exact ⟨e2, (h j e1).symm⟩
  have mo : ∀ a o, ¬ exO ex τ env a → H a = some o → ¬ exO ex σ (wipeE env vs) a ∧ H a = some o := fun a o n e => ⟨fun z => n (by
    rcases z with z | ⟨j, c, e1, e2⟩
    · exact .inl z
    · obtain ⟨e3, e4⟩ := get e1 (fun z => nomatch z)
      rw [e4] at e2
      exact .inr ⟨j, c, e3, e2⟩), e⟩
  refine ⟨by rw [wipeE_len, g.len, hl], fun i d e => ?_, fun i c e => ?_, fun i j a c c' e1 e2 e3 e4 => ?_, g.dom, g.tb⟩
  · obtain ⟨e1, e2⟩ := get e (fun z => nomatch z)
    obtain ⟨v, e3, r⟩ := g.val i d e1
    exact ⟨v, by rw [e2]; exact e3, r.mono mo⟩
  · obtain ⟨e1, e2⟩ := get e (fun z => nomatch z)
    obtain ⟨a, e3, n, r⟩ := g.own i c e1
    exact ⟨a, by rw [e2]; exact e3, n, r.mono rfl mo⟩
  · obtain ⟨f1, f2⟩ := get e1 (fun z => nomatch z)
    obtain ⟨f3, f4⟩ := get e2 (fun z => nomatch z)
    exact g.inj i j a c c' f1 f3 (by rw [← f2]; exact e3) (by rw [← f4]; exact e4)
theorem owns_wipe {vs : List Nat} (h : ∀ i, i ∉ vs → τ[i]? = σ[i]?) {a : Addr} (w : Owns σ (wipeE env vs) a) : Owns τ env a := by
  obtain ⟨i, c, e1, e2⟩ := w
  rcases wipeE_get e1 with e | ⟨e3, e4⟩
  · cases e
  · exact ⟨i, c, e4, by rw [h i e3]; exact e2⟩
theorem Good.less {x : Addr} (g : Good K T (fun b => ex b ∨ b = x) σ H env) : Good K T ex σ H env := by
  have mo : ∀ b o, ¬ exO (fun b => ex b ∨ b = x) σ env b → H b = some o → ¬ exO ex σ env b ∧ H b = some o := fun b o n q => ⟨fun z => n (z.imp .inl id), q⟩
  refine ⟨g.len, fun j d q => ?_, fun j c' q => ?_, g.inj, fun b h => g.dom b (.inl h), g.tb⟩
  · obtain ⟨v, e1, r⟩ := g.val j d q
    exact ⟨v, e1, r.mono mo⟩
  · obtain ⟨b, e1, n, r⟩ := g.own j c' q
    exact ⟨b, e1, fun z => n (.inl z), r.mono rfl mo⟩
/-- another heap that differs at what is not met alone -/
theorem Good.chg (g : Good K T ex σ H env) (k : ∀ b o, ¬ ex b → H b = some o → H' b = some o) (d : ∀ b, ex b → H' b ≠ none) (tb : LamX.Tabs T.tb H') : Good K T ex σ H' env := by
  have mo : ∀ b o, ¬ exO ex σ env b → H b = some o → ¬ exO ex σ env b ∧ H' b = some o := fun b o n q => ⟨n, k b o (fun z => n (.inl z)) q⟩
  refine ⟨g.len, fun j d q => ?_, fun j c' q => ?_, g.inj, d, tb⟩
  · obtain ⟨v, e1, r⟩ := g.val j d q
    exact ⟨v, e1, r.mono mo⟩
  · obtain ⟨b, e1, n, r⟩ := g.own j c' q
    refine ⟨b, e1, n, r.mono ?_ mo⟩
    cases w : H b with
    | none => exact absurd w r.there
    | some o => exact k b o n w
end

/-- one turn after another: the items so far, the slots -/
def compL (vs : List Nat) (t : D → Sl → Option Sl) (c : M Bool) (f : M EV) : List D → List D → Sl → Option (List D × Sl)
  | [], acc, env => some (acc, env)
  | d :: ds, acc, env => match t d env with
    | none => none
    | some e1 => match c e1 with
      | some (.ok true e2) => match f e2 with
        | some (.ok ev e3) => match frz ev with
          | some x => compL vs t c f ds (acc ++ [x]) (wipeE e3 vs)
          | none => none
        | _ => none
      | some (.ok false e2) => compL vs t c f ds acc (wipeE e2 vs)
      | _ => none
def eComp (vs : List Nat) (items : M (List D)) (t : D → Sl → Option Sl) (c : M Bool) (f : M EV) : M EV := M.bind items fun ds => fun env => match compL vs t c f ds [] (wipeE env vs) with
  | some (acc, e) => some (.ok (.o (.lst acc)) e)
  | none => none
def bYes : M Bool := M.ret true
/-- protected: all but the block's own slots -/
def but (vs : List Nat) : Nat → Bool := fun i => !(vs.contains i)
/-- a judgement within a comprehension's block -/
def Blk (X : Cx) (scope : Scope) (J : Cx → Prop) : Prop := ∀ (s : Shared) (H : Hp) (C : Addr) (cl : List (Str × Addr)) (fp : List Addr), J (X.blk s H scope (compEnvC scope cl C X.env) fp)
def QTs (T : Tab) (X : Cx) (ifs : List Expr) (c : M Bool) : Prop := ∀ pn xe W, Takes (X.tr pn xe) W → PassesOwn (model X.prog X.w) X.A X.env xe → PTs (X.tr pn xe) ifs (tr X.K T relT c W)
theorem qts_nil {T : Tab} {X : Cx} : QTs T X [] bYes := fun pn xe W tk hp => ⟨fun pins s σ H Q I q => pts_nil.run pins s σ H Q I (tr_ret q fun _ _ => rfl)⟩
theorem qts_one {T : Tab} {X : Cx} {e : Expr} {c : M Bool} (h : QT T X e c) : QTs T X [e] c := fun pn xe W tk hp => pts_one (h pn xe W tk hp)

section
variable {T : Tab} {X : Cx} {elt tg iter : Expr} {ifs : List Expr} {scope : Scope} {own : List (Str × Nat)} {pos : Pos} {fi : M (List D)} {t : D → Sl → Option Sl} {c : M Bool} {f : M EV}
def W0 : WX := fun _ _ _ _ => False
/-- the turns of the block -/
theorem comp_turns {K : PySem.W.Frag} {ex : Addr → Prop} {σ : St} {H0 H1 : Hp} {env env1 envF : Sl} {J : It} {items acc : List D} {Dd : Addr} {vs : List Nat} (g0 : Good K T ex σ H0 env) (s0 : Step K T ex σ H0 env H1 env1) (it : ItOK K T (exO ex σ env1) H1 J items)
    (er : compL vs t c f items [] (wipeE env1 vs) = some (acc, envF)) (hD : H1 Dd = none) {Qd : Hp → Prop}
    (hq : ∀ H' vacc, Step K T ex σ H1 env1 H' envF → Good K T (fun b => ex b ∨ b = Dd) σ H' envF → H' Dd = some (.lst vacc) → RepL K T (fun b => exO ex σ envF b ∨ b = Dd) H' acc vacc → Qd H') :
    ∃ Wv : Nat → Nat → Hp → Prop, (∃ m, Wv 0 m (upd H1 Dd (.lst []))) ∧ ∀ i m H, Wv i m H →
      (J.stop i H ∧ Qd H) ∨ (J.go i H ∧ ∃ Nx : Hp → Prop, (∀ H', Nx H' → ∃ m', m' < m ∧ Wv (i + 1) m' H') ∧ ∀ x H', J.yld i H x H' → trG K T (but vs) t x (wipe σ vs) H' fun σ2 H2 => wipe σ2 vs = wipe σ vs ∧ tr K T relT c W0 σ2 H2 fun b H3 =>
        if b = true then tr K T (relE K T) f W0 σ2 H3 fun y H4 => ∃ acc, H4 Dd = some (.lst acc) ∧ acc.length < sizeLine ∧ Nx (upd H4 Dd (.lst (acc ++ [y]))) else Nx H3) := by
  -- the state between two turns
  let Inv := fun (i : Nat) (Hi : Hp) => ∃ acci envi vacc, compL vs t c f (items.drop i) acci envi = some (acc, envF) ∧ Step K T (fun b => ex b ∨ b = Dd) σ H1 env1 Hi envi ∧ Hi Dd = some (.lst vacc) ∧
    RepL K T (fun b => exO ex σ envi b ∨ b = Dd) Hi acci vacc ∧ acci.length ≤ i ∧ ∃ e0, envi = wipeE e0 vs
  have gd1 := s0.gd
  refine ⟨fun i m Hi => m = items.length - i ∧ i ≤ items.length ∧ Inv i Hi, ⟨items.length, by simp, Nat.zero_le _, [], wipeE env1 vs, [], by simpa using er, ?_, upd_same, .nil, Nat.le_refl _, env1, rfl⟩, ?_⟩
  · have gw : Good K T ex σ H1 (wipeE env1 vs) := gd1.wipe rfl fun _ _ => rfl
    refine ⟨fun b o e _ _ => ext_new hD b o e, fun b e => ?_, fun i c e => ?_, gw.more hD (ext_new hD) (by rw [upd_same]; exact fun z => nomatch z)⟩
    · cases q : H1 b with
      | none => exact absurd q e
      | some o => rw [ext_new hD b o q]; exact fun z => nomatch z
    · rcases wipeE_get e with e | ⟨_, e⟩
      · cases e
      · exact ⟨c, e⟩
  · rintro i m Hi ⟨rfl, hi, acci, envi, vacc, e, s, eD, ra, hai, e0, ew⟩
    have keep : Keep (exO ex σ env1) H1 Hi := fun b o n q => s.fr b o q fun z => n (.inr z)
    by_cases hlt : i < items.length
    case neg =>
      have ei : i = items.length := by omega
      subst ei
      rw [List.drop_length] at e
      cases e
      exact .inl ⟨it.stop Hi keep, hq Hi vacc ⟨s.fr, s.dm, s.sb, s.gd.less⟩ s.gd eD ra⟩
    case pos =>
    refine .inr ⟨it.go i Hi hlt keep, fun H' => ∃ m', m' < items.length - i ∧ m' = items.length - (i + 1) ∧ i + 1 ≤ items.length ∧ Inv (i + 1) H', fun H' ⟨m', h1, h2, h3, h4⟩ => ⟨m', h1, h2, h3, h4⟩, fun x H' y => ?_⟩
    have hd : items.drop i = items[i] :: items.drop (i + 1) := List.drop_eq_getElem_cons hlt
    rw [hd] at e
    unfold compL at e
    obtain ⟨ext, rep⟩ := it.yld i Hi x H' items[i] (List.getElem?_eq_getElem hlt) keep y
    cases q1 : t items[i] envi with
    | none => rw [q1] at e; cases e
    | some e1 =>
    rw [q1] at e
    dsimp only at e
    have gi := s.gd.ext ext
    -- in the block
    have σw : ∀ j, j ∉ vs → σ[j]? = (wipe σ vs)[j]? := fun j hj => (wipe_out hj).symm
    have gb : Good K T (fun b => ex b ∨ b = Dd) (wipe σ vs) H' envi := by
      have := gi.wipe (vs := vs) (σ := wipe σ vs) (wipe_length σ vs).symm σw
      rw [ew] at this ⊢
      have idem : wipeE (wipeE e0 vs) vs = wipeE e0 vs := by
        refine List.ext_getElem? fun j => ?_
        cases q : (wipeE (wipeE e0 vs) vs)[j]? with
        | none => rw [List.getElem?_eq_none_iff, wipeE_len] at q; rw [List.getElem?_eq_none q]
        | some sl =>
          rcases wipeE_get q with z | ⟨_, z⟩
          · subst z
            cases q2 : (wipeE e0 vs)[j]? with
            | none => rw [List.getElem?_eq_none_iff, ← wipeE_len (wipeE e0 vs) vs] at q2; rw [List.getElem?_eq_none q2] at q; cases q
            | some s2 =>
              rcases wipeE_get q2 with z | ⟨hj, _⟩
              · rw [z]
              · have : ∀ {vs : List Nat} {env : Sl}, j ∉ vs → (wipeE env vs)[j]? = env[j]? := by
                  intro vs
                  induction vs with
                  | nil => intro env _; rfl
                  | cons v vs ih =>
                    intro env h
                    simp only [List.mem_cons, not_or] at h
                    unfold wipeE
                    rw [List.getElem?_set_ne (Ne.symm h.1)]
                    exact ih h.2
                rw [this hj, q2] at q
                exact q.symm ▸ rfl
          · exact z.symm
      rw [idem] at this
      exact this
    have rd : Rep K T (exO (fun b => ex b ∨ b = Dd) (wipe σ vs) envi) H' items[i] x := by
      refine rep _ (fun b o nb q z => ?_) (fun b z => ?_)
      · rcases z with (z | z) | z
        · exact nb (.inl z)
        · subst z; rw [hD] at q; cases q
        · refine nb (.inr (s.owns ?_))
          obtain ⟨j, c', f1, f2⟩ := z
          exact ⟨j, c', f1, (wipe_some f2).1⟩
      · have : exO (fun b => ex b ∨ b = Dd) σ envi b := by
          rcases z with z | ⟨j, c', f1, f2⟩
          · exact .inl z
          · exact .inr ⟨j, c', f1, (wipe_some f2).1⟩
        exact s.gd.dm b this
    refine ⟨fun b => ex b ∨ b = Dd, envi, _, e1, gb, rd, q1, fun σ2 H2 s2 => ?_⟩
    have par2 : ∀ j, j ∉ vs → σ2[j]? = (wipe σ vs)[j]? := fun j hj => s2.par j (by unfold but; simp [hj])
    have hw2 : wipe σ2 vs = wipe σ vs := by
      have h1 := wipe_eq (vs := vs) s2.ln par2
      rw [h1]
      exact wipe_eq (wipe_length σ vs) fun j hj => wipe_out hj
    refine ⟨hw2, ?_⟩
    have par3 : ∀ j, j ∉ vs → σ2[j]? = σ[j]? := fun j hj => (par2 j hj).trans (wipe_out hj)
    have ln3 : σ2.length = σ.length := s2.ln.trans (wipe_length σ vs)
    -- what the block leaves
    have ownb : ∀ {a}, Owns (wipe σ vs) envi a → Owns σ env1 a := fun ⟨j, c', f1, f2⟩ => s.owns ⟨j, c', f1, (wipe_some f2).1⟩
    have fin : ∀ {H3 : Hp} {e3 : Sl}, Step K T (fun b => ex b ∨ b = Dd) σ2 H2 e1 H3 e3 → (∀ b o, H1 b = some o → ¬ Owns σ env1 b → NT o → H3 b = some o) ∧ (∀ b, H1 b ≠ none → H3 b ≠ none) ∧
        (∀ (j : Nat) (c' : OC), (wipeE e3 vs)[j]? = some (.own c') → ∃ c', env1[j]? = some (.own c')) ∧ Good K T (fun b => ex b ∨ b = Dd) σ H3 (wipeE e3 vs) ∧ ∃ vb, H3 Dd = some (.lst vacc) ∧ RepL K T (fun b => exO ex σ (wipeE e3 vs) b ∨ b = Dd) H3 acci vb ∧ vb = vacc := fun {H3 e3} s3 => by
      have own3 : ∀ {a}, Owns σ2 e3 a → Owns (wipe σ vs) envi a ∨ H' a = none := fun z => s2.owns (s3.owns z)
      have frD : ∀ b o, H' b = some o → ¬ Owns (wipe σ vs) envi b → NT o → H3 b = some o := fun b o q n nt => s3.fr b o (s2.fr b o q n nt) (fun z => (s2.owns z).elim n fun z => by rw [z] at q; cases q) nt
      have nD : ¬ Owns (wipe σ vs) envi Dd := fun z => (gb.owned z).2 (.inr rfl)
      refine ⟨fun b o q n nt => frD b o (ext b o (s.fr b o q n nt)) (fun z => n (ownb z)) nt, fun b q => s3.dm b (s2.dm b ?_), fun j c' q => ?_, s3.gd.wipe ln3 par3, vacc, frD Dd _ (ext Dd _ eD) nD (fun _ z => nomatch z), ?_, rfl⟩
      · have := s.dm b q
        intro z
        cases w : Hi b with
        | none => exact this w
        | some o => rw [ext b o w] at z; cases z
      · rcases wipeE_get q with z | ⟨hj, z⟩
        · cases z
        · obtain ⟨c1, z1⟩ := s3.sb j c' z
          obtain ⟨c2, z2⟩ := s2.sbp j c1 (by unfold but; simp [hj]) z1
          exact s.sb j c2 z2
      · refine ra.monoT fun b o n q => ⟨fun z => ?_, frD b o (ext b o q) fun z => ?_⟩
        · rcases z with (z | z) | z
          · exact n (.inl (.inl z))
          · rcases own3 (owns_wipe par3 z) with z | z
            · obtain ⟨j, c', f1, f2⟩ := z
              exact n (.inl (.inr ⟨j, c', f1, (wipe_some f2).1⟩))
            · rw [ext b o q] at z; cases z
          · exact n (.inr z)
        · obtain ⟨j, c', f1, f2⟩ := z
          exact n (.inl (.inr ⟨j, c', f1, (wipe_some f2).1⟩))
    refine ⟨fun b => ex b ∨ b = Dd, e1, s2.gd, ?_⟩
    cases q2 : c e1 with
    | none => rw [q2] at e; cases e
    | some rc =>
    rw [q2] at e
    refine ⟨rc, rfl, ?_⟩
    cases rc with
    | exc x e2 => cases e
    | ok k e2 =>
    intro k' H3 s3 ek
    have ek : k' = k := ek
    subst ek
    cases k' with
    | false =>
      dsimp only at e
      refine iteF ?_
      obtain ⟨f1, f2, f3, f4, vb, f5, f6, f7⟩ := fin s3
      subst f7
      exact ⟨_, by omega, rfl, hlt, acci, _, vb, e, ⟨f1, f2, f3, f4⟩, f5, f6, by omega, e2, rfl⟩
    | true =>
      dsimp only at e
      refine iteT ⟨fun b => ex b ∨ b = Dd, e2, s3.gd, ?_⟩
      cases q3 : f e2 with
      | none => rw [q3] at e; cases e
      | some rf =>
      rw [q3] at e
      refine ⟨rf, rfl, ?_⟩
      cases rf with
      | exc x e3 => cases e
      | ok ev e3 =>
      intro yv H4 s4 rv
      dsimp only at e
      cases q4 : frz ev with
      | none => rw [q4] at e; cases e
      | some xd =>
      rw [q4] at e
      dsimp only at e
      have rd := RepE.frz s3.gd s4 rv q4
      obtain ⟨f1, f2, f3, f4, vb, f5, f6, f7⟩ := fin (s3.trans s4)
      subst f7
      have hlen := f6.length
      have hil := it.len
      refine ⟨vb, f5, by omega, _, by omega, rfl, hlt, acci ++ [xd], wipeE e3 vs, vb ++ [yv], e, ⟨fun b o q n nt => ?_, fun b q => ?_, f3, ?_⟩, upd_same, ?_, by simp; omega, e3, rfl⟩
      · rw [upd_ne (fun z => by subst z; rw [hD] at q; cases q)]
        exact f1 b o q n nt
      · by_cases z : b = Dd
        · subst z; rw [upd_same]; exact fun z => nomatch z
        · rw [upd_ne z]; exact f2 b q
      · refine f4.chg (fun b o n q => ?_) (fun b z => ?_) (tabs_upd f4.tb f5 (fun _ z => nomatch z) (fun _ z => nomatch z))
        · rw [upd_ne (fun z => n (.inr z))]; exact q
        · by_cases w : b = Dd
          · subst w; rw [upd_same]; exact fun z => nomatch z
          · rw [upd_ne w]; exact f4.dom b z
      · have rd' : Rep K T (fun b => exO ex σ (wipeE e3 vs) b ∨ b = Dd) H4 xd yv := rd.mono fun b o n q => ⟨fun z => n (by
          rcases z with (z | z) | z
          · exact .inl (.inl z)
          · exact .inr (owns_wipe par3 z)
          · exact .inl (.inr z)), q⟩
        refine (f6.append (RepL.one rd')).mono fun b o n q => ⟨n, ?_⟩
        rw [upd_ne (fun z => n (.inr z))]; exact q

theorem qe_comp (hc : X.calm = true) (hN : X.N.Nodup) (hi : QI T X tg iter fi) (ok : BlkOk X.N X.env.scope scope own)
    (hg : Blk X scope fun Y => QG T Y (but (own.map (·.2))) tg t) (ht : Blk X scope fun Y => QTs T Y ifs c) (he : Blk X scope fun Y => QE T Y elt f) (hs : ∀ x, foldedSetIterable iter X.env x = pure x := by intro _; rfl) :
    QE T X (.ListComp elt [⟨tg, iter, ifs, 0⟩] scope pos) (eComp (own.map (·.2)) fi t c f) := fun pn xe W tk hp => by
  refine impE (pe_lc (X := X.tr pn xe) (g := trG X.K T (but (own.map (·.2))) t) (tt := tr X.K T relT c W0) (te := tr X.K T (relE X.K T) f W0) hc hN (hi pn xe W tk hp) ok (fun s H C cl fp => hg s H C cl fp [] fun _ _ => False) (fun s H C cl fp => ht s H C cl fp [] (fun _ _ => False) W0 takes0 .never)
    (fun s H C cl fp => he s H C cl fp [] (fun _ _ => False) W0 takes0 .never) hs) fun σ H Q q => ?_
  obtain ⟨ex, env, q⟩ := q
  have g0 := q.1
  refine ⟨ex, env, (trx_bind (relI X.K T) rmE q).mono fun J H1 ⟨items, env1, s0, it, q⟩ D hD => ?_⟩
  obtain ⟨g1, r, er, o⟩ := q
  dsimp only at er
  cases w : compL (own.map (·.2)) t c f items [] (wipeE env1 (own.map (·.2))) with
  | none => rw [w] at er; cases er
  | some p =>
    obtain ⟨acc, envF⟩ := p
    rw [w] at er
    cases er
    exact comp_turns (Qd := fun H' => Q (.ref D) H') g0 s0 it w hD fun H' vacc s gD eD ra => o (.ref D) H' s ⟨D, rfl, hD, ⟨vacc, eD, ra⟩, gD⟩
/-- name = [..] on one line -/
theorem qs_setComp {np : Nat → Bool} {y : Str} {py spos : Pos} (i : Nat) (hc : X.calm = true) (hN : X.N.Nodup) (hi : QI T X tg iter fi) (ok : BlkOk X.N X.env.scope scope own)
    (hg : Blk X scope fun Y => QG T Y (but (own.map (·.2))) tg t) (ht : Blk X scope fun Y => QTs T Y ifs c) (he : Blk X scope fun Y => QE T Y elt f) (hyl : X.env.scope.names.lookup y = some .local := by rfl)
    (hsw : swapsWith (.ListComp elt [⟨tg, iter, ifs, 0⟩] scope pos) (some (.Name y py)) spos.line X.env = pure true := by exact sw_true rfl rfl rfl (by decide +kernel)) (hy : X.N[i]? = some y := by rfl) (hnp : np i = false := by rfl) (hs : ∀ x, foldedSetIterable iter X.env x = pure x := by intro _; rfl) :
    QS T X np (.Assign [.Name y py] (.ListComp elt [⟨tg, iter, ifs, 0⟩] scope pos) spos) (sSet i (eComp (own.map (·.2)) fi t c f)) := fun pn xe W tk hp => by
  refine impS (ps_setLc (X := X.tr pn xe) (g := trG X.K T (but (own.map (·.2))) t) (tt := tr X.K T relT c W0) (te := tr X.K T (relE X.K T) f W0) hc hN hy hyl hsw (hi pn xe W tk hp) ok (fun s H C cl fp => hg s H C cl fp [] fun _ _ => False) (fun s H C cl fp => ht s H C cl fp [] (fun _ _ => False) W0 takes0 .never)
    (fun s H C cl fp => he s H C cl fp [] (fun _ _ => False) W0 takes0 .never) hs) fun Dn σ H q => ?_
  obtain ⟨ex, env, z⟩ := trS_expr q (relE X.K T)
  have g0 := z.1
  refine ⟨ex, env, (trx_bind (relI X.K T) rmE z).mono fun J H1 ⟨items, env1, s0, it, q⟩ D hD => ?_⟩
  obtain ⟨g1, r, er, o⟩ := q
  dsimp only at er
  cases w : compL (own.map (·.2)) t c f items [] (wipeE env1 (own.map (·.2))) with
  | none => rw [w] at er; cases er
  | some p =>
    obtain ⟨acc, envF⟩ := p
    rw [w] at er
    cases er
    refine comp_turns (Qd := fun H' => gName i (.ref D) σ H' Dn.nx) g0 s0 it w hD fun H' vacc s gD eD ra => ?_
    obtain ⟨ex2, env2, H02, env3, a, g2, s2, ra2, _, r2, e2, o2⟩ := o (.ref D) H' s ⟨D, rfl, hD, ⟨vacc, eD, ra⟩, gD⟩
    cases e2
    exact o2 _ H' (Good.store hnp g2 s2 ra2)
end
end Dt
end
section
set_option maxRecDepth 100000
set_option maxHeartbeats 4000000
/-! QI: what is owned is changed; fields; methods; objects made; raise, try. -/
namespace Dt
open PySem PySem.Spec L2
open PyProof.Rows hiding St

section
variable {K : PySem.W.Frag} {T : Tab} {ex : Addr → Prop} {σ : St} {H H' : Hp} {env env' : Sl}
theorem Good.mut (g : Good K T ex σ H env) {i : Nat} {c c' : OC} {a : Addr} {o : HO} (e : env[i]? = some (.own c)) (ea : σ[i]? = some (some (V.ref a))) (r : RepO K T (exO ex σ env) (upd H a o) a c') :
    Step K T ex σ H env (upd H a o) (env.set i (.own c')) ∧ ∀ b, exO ex σ (env.set i (.own c')) b ↔ exO ex σ env b := by
  have hi : i < env.length := (List.getElem?_eq_some_iff.mp e).1
  have ow : ∀ {b}, Owns σ (env.set i (.own c')) b ↔ Owns σ env b := fun {b} => by
    constructor
    · rintro ⟨j, d, e1, e2⟩
      rcases set_get e1 with ⟨h, _, _⟩ | ⟨_, h⟩
      · subst h; exact ⟨j, c, e, e2⟩
      · exact ⟨j, d, h, e2⟩
    · rintro ⟨j, d, e1, e2⟩
      by_cases h : j = i
      · subst h; exact ⟨j, c', List.getElem?_set_self hi, e2⟩
      · exact ⟨j, d, by rw [List.getElem?_set_ne (Ne.symm h)]; exact e1, e2⟩
  have exq : ∀ b, exO ex σ (env.set i (.own c')) b ↔ exO ex σ env b := fun b => or_congr Iff.rfl ow
  have ex2 : exO ex σ (env.set i (.own c')) = exO ex σ env := funext fun b => propext (exq b)
  have oa : Owns σ env a := ⟨i, c, e, ea⟩
  have mo : ∀ b u, ¬ exO ex σ env b → H b = some u → ¬ exO ex σ env b ∧ upd H a o b = some u := fun b u n q => ⟨n, by rw [upd_ne (fun z => n (by rw [z]; exact .inr oa))]; exact q⟩
  refine ⟨⟨fun b u q n _ => by rw [upd_ne (fun z => n (by rw [z]; exact oa))]; exact q, fun b q => ?_, fun j d q => ?_, ⟨by rw [List.length_set]; exact g.len, fun j d q => ?_, fun j d q => ?_, fun j k b d d' q1 q2 q3 q4 => ?_, fun b h => ?_, (let ⟨_, e1, _, rr⟩ := g.own i c e; by rw [ea] at e1; cases e1; exact rr.tabs g.tb)⟩⟩, exq⟩
  · by_cases z : b = a
    · subst z; rw [upd_same]; exact fun w => nomatch w
    · rw [upd_ne z]; exact q
  · rcases set_get q with ⟨h, _, _⟩ | ⟨_, h⟩
    · subst h; exact ⟨c, e⟩
    · exact ⟨d, h⟩
  · rcases set_get q with ⟨_, h, _⟩ | ⟨_, h⟩
    · cases h
    · obtain ⟨v, e1, rr⟩ := g.val j d h
      rw [ex2]
      exact ⟨v, e1, rr.mono mo⟩
  · rw [ex2]
    rcases set_get q with ⟨h1, h, _⟩ | ⟨h1, h⟩
    · cases h; subst h1
      obtain ⟨b, e1, n, _⟩ := g.own j c e
      rw [ea] at e1; cases e1
      exact ⟨a, ea, n, r⟩
    · obtain ⟨b, e1, n, rr⟩ := g.own j d h
      refine ⟨b, e1, n, rr.mono (upd_ne fun z => ?_) mo⟩
      subst z
      exact h1 (g.inj j i b d c h e e1 ea)
  · have f1 : ∃ d, env[j]? = some (.own d) := by
      rcases set_get q1 with ⟨h, _, _⟩ | ⟨_, h⟩
      · subst h; exact ⟨c, e⟩
      · exact ⟨d, h⟩
    have f2 : ∃ d, env[k]? = some (.own d) := by
      rcases set_get q2 with ⟨h, _, _⟩ | ⟨_, h⟩
      · subst h; exact ⟨c, e⟩
      · exact ⟨d', h⟩
    obtain ⟨x1, y1⟩ := f1
    obtain ⟨x2, y2⟩ := f2
    exact g.inj j k b x1 x2 y1 y2 q3 q4
  · by_cases z : b = a
    · subst z; rw [upd_same]; exact fun w => nomatch w
    · rw [upd_ne z]; exact g.dom b h
end

/-! ### methods of lists that a slot owns -/
def ownLst : Option Slot → Bool
  | some (.own (.lst _)) => true
  | _ => false
def mutM (op : List D → List D → Option (D × List D)) (i : Nat) (fs : M (List AV)) : M EV := fun env => if ownLst env[i]? = true then (M.bind fs fun as => fun env => match env[i]? with
  | some (.own (.lst xs)) => (vals as).bind fun ds => (op xs ds).bind fun p => some (.ok (.v p.1) (env.set i (.own (.lst p.2))))
  | _ => none) env else none
/-- what a method does by its data: r is the layer's reading -/
def Muts (K : PySem.W.Frag) (op : List D → List D → Option (D × List D)) (r : V → List V → Hp → VK → Prop) : Prop := ∀ (T : Tab) (ex : Addr → Prop) (H : Hp) (a : Addr) (xs : List D) (ws : List V) (ds : List D) (vs : List V) (d : D) (ys : List D) (Q : VK), ex a → H a = some (.lst ws) → RepL K T ex H xs ws → RepL K T ex H ds vs → op xs ds = some (d, ys) →
  (∀ v ws', RepL K T ex H ys ws' → Rep K T ex H d v → Q v (upd H a (.lst ws'))) → r (.ref a) vs H Q
section
variable {T : Tab} {X : Cx} {e : Expr} {es : List Expr} {x name : Str} {p apos pos : Pos} {id : String} {op : List D → List D → Option (D × List D)} {r : V → List V → Hp → VK → Prop} {fs : M (List AV)}
theorem mut_end {K : PySem.W.Frag} {ex : Addr → Prop} {σ : St} {H1 : Hp} {env1 : Sl} {W : WX} {Q : VK} {i : Nat} {as : List AV} {vs : List V} (hop : Muts K op r) (ra : Paired (fun a v => RepA K T ex σ env1 H1 v a) as vs)
    (q : trx K T (relE K T) ex (fun env => match env[i]? with
      | some (.own (.lst xs)) => (vals as).bind fun ds => (op xs ds).bind fun p => some (.ok (.v p.1) (env.set i (.own (.lst p.2))))
      | _ => none) env1 W σ H1 Q) : ∃ a, σ[i]? = some (some (V.ref a)) ∧ r (.ref a) vs H1 Q := by
  obtain ⟨g1, rr, er, o⟩ := q
  dsimp only at er
  cases w : env1[i]? with
  | none => rw [w] at er; cases er
  | some sl =>
    rw [w] at er
    cases sl with
    | emp => cases er
    | val d => cases er
    | own c =>
      cases c with
      | dic _ _ => cases er
      | ins _ _ => cases er
      | lst xs =>
        obtain ⟨ds, e1, er⟩ := opt_bind er
        obtain ⟨⟨d, ys⟩, e2, er⟩ := opt_bind er
        cases er
        obtain ⟨a, ea, n, ws, ha, rw'⟩ := g1.own i _ w
        have exa : exO ex σ env1 a := .inr ⟨i, _, w, ea⟩
        refine ⟨a, ea, hop T _ H1 a xs ws ds vs d ys Q exa ha rw' (vals_rep ra e1) e2 fun v ws' r1 r2 => ?_⟩
        have mo : ∀ b u, ¬ exO ex σ env1 b → H1 b = some u → ¬ exO ex σ env1 b ∧ upd H1 a (.lst ws') b = some u := fun b u n q => ⟨n, by rw [upd_ne (fun z => n (by rw [z]; exact exa))]; exact q⟩
        obtain ⟨st, exq⟩ := g1.mut (o := .lst ws') (c' := .lst ys) w ea ⟨ws', upd_same, r1.mono mo⟩
        exact o v _ st (Rep.mono (fun b u n q => ⟨fun z => n ((exq b).mp z), (mo b u n q).2⟩) r2)
theorem qe_mut (i : Nat) (slot : PySem.Slot "list" name id) (hty : typeOf (.builtin id) = pure (.type "method_descriptor")) (hm : ∀ pn xe, MtR (X.tr pn xe) id r) (hop : Muts X.K op r) (ha : QAs T X (e :: es) fs)
    (hN : X.N[i]? = some x := by rfl) (hv : Vis X.env.scope x := by first | exact Or.inl rfl | exact Or.inr (Or.inl rfl) | exact Or.inr (Or.inr rfl))
    (hbase : attributeBase (.Name x p) name X.env (eval (.Name x p) X.env) = eval (.Name x p) X.env := by rfl)
    (hfew : ((backTo pos (starEach (e :: es) X.env)).all (fun x => !x.1) && (backToKw pos (keywordEach [] X.env)).all (fun x => x.1.isSome)
      && decide ((e :: es).length + ([] : List Keyword).length + (if ([] : List Keyword).isEmpty then 0 else 1) < 30)) = true := by rfl)
    (hline : (apos.endLine == pos.line) = true := by rfl) (hs : starEach (e :: es) X.env = (false, eval e X.env) :: starEach es X.env := by rfl) (hplain : (backTo pos (starEach es X.env)).any (·.1) = false := by rfl)
    (hd : (x == ("__debug__" : Str)) = false := by decide) (hcd : (x == ("__classdict__" : Str)) = false := by decide) : QE T X (.Call (.Attribute (.Name x p) name apos) (e :: es) [] pos) (mutM op i fs) := fun pn xe W tk hp => by
  refine impE (pe_bm (X := X.tr pn xe) PySem.F.plainAttrs_list slot hty (hm pn xe) (pe_var hN hv hd hcd) (ha pn xe W tk hp) hbase hfew hline hs hplain) fun σ H Q ⟨ex, env, g, rr, er, o⟩ => ?_
  unfold mutM at er
  cases w : env[i]? with
  | none => rw [w] at er; cases er
  | some sl =>
    rw [w] at er
    cases sl with
    | emp => cases er
    | val d => cases er
    | own c =>
      cases c with
      | dic _ _ => cases er
      | ins _ _ => cases er
      | lst xs =>
        rw [show ownLst (some (Slot.own (OC.lst xs))) = true from rfl, if_pos rfl] at er
        obtain ⟨a, ea, n, ws, ha', _⟩ := g.own i _ w
        refine ⟨.ref a, ea, .inl ⟨rfl, _, .inl (.inl ha')⟩, ex, env, (trx_bind (relAs X.K T) rmE ⟨g, rr, er, o⟩).mono fun vs H1 ⟨as, env1, s, ra, q⟩ => ?_⟩
        obtain ⟨b, eb, hr⟩ := mut_end hop ra q
        rw [ea] at eb; cases eb
        exact hr
end
def opAppend : List D → List D → Option (D × List D) := fun xs ds => match ds with
  | [d] => if xs.length < 1000000 then some (.non, xs ++ [d]) else none
  | _ => none
def opPop : List D → List D → Option (D × List D) := fun xs ds => match ds with
  | [] => xs[xs.length - 1]?.map fun d => (d, xs.dropLast)
  | [.int i] => if 0 ≤ i ∧ i < 1000000 then xs[i.toNat]?.map fun d => (d, xs.eraseIdx i.toNat) else none
  | _ => none
theorem RepL.dropLast {K : PySem.W.Frag} {T : Tab} {ex : Addr → Prop} {H : Hp} {ds : List D} {vs : List V} (r : RepL K T ex H ds vs) : RepL K T ex H ds.dropLast vs.dropLast := by
  rw [List.dropLast_eq_take, List.dropLast_eq_take, r.length]
  exact r.take _
theorem muts_append {K : PySem.W.Frag} : Muts K opAppend rAppend := by
  intro T ex H a xs ws ds vs d ys Q ha hH rx rd e k
  unfold opAppend at e
  split at e
  · rename_i d'
    split at e
    · rename_i hl
      cases e
      obtain ⟨v, vr, ev, r1, r2⟩ := rd
      have : vr = [] := r2
      subst this ev
      have := rx.length
      exact ⟨a, ws, v, rfl, rfl, hH, by rw [sizeLine_eq]; omega, k .non _ (rx.append (RepL.one r1)) rfl⟩
    · cases e
  · cases e
def rPopBoth : V → List V → Hp → VK → Prop := fun x vs H Q => rPop x vs H Q ∨ rPopAt x vs H Q
theorem muts_pop {K : PySem.W.Frag} : Muts K opPop rPopBoth := by
  intro T ex H a xs ws ds vs d ys Q ha hH rx rd e k
  unfold opPop at e
  have hl := rx.length
  split at e
  · have ev : vs = [] := rd
    subst ev
    cases q : xs[xs.length - 1]? with
    | none => rw [q] at e; cases e
    | some d' =>
      rw [q] at e; cases e
      obtain ⟨v, e1, r1⟩ := rx.get q
      exact .inl ⟨a, ws, v, rfl, rfl, hH, by rw [← hl]; exact e1, k v _ rx.dropLast r1⟩
  · rename_i i
    split at e
    · rename_i hi
      obtain ⟨v, vr, ev, r1, r2⟩ := rd
      have : vr = [] := r2
      subst this ev
      have r1 : v = .int i := r1
      subst r1
      cases q : xs[i.toNat]? with
      | none => rw [q] at e; cases e
      | some d' =>
        rw [q] at e; cases e
        obtain ⟨v, e1, r1⟩ := rx.get q
        have h1 := (List.getElem?_eq_some_iff.mp e1).1
        exact .inr ⟨a, ws, i, i.toNat, v, rfl, rfl, hH, by omega, by omega, PySem.StrLaws.seqIndex_nonneg hi.1 (by omega), e1, k v _ (rx.erase _) r1⟩
    · cases e
  · cases e
theorem mt_popB {X : Cx} : MtR X "list.pop" rPopBoth := by
  intro pins s σ H x xs v us Q I rx rxs h
  rcases h with h | h
  · exact mt_pop pins s σ H x xs v us Q I rx rxs h
  · exact mt_popAt pins s σ H x xs v us Q I rx rxs h

/-! ### x[i] = e -/
def keyD : D → Option Key
  | .int i => some (.inl i)
  | .str s => some (.inr (mkS s))
  | _ => none
def dicPut (ks : List Key) (vs : List D) (k : Key) (d : D) : List Key × List D := match ks, vs with
  | a :: ks, v :: vs => if a = k then (a :: ks, d :: vs) else (a :: (dicPut ks vs k d).1, v :: (dicPut ks vs k d).2)
  | _, _ => ([k], [d])
def atV (f : M AV) {α : Type} (k : D → M α) : M α := M.bind f fun a => match a with
  | .v d => k d
  | .s _ => M.stuck
def setLM (x : Nat) (d : D) (kd : D) : M Unit := fun env => match kd, env[x]? with
  | .int k, some (.own (.lst xs)) => (ixN xs.length k).bind fun j => some (.ok () (env.set x (.own (.lst (xs.set j d)))))
  | _, _ => none
def setDM (x : Nat) (d : D) (kd : D) : M Unit := fun env => match env[x]? with
  | some (.own (.dic ks vs)) => (keyD kd).bind fun k => if ks.length < 1000000 ∧ ks.length = vs.length ∧ ks.Nodup then some (.ok () (env.set x (.own (.dic (dicPut ks vs k d).1 (dicPut ks vs k d).2)))) else none
  | _ => none
def grd {α : Type} (x : Nat) (m : M α) : M α := fun env => if isOwn env[x]? = true then m env else none
def sSetL (x : Nat) (fe fi : M AV) : S := sE (atV fe fun d => grd x (atV fi fun kd => setLM x d kd)) fun _ env => some (.nx env)
def sSetD (x : Nat) (fe fi : M AV) : S := sE (atV fe fun d => grd x (atV fi fun kd => setDM x d kd)) fun _ env => some (.nx env)
def relU : Rl V Unit := fun _ _ _ _ _ _ _ => True
theorem rmU : RM relU := fun _ _ _ _ _ _ _ _ _ r => r
section
variable {K : PySem.W.Frag} {T : Tab} {ex : Addr → Prop} {σ : St} {H H' : Hp} {env : Sl} {W : WX}
theorem trx_atV {α γ : Type} {rel : Rl γ α} (hm : RM rel) {f : M AV} {k : D → M α} {Q : γ → Hp → Prop} (h : trx K T rel ex (atV f k) env W σ H Q) :
    trx K T (relA K T) ex f env W σ H fun v H1 => ∃ d env1, Step K T ex σ H env H1 env1 ∧ Rep K T (exO ex σ env1) H1 d v ∧ trx K T rel ex (k d) env1 W σ H1 Q := by
  refine (trx_bind (relA K T) hm h).mono fun v H1 ⟨a, env1, s, r, q⟩ => ?_
  cases a with
  | s i => obtain ⟨_, _, e, _⟩ := q; cases e
  | v d => exact ⟨d, env1, s, r, q⟩
theorem trx_grd {α γ : Type} {rel : Rl γ α} {x : Nat} {m : M α} {Q : γ → Hp → Prop} (h : trx K T rel ex (grd x m) env W σ H Q) : (∃ a, σ[x]? = some (some (V.ref a))) ∧ trx K T rel ex m env W σ H Q := by
  obtain ⟨g, r, e, o⟩ := h
  unfold grd at e
  by_cases q : isOwn env[x]? = true
  · rw [if_pos q] at e
    cases w : env[x]? with
    | none => rw [w] at q; cases q
    | some sl =>
      rw [w] at q
      cases sl with
      | own c => obtain ⟨a, ea, _⟩ := g.own x c w; exact ⟨⟨a, ea⟩, g, r, e, o⟩
      | _ => cases q
  · rw [if_neg q] at e; cases e
theorem dicPut_put : ∀ {ks : List Key} {vs : List D} {ws : List V} {k : Key} {d : D} {v : V}, RepL K T ex H vs ws → Rep K T ex H d v → ks.length = vs.length → ks.Nodup →
    ∃ ws', putK (ks.zip ws) k v = (dicPut ks vs k d).1.zip ws' ∧ (dicPut ks vs k d).1.length = ws'.length ∧ RepL K T ex H (dicPut ks vs k d).2 ws'
  | [], [], _, k, d, v, r, rd, _, _ => by
    have e : _ = [] := r
    subst e
    exact ⟨[v], by simp [putK, dicPut], rfl, RepL.one rd⟩
  | [], _ :: _, _, _, _, _, _, _, hl, _ => by simp at hl
  | _ :: _, [], _, _, _, _, _, _, hl, _ => by simp at hl
  | a :: ks, x :: vs, _, k, d, v, ⟨u, ur, e, r1, r2⟩, rd, hl, nd => by
    subst e
    have nd' := List.nodup_cons.mp nd
    have hl' : ks.length = vs.length := by simpa using hl
    have hlu := r2.length
    by_cases h : a = k
    · subst h
      refine ⟨v :: ur, ?_, by simp [dicPut]; omega, by simp only [dicPut, if_pos]; exact ⟨v, ur, rfl, rd, r2⟩⟩
      simp only [dicPut, if_pos, List.zip_cons_cons, putK, List.any_cons, decide_true, Bool.true_or, List.map_cons]
      congr 1
      have : ∀ p ∈ ks.zip ur, ¬ p.1 = a := fun p hp z => nd'.1 (by subst z; exact (List.of_mem_zip hp).1)
      have me : (ks.zip ur).map (fun kv => if kv.1 = a then (kv.1, v) else kv) = (ks.zip ur).map id := List.map_congr_left fun p hp => if_neg (this p hp)
      rw [me, List.map_id]
    · obtain ⟨ws', h1, h2, h3⟩ := dicPut_put (k := k) (d := d) (v := v) r2 rd hl' nd'.2
      refine ⟨u :: ws', ?_, by simp only [dicPut, if_neg h, List.length_cons]; omega, by simp only [dicPut, if_neg h]; exact ⟨u, ws', rfl, r1, h3⟩⟩
      simp only [dicPut, if_neg h, List.zip_cons_cons]
      rw [← h1]
      unfold putK
      simp only [List.any_cons, decide_eq_false h, Bool.false_or, List.map_cons, if_neg h]
      split <;> simp
end
section
variable {T : Tab} {X : Cx} {np : Nat → Bool} {o i e : Expr} {x : Str} {p pos pos' : Pos} {fe fi : M AV}
theorem qs_setL (n : Nat) (he : QO T X e fe) (hi : QO T X i fi) (hN : X.N[n]? = some x := by rfl) (hv : Vis X.env.scope x := by first | exact Or.inl rfl | exact Or.inr (Or.inl rfl) | exact Or.inr (Or.inr rfl))
    (ha : ∀ v, assign (.Subscript (.Name x p) i pos') X.env v = (do
      let ov ← holding [v] (eval (.Name x p) X.env)
      let iv ← holding [v, ov] (eval i X.env)
      standAt pos'
      holding [v, ov, iv] (setItem ov iv v)
      release [v, ov, iv] []) := by intro _; rfl) (hs : swapsWithSole [.Subscript (.Name x p) i pos'] e pos.line X.env = pure false := by rfl) (hw : swappedStores [.Subscript (.Name x p) i pos'] e X.env = pure none := by rfl)
    (h1 : (assignEach [.Subscript (.Name x p) i pos'] X.env).map (·.2) = [assign (.Subscript (.Name x p) i pos') X.env] := by rfl)
    (hd : (x == ("__debug__" : Str)) = false := by decide) (hcd : (x == ("__classdict__" : Str)) = false := by decide) : QS T X np (.Assign [.Subscript (.Name x p) i pos'] e pos) (sSetL n fe fi) := fun pn xe W tk hp => by
  refine impS (ps_asg (X := X.tr pn xe) (he pn xe W tk hp) (pg_sub (pe_var hN hv hd hcd) (hi pn xe W tk hp) set_list ha) hs hw h1) fun D σ H q => ?_
  obtain ⟨ex, env, z⟩ := trS_expr q relU
  refine ⟨ex, env, (trx_atV rmU z).mono fun v H1 ⟨d, env1, s1, r1, z⟩ => ?_⟩
  obtain ⟨⟨a0, ea0⟩, z⟩ := trx_grd z
  refine ⟨.ref a0, ea0, ex, env1, (trx_atV rmU z).mono fun iv H2 ⟨kd, env2, s2, r2, z⟩ => ?_⟩
  have rd := Rep.step r1 s2
  obtain ⟨g2, rr, er, oo⟩ := z
  unfold setLM at er
  split at er
  · rename_i k xs w
    obtain ⟨j, ej, er⟩ := opt_bind er
    cases er
    obtain ⟨a, ea, n, ws, ha, rw'⟩ := g2.own _ _ w
    rw [ea0] at ea
    cases ea
    have exa : exO ex σ env2 a0 := .inr ⟨_, _, w, ea0⟩
    have mo : ∀ b u, ¬ exO ex σ env2 b → H2 b = some u → ¬ exO ex σ env2 b ∧ upd H2 a0 (.lst (ws.set j v)) b = some u := fun b u n q => ⟨n, by rw [upd_ne (fun z => n (by rw [z]; exact exa))]; exact q⟩
    obtain ⟨st, _⟩ := g2.mut (o := .lst (ws.set j v)) (c' := .lst (xs.set j d)) w ea0 ⟨_, upd_same, (rw'.set j rd).mono mo⟩
    obtain ⟨ex3, env3, H03, env4, u, g3, s3, _, _, r3, e3, o3⟩ := oo .non _ st trivial
    cases e3
    refine ⟨a0, ws, k, j, rfl, r2, ha, by rw [← rw'.length]; exact ej, o3 σ _ s3.s⟩
  · cases er
theorem qs_setD (n : Nat) (hu : X.A.units + 1 < cLine) (he : QO T X e fe) (hi : QO T X i fi) (hN : X.N[n]? = some x := by rfl) (hv : Vis X.env.scope x := by first | exact Or.inl rfl | exact Or.inr (Or.inl rfl) | exact Or.inr (Or.inr rfl))
    (hs : swapsWith e (some (.Subscript (.Name x p) i pos')) pos.line X.env = pure false := by rfl)
    (hd : (x == ("__debug__" : Str)) = false := by decide) (hcd : (x == ("__classdict__" : Str)) = false := by decide) : QS T X np (.Assign [.Subscript (.Name x p) i pos'] e pos) (sSetD n fe fi) := fun pn xe W tk hp => by
  refine impS (ps_dput (X := X.tr pn xe) hu (pe_var hN hv hd hcd) (hi pn xe W tk hp) (he pn xe W tk hp) hs) fun D σ H q => ?_
  obtain ⟨ex, env, z⟩ := trS_expr q relU
  refine ⟨ex, env, (trx_atV rmU z).mono fun v H1 ⟨d, env1, s1, r1, z⟩ => ?_⟩
  obtain ⟨⟨a0, ea0⟩, z⟩ := trx_grd z
  refine ⟨.ref a0, ea0, ex, env1, (trx_atV rmU z).mono fun iv H2 ⟨kd, env2, s2, r2, z⟩ => ?_⟩
  have rd := Rep.step r1 s2
  obtain ⟨g2, rr, er, oo⟩ := z
  unfold setDM at er
  split at er
  · rename_i ks vs w
    obtain ⟨k, ek, er⟩ := opt_bind er
    split at er
    · rename_i hl
      obtain ⟨hl, hl2, hnd⟩ := hl
      cases er
      obtain ⟨a, ea, n, ws, ha, hlw, rw'⟩ := g2.own _ _ w
      rw [ea0] at ea
      cases ea
      have exa : exO ex σ env2 a0 := .inr ⟨_, _, w, ea0⟩
      obtain ⟨ws', h1, h2, h3⟩ := dicPut_put (k := k) (d := d) (v := v) rw' rd hl2 hnd
      have mo : ∀ b u, ¬ exO ex σ env2 b → H2 b = some u → ¬ exO ex σ env2 b ∧ upd H2 a0 (.dK (putK (ks.zip ws) k v)) b = some u := fun b u n q => ⟨n, by rw [upd_ne (fun z => n (by rw [z]; exact exa))]; exact q⟩
      obtain ⟨st, _⟩ := g2.mut (o := .dK (putK (ks.zip ws) k v)) (c' := .dic (dicPut ks vs k d).1 (dicPut ks vs k d).2) w ea0 ⟨ws', by rw [upd_same, h1], h2, h3.mono mo⟩
      obtain ⟨ex3, env3, H03, env4, u, g3, s3, _, _, r3, e3, o3⟩ := oo .non _ st trivial
      cases e3
      have ekv : iv = kV k := by
        cases kd with
        | int j => cases ek; exact r2
        | str l => cases ek; exact r2
        | _ => cases ek
      subst ekv
      refine ⟨a0, _, rfl, DPut.k ha ?_, o3 σ _ s3.s⟩
      rw [List.length_zip, sizeLine_eq]
      omega
    · cases er
  · cases er
/-- {} -/
def eDict0 : M EV := M.ret (.o (.dic [] []))
theorem qe_dict0 {pos : Pos} : QE T X (.Dict [] [] pos) eDict0 := fun pn xe W tk hp => impE pe_dnewK fun σ H Q ⟨ex, env, q⟩ p hp => by
  obtain ⟨g, k⟩ := trx_ret q
  exact k _ _ (Step.ext g (ext_new hp)) ⟨p, rfl, hp, ⟨[], upd_same, rfl, .nil⟩, g.more hp (ext_new hp) (by rw [upd_same]; exact fun z => nomatch z)⟩
end
end Dt
end
section
set_option maxRecDepth 100000
set_option maxHeartbeats 4000000
/-! QK: fields, methods, properties, objects made; raise, try. -/
namespace Dt
variable {NG : Prop}
open PySem PySem.Spec L2
open PyProof.Rows hiding St

theorem FL_nodup (t : Nat) : (FL t).Nodup := by
  unfold FL
  split <;> decide +kernel
theorem zip_lookup {β : Type} : ∀ {l : List Str} {vs : List β} {j : Nat} {f : Str}, l.Nodup → l[j]? = some f → l.length ≤ vs.length → (l.zip vs).lookup f = vs[j]?
  | [], _, j, f, _, h, _ => by simp at h
  | a :: l, [], j, f, _, _, hl => by simp at hl
  | a :: l, v :: vs, 0, f, _, h, _ => by simp at h; subst h; simp [List.lookup]
  | a :: l, v :: vs, j + 1, f, nd, h, hl => by
    have nd' := List.nodup_cons.mp nd
    simp at h
    have ne : (f == a) = false := beq_eq_false_iff_ne.mpr fun z => nd'.1 (z ▸ List.mem_of_getElem? h)
    simp only [List.zip_cons_cons, List.lookup, ne, List.getElem?_cons_succ]
    exact zip_lookup nd'.2 h (by simpa using hl)
theorem putF_new {f : Str} {v : V} : ∀ {l : List Str} {vs : List V}, f ∉ l → putF f v (l.zip vs) = l.zip vs ++ [(f, v)]
  | [], _, _ => rfl
  | a :: l, [], _ => rfl
  | a :: l, u :: vs, h => by
    simp only [List.mem_cons, not_or] at h
    simp only [List.zip_cons_cons, putF, if_neg (Ne.symm h.1), List.cons_append]
    rw [putF_new h.2]
theorem putF_set {f : Str} {v : V} : ∀ {l : List Str} {vs : List V} {j : Nat}, l.Nodup → l[j]? = some f → j < vs.length → putF f v (l.zip vs) = l.zip (vs.set j v)
  | [], _, j, _, h, _ => by simp at h
  | a :: l, [], j, _, _, hl => by simp at hl
  | a :: l, u :: vs, 0, _, h, _ => by simp at h; subst h; simp [putF]
  | a :: l, u :: vs, j + 1, nd, h, hl => by
    have nd' := List.nodup_cons.mp nd
    simp at h
    have ne : a ≠ f := fun z => nd'.1 (z ▸ List.mem_of_getElem? h)
    simp only [List.zip_cons_cons, putF, if_neg ne, List.set_cons_succ]
    rw [putF_set nd'.2 h (by simpa using hl)]

/-! ### fields -/
/-- an object's class and its fields so far -/
def objS : Option Slot → Option (Nat × List D)
  | some (.val (.obj t ds)) => some (t, ds)
  | some (.own (.ins t ds)) => some (t, ds)
  | _ => none
def objOf (env : Sl) : AV → Option (Nat × List D)
  | .v (.obj t ds) => some (t, ds)
  | .v _ => none
  | .s i => objS env[i]?
def eFld (fi : Nat → Option Nat) (fa : M AV) : M EV := M.bind fa fun a => fun env => (objOf env a).bind fun p => (fi p.1).bind fun j => lift ((p.2[j]?).map .v) env
section
variable {K : PySem.W.Frag} {T : Tab} {ex : Addr → Prop} {σ : St} {H H' : Hp} {env : Sl} {W : WX}
theorem objOf_ok {a : AV} {v : V} {t : Nat} {ds : List D} (g : Good K T ex σ H env) (r : RepA K T ex σ env H v a) (e : objOf env a = some (t, ds)) :
    ∃ x dx vs, v = .ref x ∧ H x = some (.ins (T.cls t) dx (((FL t).take ds.length).zip vs)) ∧ ds.length ≤ (FL t).length ∧ RepL K T (exO ex σ env) H ds vs := by
  have ob : ∀ {v : V} {t : Nat} {ds : List D}, Rep K T (exO ex σ env) H (.obj t ds) v → ∃ x dx vs, v = .ref x ∧ H x = some (.ins (T.cls t) dx (((FL t).take ds.length).zip vs)) ∧ ds.length ≤ (FL t).length ∧ RepL K T (exO ex σ env) H ds vs := fun {v t ds} ⟨x, dx, vs, e1, n, h, l, r⟩ => by
    have e2 := r.length
    have l : (FL t).length = vs.length := l
    exact ⟨x, dx, vs, e1, by rw [List.take_of_length_le (by omega)]; exact h, by omega, r⟩
  cases a with
  | v d => cases d <;> first | cases e; exact ob r | cases e
  | s i =>
    have e : objS env[i]? = some (t, ds) := e
    have r : σ[i]? = some (some v) := r
    cases q : env[i]? with
    | none => rw [q] at e; cases e
    | some sl =>
      rw [q] at e
      cases sl with
      | emp => cases e
      | val d =>
        obtain ⟨u, e1, h⟩ := g.val i d q
        rw [r] at e1; cases e1
        cases d <;> first | cases e; exact ob h | cases e
      | own c =>
        obtain ⟨x, e1, n, h⟩ := g.own i c q
        rw [r] at e1; cases e1
        cases c with
        | ins t' ds' => cases e; obtain ⟨dx, vs, h1, h2, h3⟩ := h; exact ⟨x, dx, vs, rfl, h1, h2, h3⟩
        | _ => cases e
theorem take_nodup {t n : Nat} : ((FL t).take n).Nodup := (FL_nodup t).sublist (List.take_sublist _ _)
theorem take_at {t n j : Nat} {f : Str} (h : (FL t)[j]? = some f) (hj : j < n) : ((FL t).take n)[j]? = some f := by rw [List.getElem?_take_of_lt hj]; exact h
end
section
variable {T : Tab} {X : Cx} {e : Expr} {f : Str} {pos : Pos} {fa : M AV} {fi : Nat → Option Nat}
theorem qe_fld (h : QO T X e fa) (hf : ∀ t j, fi t = some j → (FL t)[j]? = some f ∧ Cls X.K (T.cls t) ∧ NoAttr X.K (T.cls t) f) (hb : attributeBase e f X.env (eval e X.env) = eval e X.env := by rfl) : QE T X (.Attribute e f pos) (eFld fi fa) := fun pn xe W tk hp => by
  refine impE (pe_fld (X := X.tr pn xe) (h pn xe W tk hp) hb) fun σ H Q ⟨ex, env, q⟩ => ?_
  refine ⟨ex, env, (trx_bind (relA X.K T) rmE q).mono fun v H1 ⟨a, env1, s, ra, q⟩ => ?_⟩
  obtain ⟨g1, r, er, o⟩ := q
  obtain ⟨⟨t, ds⟩, e1, er⟩ := opt_bind er
  obtain ⟨j, e2, er⟩ := opt_bind er
  dsimp only at er e2
  obtain ⟨h1, h2, h3⟩ := hf t j e2
  obtain ⟨x, dx, vs, ev, hx, hl, rl⟩ := objOf_ok g1 ra e1
  cases w : ds[j]? with
  | none => rw [w] at er; cases er
  | some d =>
    rw [w] at er
    cases er
    obtain ⟨u, e3, rd⟩ := rl.get w
    have hj := (List.getElem?_eq_some_iff.mp w).1
    have hlv := rl.length
    exact ⟨x, _, dx, _, u, ev, hx, h2, h3, by rw [zip_lookup take_nodup (take_at h1 hj) (by rw [List.length_take]; omega)]; exact e3, o u H1 (Step.refl g1) rd⟩
end
/-- self.f = e: the next field, or one that is there -/
def setFM (x : Nat) (fi : Nat → Option Nat) (d : D) : M Unit := fun env => match env[x]? with
  | some (.own (.ins t ds)) => (fi t).bind fun j => if j = ds.length then some (.ok () (env.set x (.own (.ins t (ds ++ [d]))))) else if j < ds.length then some (.ok () (env.set x (.own (.ins t (ds.set j d))))) else none
  | _ => none
def sSetF (x : Nat) (fi : Nat → Option Nat) (fe : M AV) : S := sE (atV fe fun d => setFM x fi d) fun _ env => some (.nx env)
section
variable {T : Tab} {X : Cx} {np : Nat → Bool} {e : Expr} {x f : Str} {p pos pos' : Pos} {fe : M AV} {fi : Nat → Option Nat}
theorem setF_ok {K : PySem.W.Frag} {ex : Addr → Prop} {σ : St} {H : Hp} {env : Sl} {W : WX} {n : Nat} {d : D} {v : V} {Q : V → Hp → Prop} (hf : ∀ t j, fi t = some j → (FL t)[j]? = some f ∧ Cls K (T.cls t) ∧ NoAttr K (T.cls t) f)
    (h : trx K T relU ex (setFM n fi d) env W σ H Q) (rd : Rep K T (exO ex σ env) H d v) : ∃ a C dx fs, σ[n]? = some (some (V.ref a)) ∧ H a = some (.ins C dx fs) ∧ Cls K C ∧ NoAttr K C f ∧ fs.length < 1000 ∧ Q .non (upd H a (.ins C dx (putF f v fs))) := by
  obtain ⟨g, r, er, o⟩ := h
  unfold setFM at er
  split at er
  · rename_i t ds w
    obtain ⟨j, e1, er⟩ := opt_bind er
    obtain ⟨h1, h2, h3⟩ := hf t j e1
    obtain ⟨a, ea, n, dx, vs, ha, hl, rl⟩ := g.own _ _ w
    have exa : exO ex σ env a := .inr ⟨_, _, w, ea⟩
    have hlv := rl.length
    have fsl : (((FL t).take ds.length).zip vs).length < 1000 := by
      rw [List.length_zip, List.length_take]
      have : (FL t).length ≤ 10 := by unfold FL; split <;> decide
      omega
    have mo : ∀ w' b u, ¬ exO ex σ env b → H b = some u → ¬ exO ex σ env b ∧ upd H a w' b = some u := fun w' b u n q => ⟨n, by rw [upd_ne (fun z => n (by rw [z]; exact exa))]; exact q⟩
    split at er
    · rename_i hj
      cases er
      subst hj
      have hlt := (List.getElem?_eq_some_iff.mp h1).1
      have hlt : ds.length < (FL t).length := hlt
      have nin : f ∉ (FL t).take ds.length := fun hm => by
        obtain ⟨k, hk, ek⟩ := List.mem_iff_getElem.mp hm
        rw [List.length_take] at hk
        rw [List.getElem_take] at ek
        have h5 : (FL t)[k]? = some f := by rw [List.getElem?_eq_getElem (by omega), ek]
        have := nodup_ix (FL_nodup t) h5 h1
        omega
      have e4 : putF f v (((FL t).take ds.length).zip vs) = ((FL t).take (ds ++ [d]).length).zip (vs ++ [v]) := by
        rw [putF_new nin, List.length_append, List.length_singleton, List.take_succ_eq_append_getElem hlt]
        rw [List.zip_append (by rw [List.length_take]; omega)]
        congr 1
        have : (FL t)[ds.length] = f := by rw [List.getElem?_eq_getElem hlt] at h1; exact Option.some.inj h1
        rw [this]; rfl
      obtain ⟨st, _⟩ := g.mut (o := .ins (T.cls t) dx (putF f v (((FL t).take ds.length).zip vs))) (c' := .ins t (ds ++ [d])) w ea
        ⟨dx, vs ++ [v], by rw [upd_same, e4], by rw [List.length_append, List.length_singleton]; omega, (rl.append (RepL.one rd)).mono (mo _)⟩
      exact ⟨a, _, dx, _, ea, ha, h2, h3, fsl, o .non _ st trivial⟩
    · split at er
      · rename_i hj
        cases er
        have e4 : putF f v (((FL t).take ds.length).zip vs) = ((FL t).take (ds.set j d).length).zip (vs.set j v) := by
          rw [List.length_set]
          exact putF_set take_nodup (take_at h1 hj) (by omega)
        obtain ⟨st, _⟩ := g.mut (o := .ins (T.cls t) dx (putF f v (((FL t).take ds.length).zip vs))) (c' := .ins t (ds.set j d)) w ea
          ⟨dx, vs.set j v, by rw [upd_same, e4], by rw [List.length_set]; omega, (rl.set j rd).mono (mo _)⟩
        exact ⟨a, _, dx, _, ea, ha, h2, h3, fsl, o .non _ st trivial⟩
      · cases er
  · cases er
theorem qs_setF (n : Nat) (he : QO T X e fe) (hf : ∀ t j, fi t = some j → (FL t)[j]? = some f ∧ Cls X.K (T.cls t) ∧ NoAttr X.K (T.cls t) f) (hN : X.N[n]? = some x := by rfl) (hv : Vis X.env.scope x := by first | exact Or.inl rfl | exact Or.inr (Or.inl rfl) | exact Or.inr (Or.inr rfl))
    (hs : swapsWith e (some (.Attribute (.Name x p) f pos')) pos.line X.env = pure false := by rfl) (hd : (x == ("__debug__" : Str)) = false := by decide) (hcd : (x == ("__classdict__" : Str)) = false := by decide) :
    QS T X np (.Assign [.Attribute (.Name x p) f pos'] e pos) (sSetF n fi fe) := fun pn xe W tk hp => by
  refine impS (ps_fld (X := X.tr pn xe) (pe_var hN hv hd hcd) (he pn xe W tk hp) hs) fun D σ H q => ?_
  obtain ⟨ex, env, z⟩ := trS_expr q relU
  refine ⟨ex, env, (trx_atV rmU z).mono fun v H1 ⟨d, env1, s1, r1, z⟩ => ?_⟩
  obtain ⟨a, C, dx, fs, ea, h1, h2, h3, h4, q⟩ := setF_ok hf z r1
  refine ⟨.ref a, ea, a, C, dx, fs, rfl, h1, h2, h3, h4, ?_⟩
  obtain ⟨ex3, env3, H03, env4, u, g3, s3, _, _, r3, e3, o3⟩ := q
  cases e3
  exact o3 σ _ s3.s
end

structure MethOK (NG : Prop) (T : Tab) (X : Cx) (m : Str) (mt : Nat → Option (M EV)) : Prop where
  of : ∀ t g, mt t = some g → m ∉ FL t ∧ Cls X.K (T.cls t) ∧ ∃ f k, Meth X.K (T.cls t) m f ∧ RG NG k X.A ∧ FnQ NG T X k f g
section
variable {X : Cx} {W : WX} {m : Str} {o e : Expr} {es : List Expr} {ta : TE} {t : TA} {pos apos : Pos} {pl : Sem Bool}
end
section
variable {T : Tab} {X : Cx} {o e : Expr} {es : List Expr} {m : Str} {pos apos : Pos} {pl : Sem Bool} {fa : M AV} {fs : M (List AV)} {mt : Nat → Option (M EV)}
end

/-! ### properties -/
def eProp (mt : Nat → Option (M EV)) (fa : M AV) : M EV := M.bind fa fun a => fun env => (objOf env a).bind fun p => (mt p.1).bind fun g => match callM g [a] env with
  | some (.ok v e) => some (.ok v e)
  | _ => none
structure PropsOK (NG : Prop) (T : Tab) (X : Cx) (m : Str) (mt : Nat → Option (M EV)) : Prop where
  of : ∀ t g, mt t = some g → Cls X.K (T.cls t) ∧ ∃ p f k, PropOf X.K (T.cls t) m p f ∧ RG NG (k + 1) X.A ∧ FnQ NG T X k f g
section
variable {T : Tab} {X : Cx} {e : Expr} {m : Str} {pos : Pos} {fa : M AV} {mt : Nat → Option (M EV)}
theorem getprop_Q {pins : List (Addr × Obj)} {σ : St} {H : Hp} {s : Shared} {Q : VK} {b : Bool} {a C dx p g : Addr} {fs : List (Str × V)} {k : Nat} {f : Str} {sp : Sp} {E' : Value → Shared → Prop} (I : Inv X pins σ H s) (ea : H a = some (.ins C dx fs)) (c : Cls X.K C) (hp : PropOf X.K C f p g)
    (F : FnG NG X.prog X.w X.K X.mg X.base k g sp) (hr : RG NG (k + 1) X.A) (h : sp [.ref a] H Q E0) :
    wpAny (model X.prog X.w) X.A (getAttr (.ref a) f b) (EP X pins σ Q) E' s := by
  obtain ⟨mA, O, _, _, _, _⟩ := ins_get I.hok ea
  obtain ⟨od, J, _⟩ := O.look
  obtain ⟨rest, hrec⟩ := hp.rec_
  have I1 := I.tok (s.toks + 1)
  have hc : (PySem.W.clsIn X.K C).isSome = true := by
    obtain ⟨cd, hc, _⟩ := PySem.W.any_some c.hd
    rw [hc]
    rfl
  refine PySem.W.get_bind I.kIn J (PySem.W.plainGet_of (c.get f)).1 (PySem.W.findObj_data hc hp.at_ hp.get hp.tak) (PySem.W.plainGet_of (c.get f)).2 (wpAny_call (PySem.W.prop_get (s := { s with toks := s.toks + 1 }) I.kIn hrec ?_))
  refine codeAny_mono (F X.A.in1 X.stack { s with toks := s.toks + 1 } H [.ref a] [.ref a] Q E0 hr.in1 I1.env0.in1 (.cons rfl .nil) h) fun r s' hq => ?_
  cases r with
  | error er => exact False.elim (passL (X := X.nox) pins σ H { s with toks := s.toks + 1 } er s' (I1.wish _) hq)
  | ok fl =>
    cases fl with
    | ret u =>
      obtain ⟨v, H', I3, rv, q3⟩ := I1.after hq
      show wpAny _ _ (handedOut u) _ _ _
      rw [PySem.W.handedOut_of (handed_of rv)]
      exact wpAny_pure ⟨v, H', I3, rv, q3⟩
    | next => exact False.elim hq
    | brk => exact False.elim hq
    | cont => exact False.elim hq
theorem pe_propQ {ta : TE} (he : PE X e ta) (hab : attributeBase e m X.env (eval e X.env) = eval e X.env) : PE X (.Attribute e m pos) (fun σ H Q => ta σ H fun x H1 => ∃ a C dx fs p f k sp, x = .ref a ∧ H1 a = some (.ins C dx fs) ∧ Cls X.K C ∧ PropOf X.K C m p f ∧ RG NG (k + 1) X.A ∧
    FnG NG X.prog X.w X.K X.mg X.base k f sp ∧ sp [.ref a] H1 Q E0) := by
  refine ⟨fun pins s σ H Q I h => ?_⟩
  refine attr_of hab (thn (he.run pins s σ H _ I h) fun u s1 ⟨x, H1, I1, rx, a, C, dx, fs, p, f, k, sp, ex, ea, c, hp, hr, F, q⟩ => ?_)
  subst ex
  obtain rfl : u = Value.ref a := rx
  exact getprop_Q I1 ea c hp F hr q
theorem qe_prop (h : QO T X e fa) (hm : PropsOK NG T X m mt) (hab : attributeBase e m X.env (eval e X.env) = eval e X.env := by rfl) : QE T X (.Attribute e m pos) (eProp mt fa) := fun pn xe W tk hp => by
  refine impE (pe_propQ (NG := NG) (X := X.tr pn xe) (h pn xe W tk hp) hab) fun σ H Q ⟨ex, env, q⟩ => ?_
  refine ⟨ex, env, (trx_bind (relA X.K T) rmE q).mono fun v H1 ⟨a, env1, s, ra, q⟩ => ?_⟩
  obtain ⟨g1, r, er, oo⟩ := q
  obtain ⟨⟨t, ds⟩, e1, er⟩ := opt_bind er
  obtain ⟨g, e2, er⟩ := opt_bind er
  obtain ⟨x, dx, vs, ev, hx, hl, rl⟩ := objOf_ok g1 ra e1
  obtain ⟨h2, p, f, k, h3, h4, h6⟩ := hm.of t g e2
  subst ev
  refine ⟨x, _, dx, _, p, f, k, spD X.K T g, rfl, hx, h2, h3, h4, h6, ?_⟩
  refine trx_call (W := fun _ _ _ _ => False) (σ := σ) (env := env1) (ex := ex) (as := [a]) (vs := [.ref x]) ⟨g1, r, ?_, ?_⟩ (.cons ra .nil)
  · split at er
    · cases er; assumption
    · cases er
  · split at er
    · cases er; exact oo
    · cases er
end

/-! ### objects made -/
def makeM (t : Nat) (g : M EV) (as : List AV) : M EV := fun env => match callM g (.s env.length :: as) (env ++ [.own (.ins t [])]) with
  | some (.ok (.v .non) e') => match e'[env.length]? with
    | some (.own (.ins t' ds)) => if t' = t ∧ ds.length = (FL t).length then some (.ok (.v (.obj t ds)) (e'.take env.length)) else none
    | _ => none
  | some (.exc x e') => some (.exc x (e'.take env.length))
  | _ => none
section
variable {K : PySem.W.Frag} {T : Tab} {ex : Addr → Prop} {σ : St} {H H' H0 : Hp} {env e' : Sl} {W : WX} {c : OC} {x : Addr}
theorem snoc_get {α : Type} {l : List α} {y z : α} {j : Nat} (h : (l ++ [y])[j]? = some z) : (j < l.length ∧ l[j]? = some z) ∨ (j = l.length ∧ z = y) := by
  by_cases e : j < l.length
  · rw [List.getElem?_append_left e] at h; exact .inl ⟨e, h⟩
  · have : j = l.length := by
      have := (List.getElem?_eq_some_iff.mp h).1
      rw [List.length_append, List.length_singleton] at this
      omega
    subst this
    rw [List.getElem?_append_right (Nat.le_refl _), Nat.sub_self] at h
    exact .inr ⟨rfl, by simpa using h.symm⟩
theorem owns_push (hl : env.length = σ.length) {b : Addr} : Owns (σ ++ [some (V.ref x)]) (env ++ [.own c]) b ↔ Owns σ env b ∨ b = x := by
  constructor
  · rintro ⟨j, d, e1, e2⟩
    rcases snoc_get e1 with ⟨h1, h2⟩ | ⟨h1, h2⟩
    · rcases snoc_get e2 with ⟨_, h3⟩ | ⟨h3, _⟩
      · exact .inl ⟨j, d, h2, h3⟩
      · omega
    · subst h1
      rcases snoc_get e2 with ⟨h3, _⟩ | ⟨_, h3⟩
      · omega
      · cases h3; exact .inr rfl
  · rintro (⟨j, d, e1, e2⟩ | e)
    · have h1 := (List.getElem?_eq_some_iff.mp e1).1
      have h2 := (List.getElem?_eq_some_iff.mp e2).1
      exact ⟨j, d, by rw [List.getElem?_append_left h1]; exact e1, by rw [List.getElem?_append_left h2]; exact e2⟩
    · subst e
      exact ⟨env.length, c, by simp, by rw [hl]; simp⟩
/-- a new thing in a slot more -/
theorem Good.push (g : Good K T ex σ H env) (hx : H x = none) (k : ∀ b o, H b = some o → H' b = some o) (r : RepO K T (fun b => exO ex σ env b ∨ b = x) H' x c) : Good K T ex (σ ++ [some (V.ref x)]) H' (env ++ [.own c]) := by
  have exq : exO ex (σ ++ [some (V.ref x)]) (env ++ [.own c]) = fun b => exO ex σ env b ∨ b = x := funext fun b => propext (by
    unfold exO
    rw [owns_push g.len, or_assoc])
  have mo : ∀ b o, ¬ exO ex σ env b → H b = some o → ¬ (exO ex σ env b ∨ b = x) ∧ H' b = some o := fun b o n q => ⟨fun z => z.elim n fun z => (by rw [z, hx] at q; exact nomatch q), k b o q⟩
  refine ⟨by simp [g.len], fun j d e => ?_, fun j d e => ?_, fun i j a d d' e1 e2 e3 e4 => ?_, fun b h => ?_, g.tb.ext k⟩
  · rw [exq]
    rcases snoc_get e with ⟨h1, h2⟩ | ⟨_, h2⟩
    · obtain ⟨v, e1, rr⟩ := g.val j d h2
      exact ⟨v, by rw [List.getElem?_append_left (by rw [← g.len]; exact h1)]; exact e1, rr.mono mo⟩
    · cases h2
  · rw [exq]
    rcases snoc_get e with ⟨h1, h2⟩ | ⟨h1, h2⟩
    · obtain ⟨a, e1, n, rr⟩ := g.own j d h2
      refine ⟨a, by rw [List.getElem?_append_left (by rw [← g.len]; exact h1)]; exact e1, n, rr.mono ?_ mo⟩
      cases w : H a with
      | none => exact absurd w rr.there
      | some o => exact k a o w
    · cases h2; subst h1
      exact ⟨x, by rw [g.len]; simp, fun z => g.dom x z hx, r⟩
  · have nx : ∀ {j : Nat} {d : OC}, env[j]? = some (.own d) → σ[j]? ≠ some (some (V.ref x)) := fun {j d} h z => (g.owned ⟨j, d, h, z⟩).1 hx
    rcases snoc_get e1 with ⟨h1, h2⟩ | ⟨h1, h2⟩
    · rw [List.getElem?_append_left (by rw [← g.len]; exact h1)] at e3
      rcases snoc_get e2 with ⟨h3, h4⟩ | ⟨h3, h4⟩
      · rw [List.getElem?_append_left (by rw [← g.len]; exact h3)] at e4
        exact g.inj i j a d d' h2 h4 e3 e4
      · subst h3; rw [g.len] at e4; simp at e4; subst e4; exact absurd e3 (nx h2)
    · subst h1
      rw [g.len] at e3; simp at e3; subst e3
      rcases snoc_get e2 with ⟨h3, h4⟩ | ⟨h3, h4⟩
      · rw [List.getElem?_append_left (by rw [← g.len]; exact h3)] at e4
        exact absurd e4 (nx h4)
      · exact h3.symm
  · intro q
    cases w : H b with
    | none => exact g.dom b h w
    | some o => rw [k b o w] at q; cases q
theorem step_popped (g : Good K T ex σ H env) (hx : H x = none) (k : ∀ b o, H b = some o → H0 b = some o) (s : Step K T ex (σ ++ [some (V.ref x)]) H0 (env ++ [.own c]) H' e') :
    Step K T ex σ H env H' (e'.take env.length) ∧ (∀ b, exO ex σ (e'.take env.length) b → exO ex (σ ++ [some (V.ref x)]) e' b) ∧ (∀ c', e'[env.length]? = some (.own c') → RepO K T (exO ex (σ ++ [some (V.ref x)]) e') H' x c' ∧ ¬ exO ex σ (e'.take env.length) x) := by
  have hl := s.gd.len
  rw [List.length_append, List.length_singleton] at hl
  have tk : ∀ {j : Nat} {z : Slot}, (e'.take env.length)[j]? = some z → j < env.length ∧ e'[j]? = some z := fun {j z} h => by
    rw [List.getElem?_take] at h
    split at h
    · exact ⟨by assumption, h⟩
    · cases h
  have σe : ∀ {j : Nat}, j < env.length → (σ ++ [some (V.ref x)])[j]? = σ[j]? := fun {j} h => List.getElem?_append_left (by rw [← g.len]; exact h)
  have ow : ∀ {b}, Owns σ (e'.take env.length) b → Owns (σ ++ [some (V.ref x)]) e' b ∧ b ≠ x := fun {b} ⟨j, d, e1, e2⟩ => by
    obtain ⟨h1, h2⟩ := tk e1
    refine ⟨⟨j, d, h2, by rw [σe h1]; exact e2⟩, fun z => ?_⟩
    subst z
    obtain ⟨d', e3⟩ := s.sb j d h2
    rw [List.getElem?_append_left h1] at e3
    exact (g.owned ⟨j, d', e3, e2⟩).1 hx
  have mo : ∀ b o, ¬ exO ex (σ ++ [some (V.ref x)]) e' b → H' b = some o → ¬ exO ex σ (e'.take env.length) b ∧ H' b = some o := fun b o n q => ⟨fun z => n (z.imp id fun z => (ow z).1), q⟩
  refine ⟨⟨fun b o e n => s.fr b o (k b o e) fun z => ?_, fun b e => s.dm b fun q => ?_, fun j d e => ?_, ⟨by rw [List.length_take, g.len]; omega, fun j d e => ?_, fun j d e => ?_, fun i j a d d' e1 e2 e3 e4 => ?_, s.gd.dom, s.gd.tb⟩⟩, fun b h => h.imp id fun z => (ow z).1, fun c' e => ?_⟩
  · rcases (owns_push g.len).mp z with z | z
    · exact n z
    · subst z; rw [hx] at e; cases e
  · cases w : H b with
    | none => exact e w
    | some o => rw [k b o w] at q; cases q
  · obtain ⟨h1, h2⟩ := tk e
    obtain ⟨d', e3⟩ := s.sb j d h2
    rw [List.getElem?_append_left h1] at e3
    exact ⟨d', e3⟩
  · obtain ⟨h1, h2⟩ := tk e
    obtain ⟨v, e1, r⟩ := s.gd.val j d h2
    exact ⟨v, by rw [← σe h1]; exact e1, r.mono mo⟩
  · obtain ⟨h1, h2⟩ := tk e
    obtain ⟨a, e1, n, r⟩ := s.gd.own j d h2
    exact ⟨a, by rw [← σe h1]; exact e1, n, r.mono rfl mo⟩
  · obtain ⟨h1, h2⟩ := tk e1
    obtain ⟨h3, h4⟩ := tk e2
    exact s.gd.inj i j a d d' h2 h4 (by rw [σe h1]; exact e3) (by rw [σe h3]; exact e4)
  · obtain ⟨a, e1, n, r⟩ := s.gd.own _ c' e
    have e2 : (σ ++ [some (V.ref x)])[env.length]? = some (some (V.ref x)) := by rw [g.len]; simp
    rw [e2] at e1
    cases e1
    exact ⟨r, fun z => z.elim n fun z => (ow z).2 rfl⟩
/-- the promise of __init__ at a new instance -/
theorem trx_make {t : Nat} {gi : M EV} {as : List AV} {vs : List V} {Q : VK} {dx : Addr} (h : trx K T (relE K T) ex (makeM t gi as) env W σ H Q) (hp : Paired (fun a v => RepA K T ex σ env H v a) as vs) (hx : H x = none) (hdx : H dx = none) (hne : dx ≠ x) :
    spD K T gi (.ref x :: vs) (upd (upd H dx (.own x)) x (.ins (T.cls t) dx [])) (fun v H2 => v = .non ∧ Q (.ref x) H2) fun c d H' => W c d σ H' := by
  obtain ⟨g, r, er, o⟩ := h
  have k : ∀ b u, H b = some u → upd (upd H dx (.own x)) x (.ins (T.cls t) dx []) b = some u := fun b u e => by
    rw [upd_ne (ne_of_none e hx), upd_ne (ne_of_none e hdx)]; exact e
  have gp : Good K T ex (σ ++ [some (V.ref x)]) (upd (upd H dx (.own x)) x (.ins (T.cls t) dx [])) (env ++ [.own (.ins t [])]) := g.push hx k ⟨dx, [], by rw [upd_same]; rfl, Nat.zero_le _, .nil⟩
  have exle : ∀ b, exO ex σ env b → exO ex (σ ++ [some (V.ref x)]) (env ++ [.own (.ins t [])]) b := fun b h => h.imp id fun z => (owns_push g.len).mpr (.inl z)
  have exi : ∀ b, exO ex (σ ++ [some (V.ref x)]) (env ++ [.own (.ins t [])]) b → exO ex σ env b ∨ b = x := fun b h => by
    rcases h with h | h
    · exact .inl (.inl h)
    · exact ((owns_push g.len).mp h).imp .inr id
  have rp : ∀ {a : AV} {v : V}, RepA K T ex σ env H v a → RepA K T ex (σ ++ [some (V.ref x)]) (env ++ [.own (.ins t [])]) (upd (upd H dx (.own x)) x (.ins (T.cls t) dx [])) v a := fun {a v} r => by
    cases a with
    | v d => exact Rep.mono (fun b u n e => ⟨fun z => (exi b z).elim n fun z => (by rw [z, hx] at e; exact nomatch e), k b u e⟩) r
    | s i =>
      have r : σ[i]? = some (some v) := r
      show (σ ++ [some (V.ref x)])[i]? = some (some v)
      rw [List.getElem?_append_left (List.getElem?_eq_some_iff.mp r).1]; exact r
  have hp2 : Paired (fun a v => RepA K T ex (σ ++ [some (V.ref x)]) (env ++ [.own (.ins t [])]) (upd (upd H dx (.own x)) x (.ins (T.cls t) dx [])) v a) (.s env.length :: as) (.ref x :: vs) := by
    refine .cons (by show (σ ++ [some (V.ref x)])[env.length]? = _; rw [g.len]; simp) ?_
    clear er o
    induction hp with
    | nil => exact .nil
    | cons h1 h2 ih => exact .cons (rp h1) ih
  have conv : ∀ {rg : Re EV}, callM gi (.s env.length :: as) (env ++ [.own (.ins t [])]) = some rg → Out K T (relE K T) ex (env ++ [.own (.ins t [])]) (fun c d _ H' => W c d σ H') (σ ++ [some (V.ref x)]) (upd (upd H dx (.own x)) x (.ins (T.cls t) dx [])) (fun v H2 => v = .non ∧ Q (.ref x) H2) rg := fun {rg} e => by
    unfold makeM at er
    rw [e] at er
    cases rg with
    | exc z e' =>
      cases er
      intro cls dd H' s rx
      obtain ⟨s', exb, _⟩ := step_popped g hx k s
      refine o cls dd H' s' ⟨rx.1, rx.2.imp id ?_⟩
      rintro ⟨a, ws, e1, e2, l, rr⟩
      exact ⟨a, ws, e1, e2, l, rr.mono fun b u n e => ⟨fun z => n (exb b z), e⟩⟩
    | ok ev e' =>
      intro v H' s rv
      obtain ⟨s', exb, hown⟩ := step_popped g hx k s
      cases ev with
      | o c => cases er
      | v d =>
        cases d with
        | non =>
          dsimp only at er
          split at er
          · rename_i t' ds w
            split at er
            · rename_i ht
              cases er
              obtain ⟨rfl, hl⟩ := ht
              obtain ⟨⟨dx', us, h1, _, h3⟩, nx⟩ := hown _ w
              refine ⟨rv, o (.ref x) H' s' ⟨x, dx', us, rfl, nx, ?_, ?_, ?_⟩⟩
              · rw [hl, List.take_length] at h1; exact h1
              · rw [← h3.length, hl]
              · exact h3.mono fun b u n e => ⟨fun z => n (exb b z), e⟩
            · cases er
          · cases er
        | _ => cases er
  cases e : callM gi (.s env.length :: as) (env ++ [.own (.ins t [])]) with
  | none => unfold makeM at er; rw [e] at er; cases er
  | some rg => exact trx_call (W := fun c d _ H' => W c d σ H') ⟨gp, rg, e, conv e⟩ hp2
end
section
variable {X : Cx} {W : WX} {k : Nat} {f C : Addr} {sp : Sp} {x : Str} {p pos : Pos} {e : Expr} {es : List Expr} {t : TA}
theorem run_makeQ {pins : List (Addr × Obj)} {σ : St} {H : Hp} {s : Shared} {Q : VK} {us : List Value} {vs : List V} (M : Mk X.K C f) (F : FnG NG X.prog X.w X.K X.mg X.base k f sp) (hr : RG NG (k + 1) X.A) (tk : Takes X W) (I : Inv X pins σ H s) (r : Vals vs us)
    (h : ∀ x dx, H x = none → H dx = none → dx ≠ x → sp (V.ref x :: vs) (upd (upd H dx (.own x)) x (.ins C dx [])) (fun v H2 => v = .non ∧ Q (.ref x) H2) fun c d H' => W c d σ H') :
    wpAny (model X.prog X.w) X.A (call (.ref C) us) (EP X pins σ Q) X.xe s := by
  have hq := h (s.heap.objs.size + 1) s.heap.objs.size (I.hok.fresh (Nat.le_succ _)) (I.hok.fresh (Nat.le_refl _)) (Nat.ne_of_lt (Nat.lt_succ_self _))
  have I2 := Inv.made (C := C) I
  have r2 : Vals (V.ref (s.heap.objs.size + 1) :: vs) (Value.ref (s.heap.objs.size + 1) :: us) := .cons rfl r
  refine wpAny_call (make_map (f := f) I.kIn M.makes M.init (beq_iff_eq.mp M.fn) (codeAny_mono (F _ X.stack _ _ (Value.ref (s.heap.objs.size + 1) :: us) _ _ _ (hr.make C us) (I2.env0.make C us []) r2 hq) fun r s' hq' => ?_))
  cases r with
  | error e => exact tk e s' (XE.of_call I2 (fun _ _ _ h => h) hq')
  | ok fl =>
    cases fl with
    | ret u =>
      obtain ⟨v, H', I3, rv, ev, q3⟩ := I2.after hq'
      subst ev
      exact ⟨rv, ⟨V.ref (s.heap.objs.size + 1), H', I3, rfl, q3⟩⟩
    | next => exact False.elim hq'
    | brk => exact False.elim hq'
    | cont => exact False.elim hq'
end
/-- what a star hands on -/
def starD : D → Option (List D)
  | .lst ds => some ds
  | .tup ds => some ds
  | _ => none
def eMakeS (t : Nat) (g : M EV) (fa : M AV) : M EV := M.bind fa fun a => fun env => (deref env a).bind fun d => (starD d).bind fun ds => makeM t g (ds.map AV.v) env
theorem reps_of {K : PySem.W.Frag} {T : Tab} {ex : Addr → Prop} {σ : St} {env : Sl} {H : Hp} : ∀ {ds : List D} {vs : List V}, RepL K T (exO ex σ env) H ds vs → Paired (fun a v => RepA K T ex σ env H v a) (ds.map AV.v) vs
  | [], vs, e => by cases (show vs = [] from e); exact .nil
  | d :: ds, _, ⟨v, r, e, h1, h2⟩ => by subst e; exact .cons h1 (reps_of h2)
section
variable {T : Tab} {X : Cx} {k t : Nat} {f : Addr} {g : M EV} {x : Str} {p pos : Pos} {e : Expr} {es : List Expr} {fs : M (List AV)} {fa : M AV}
end

/-! ### raise, try -/
def sRaise (t : Nat) : S := fun env => some (.exc ⟨t, []⟩ env)
section
variable {T : Tab} {X : Cx} {np : Nat → Bool} {t : Nat} {x m : Str} {j : Nat} {p p2 pos pos' np' : Pos} {bmB : List Value} {B newId initId : String}
theorem qs_raise (hc : X.calm = true) (F : ExcBaseFacts B newId initId bmB) (q : PySem.W.excIn X.K (T.cls t) bmB newId = true) (gC : X.mg x = some (.ref (T.cls t))) (kC : PySem.W.keepIn X.K (.ref (T.cls t)) = true) (r : Raises X (.ref (T.cls t))) (hg : Gl X x)
    (hdb : (x == ("__debug__" : Str)) = false := by decide) : QS T X np (.Raise (some (.Call (.Name x p) [.Constant (.str m) j p2] [] pos')) none pos) (sRaise t) := fun pn xe W tk hp => by
  refine impS (ps_raise (X := X.tr pn xe) hc tk (pmk_own (X := X.tr pn xe) F q gC kC r hg hdb)) fun D σ H ⟨ex, env, g, rr, er, o⟩ => ?_
  cases er
  exact o _ _ σ H (SStep.refl g) ⟨rfl, .inl ⟨rfl, rfl⟩⟩
end
end Dt
end
section
set_option maxRecDepth 100000
set_option maxHeartbeats 4000000
/-! QJ: operators and built-in functions on data. -/
namespace Dt
open PySem PySem.Spec L2
open PyProof.Rows hiding St

/-! ### data as plain data -/
mutual
def toP : D → Option PyData
  | .non => some .none
  | .bl b => some (.bool b)
  | .int i => some (.int i)
  | .str s => some (.str (mkS s))
  | .tup xs => (toPL xs).map .tuple
  | .lst xs => (toPL xs).map .list
  | _ => none
def toPL : List D → Option (List PyData)
  | [] => some []
  | d :: ds => (toP d).bind fun p => (toPL ds).map (p :: ·)
end
def strsOf : List D → Option (List (List Nat))
  | [] => some []
  | .str s :: r => (strsOf r).map (s :: ·)
  | _ :: _ => none
def vB (b : Bool) : EV := .v (.bl b)
def vI (i : Int) : EV := .v (.int i)
def big : Nat := 1000000

section
variable {K : PySem.W.Frag} {T : Tab} {ex : Addr → Prop} {H H' : Hp}
theorem dp_both : (∀ d : D, ∀ v p, toP d = some p → Rep K T ex H d v → Dp K H v p) ∧ ∀ ds : List D, ∀ vs ps, toPL ds = some ps → RepL K T ex H ds vs → DpAll K H vs ps := by
  refine D.ind ?_ ?_ ?_ ?_ ?_ ?_ ?_ ?_ ?_ ?_ ?_ ?_ ?_
  · intro v p e r; unfold toP at e; cases e; cases (show v = V.non from r); exact .non
  · intro b v p e r; unfold toP at e; cases e; cases (show v = V.bl b from r); exact .bl b
  · intro i v p e r; unfold toP at e; cases e; cases (show v = V.int i from r); exact .int i
  · intro s v p e r; unfold toP at e; cases e; cases (show v = V.str (mkS s) from r); exact .str _
  · intro xs ih v p e r
    unfold toP at e
    obtain ⟨ps, e1, rfl⟩ := Option.map_eq_some_iff.mp e
    obtain ⟨a, vs, rfl, _, h1, h2⟩ := r
    exact .tup (.of h1) (ih _ _ e1 h2)
  · intro xs ih v p e r
    unfold toP at e
    obtain ⟨ps, e1, rfl⟩ := Option.map_eq_some_iff.mp e
    obtain ⟨a, vs, rfl, _, h1, h2⟩ := r
    exact .lst (.of h1) (ih _ _ e1 h2)
  · intro ks xs ih v p e r; unfold toP at e; cases e
  · intro t xs ih v p e r; unfold toP at e; cases e
  · intro u v p e r; unfold toP at e; cases e
  · intro ns v p e r; unfold toP at e; cases e
  · intro f us ds ih v p e r; unfold toP at e; cases e
  · intro vs ps e r; unfold toPL at e; cases e; cases (show vs = [] from r); exact .nil
  · intro d ds i1 i2 vs ps e r
    unfold toPL at e
    obtain ⟨p, e1, e⟩ := opt_bind e
    obtain ⟨qs, e2, rfl⟩ := Option.map_eq_some_iff.mp e
    obtain ⟨v, r', rfl, h1, h2⟩ := r
    exact .cons (i1 _ _ e1 h1) (i2 _ _ e2 h2)
theorem Rd1.dp {d : D} {v : V} {p : PyData} (r : Rd1 K T ex H d v) (e : toP d = some p) : Dp K H v p := by
  cases d with
  | lst xs =>
    unfold toP at e
    obtain ⟨ps, e1, rfl⟩ := Option.map_eq_some_iff.mp e
    obtain ⟨a, vs, rfl, h1, h2⟩ := r
    exact .lst (.of h1) (dp_both.2 _ _ _ e1 h2)
  | dic ks ds => unfold toP at e; cases e
  | _ => exact (dp_both (T := T) (ex := ex)).1 _ _ _ e r
theorem strs_rep : ∀ {ds : List D} {ss : List (List Nat)} {vs : List V}, strsOf ds = some ss → RepL K T ex H ds vs → vs = (ss.map mkS).map V.str
  | [], ss, vs, e, r => by cases e; cases (show vs = [] from r); rfl
  | .str s :: ds, ss, _, e, ⟨v, w, e1, h1, h2⟩ => by
    unfold strsOf at e
    obtain ⟨ts, e2, rfl⟩ := Option.map_eq_some_iff.mp e
    subst e1
    cases (show v = V.str (mkS s) from h1)
    rw [strs_rep e2 h2]; rfl
  | .non :: _, _, _, e, _ => by cases e
  | .bl _ :: _, _, _, e, _ => by cases e
  | .int _ :: _, _, _, e, _ => by cases e
  | .tup _ :: _, _, _, e, _ => by cases e
  | .lst _ :: _, _, _, e, _ => by cases e
  | .dic _ _ :: _, _, _, e, _ => by cases e
  | .obj _ _ :: _, _, _, e, _ => by cases e
  | .raw _ :: _, _, _, e, _ => by cases e
  | .scr _ :: _, _, _, e, _ => by cases e
  | .clo _ _ _ :: _, _, _, e, _ => by cases e
theorem strs_repL : ∀ (ss : List (List Nat)), RepL K T ex H (ss.map D.str) ((ss.map mkS).map V.str)
  | [] => rfl
  | s :: ss => ⟨_, _, rfl, rfl, strs_repL ss⟩
end

/-! ### two-place operators -/
def orD (f g : D → D → Option EV) : D → D → Option EV := fun x y => match f x y with
  | some r => some r
  | none => g x y
section
variable {X : Cx} {T : Tab} {f : Value → Value → Sem Value}
theorem op_or {g g' : D → D → Option EV} (h : OpR X f (rQ X.K T g)) (h' : OpR X f (rQ X.K T g')) : OpR X f (rQ X.K T (orD g g')) := by
  intro pins s σ H x y v u Q I rx ry ⟨ex, d1, d2, ev, dm, r1, r2, e, k⟩
  unfold orD at e
  cases q : g d1 d2 with
  | some r => rw [q] at e; cases e; exact h pins s σ H x y v u Q I rx ry ⟨ex, d1, d2, ev, dm, r1, r2, q, k⟩
  | none => rw [q] at e; exact h' pins s σ H x y v u Q I rx ry ⟨ex, d1, d2, ev, dm, r1, r2, e, k⟩
theorem op_of {g : D → D → Option EV} {r : R2} (h : OpR X f r) (k : ∀ x y H Q, rQ X.K T g x y H Q → r x y H Q) : OpR X f (rQ X.K T g) := fun pins s σ H x y v u Q I rx ry q => h pins s σ H x y v u Q I rx ry (k _ _ _ _ q)
end
/-- on ints -/
def opI2 (c : Int → Int → Bool) (g : Int → Int → D) : D → D → Option EV := fun x y => match x, y with
  | .int i, .int j => if c i j = true then some (.v (g i j)) else none
  | _, _ => none
section
variable {K : PySem.W.Frag} {T : Tab}
theorem rQ_int {c : Int → Int → Bool} {g : Int → Int → D} {gv : Int → Int → V} (hg : ∀ ex H i j, Rep K T ex H (g i j) (gv i j)) {x y : V} {H : Hp} {Q : VK} (h : rQ K T (opI2 c g) x y H Q) : ∃ i j, x = .int i ∧ y = .int j ∧ c i j = true ∧ Q (gv i j) H := by
  obtain ⟨ex, d1, d2, ev, dm, r1, r2, e, k⟩ := h
  unfold opI2 at e
  split at e
  · split at e
    · rename_i i j hc
      cases e
      exact ⟨i, j, r1, r2, hc, k _ H (fun _ _ z => z) (hg _ _ _ _)⟩
    · cases e
  · cases e
end
def yes2 : Int → Int → Bool := fun _ _ => true
def okMul : Int → Int → Bool := fun i j => decide ((-(2 ^ 64) < i ∧ i < 2 ^ 64) ∨ (-(2 ^ 64) < j ∧ j < 2 ^ 64))
def okDiv : Int → Int → Bool := fun _ j => decide (0 < j ∧ j < 1073741824)
def okMod : Int → Int → Bool := fun _ j => decide (0 < j)
def okPow : Int → Int → Bool := fun i j => decide (0 ≤ j ∧ j ≤ 1000000 ∧ i.natAbs < 2 ^ 64)
def addI := opI2 yes2 fun i j => .int (i + j)
def subD := opI2 yes2 fun i j => .int (i - j)
def mulI := opI2 okMul fun i j => .int (i * j)
def divD := opI2 okDiv fun i j => .int (i / j)
def modD := opI2 okMod fun i j => .int (i % j)
def powD := opI2 okPow fun i j => .int (i ^ j.toNat)
def ltI := opI2 yes2 fun i j => .bl (decide (i < j))
def leI := opI2 yes2 fun i j => .bl (decide (i ≤ j))
def gtI := opI2 yes2 fun i j => .bl (decide (j < i))
def geI := opI2 yes2 fun i j => .bl (decide (j ≤ i))
def addS : D → D → Option EV := fun x y => match x, y with
  | .str a, .str b => if a.length + b.length ≤ big then some (.v (.str (a ++ b))) else none
  | _, _ => none
def addL : D → D → Option EV := fun x y => match x, y with
  | .lst a, .lst b => if a.length + b.length ≤ big then some (.o (.lst (a ++ b))) else none
  | _, _ => none
def addT : D → D → Option EV := fun x y => match x, y with
  | .tup a, .tup b => if a.length + b.length ≤ big then some (.v (.tup (a ++ b))) else none
  | _, _ => none
def addD : D → D → Option EV := orD addI (orD addS (orD addL addT))
theorem big_line : big ≤ sizeLine := by rw [sizeLine_eq]; unfold big; omega
theorem mkS_app (a b : List Nat) : mkS a ++ mkS b = mkS (a ++ b) := by
  show Str.append (mkS a) (mkS b) = _
  simp [Str.append, mkS]
section
variable {X : Cx} {T : Tab}
theorem op_int0 {f : Value → Value → Sem Value} {gv : Int → Int → V} {g : Int → Int → D} (ho : OpR X f (rI0 gv)) (hg : ∀ ex H i j, Rep X.K T ex H (g i j) (gv i j)) : OpR X f (rQ X.K T (opI2 yes2 g)) :=
  op_of ho fun x y H Q h => let ⟨i, j, a, b, _, q⟩ := rQ_int (gv := gv) hg h; ⟨i, j, a, b, q⟩
theorem op_intC {f : Value → Value → Sem Value} {C : Int → Int → Prop} {c : Int → Int → Bool} {gv : Int → Int → V} {g : Int → Int → D} (ho : OpR X f (rI C gv)) (hc : ∀ i j, c i j = true → C i j) (hg : ∀ ex H i j, Rep X.K T ex H (g i j) (gv i j)) : OpR X f (rQ X.K T (opI2 c g)) :=
  op_of ho fun x y H Q h => let ⟨i, j, a, b, c, q⟩ := rQ_int (gv := gv) hg h; ⟨i, j, a, b, hc _ _ c, q⟩
theorem op_addI : OpR X (binaryOp .Add) (rQ X.K T addI) := op_int0 op_add fun _ _ _ _ => rfl
theorem op_subD : OpR X (binaryOp .Sub) (rQ X.K T subD) := op_int0 op_sub fun _ _ _ _ => rfl
theorem op_mulI : OpR X (binaryOp .Mult) (rQ X.K T mulI) := op_intC op_mul (fun _ _ h => of_decide_eq_true (p := (-(2 ^ 64) < _ ∧ _ < 2 ^ 64) ∨ (-(2 ^ 64) < _ ∧ _ < 2 ^ 64)) h) fun _ _ _ _ => rfl
theorem op_divD : OpR X (binaryOp .FloorDiv) (rQ X.K T divD) := op_intC op_fdiv (fun _ _ h => of_decide_eq_true (p := 0 < _ ∧ _ < 1073741824) h) fun _ _ _ _ => rfl
theorem op_modD : OpR X (binaryOp .Mod) (rQ X.K T modD) := op_intC op_mod (fun _ _ h => of_decide_eq_true (p := 0 < _) h) fun _ _ _ _ => rfl
theorem op_powD : OpR X (binaryOp .Pow) (rQ X.K T powD) := op_intC op_pow (fun _ _ h => of_decide_eq_true (p := 0 ≤ _ ∧ _ ≤ 1000000 ∧ _ < 2 ^ 64) h) fun _ _ _ _ => rfl
theorem op_ltI : OpR X (compareOp .Lt) (rQ X.K T ltI) := op_int0 op_lt fun _ _ _ _ => rfl
theorem op_leI : OpR X (compareOp .LtE) (rQ X.K T leI) := op_int0 op_le fun _ _ _ _ => rfl
theorem op_gtI : OpR X (compareOp .Gt) (rQ X.K T gtI) := op_int0 op_gt fun _ _ _ _ => rfl
theorem op_addS : OpR X (binaryOp .Add) (rQ X.K T addS) := op_of op_add_str fun x y H Q ⟨ex, d1, d2, ev, dm, r1, r2, e, k⟩ => by
  unfold addS at e
  split at e
  · split at e
    · rename_i a b hc
      cases e
      refine ⟨mkS a, mkS b, r1, r2, by rw [mkS_len, mkS_len]; exact Nat.le_trans hc big_line, k _ H (fun _ _ z => z) ?_⟩
      show V.str (mkS a ++ mkS b) = V.str (mkS (a ++ b))
      rw [mkS_app]
    · cases e
  · cases e
theorem op_addL : OpR X (binaryOp .Add) (rQ X.K T addL) := op_of op_cat fun x y H Q ⟨ex, d1, d2, ev, dm, r1, r2, e, k⟩ => by
  unfold addL at e
  split at e
  · split at e
    · rename_i a b hc
      cases e
      obtain ⟨p, vs, rfl, h1, h2⟩ := r1
      obtain ⟨q, ws, rfl, h3, h4⟩ := r2
      refine ⟨p, q, vs, ws, rfl, rfl, h1, h3, by rw [← h2.length, ← h4.length]; exact Nat.le_trans hc big_line, fun n hn => ?_⟩
      exact k _ _ (ext_new hn) ⟨n, rfl, hn, rep_newL hn (h2.append h4)⟩
    · cases e
  · cases e
theorem op_addT : OpR X (binaryOp .Add) (rQ X.K T addT) := op_of op_catA fun x y H Q ⟨ex, d1, d2, ev, dm, r1, r2, e, k⟩ => by
  unfold addT at e
  split at e
  · split at e
    · rename_i a b hc
      cases e
      obtain ⟨p, vs, rfl, n1, h1, h2⟩ := r1
      obtain ⟨q, ws, rfl, n2, h3, h4⟩ := r2
      refine ⟨p, q, vs, ws, rfl, rfl, .of h1, .of h3, by rw [← h2.length, ← h4.length]; exact Nat.le_trans hc big_line, fun z => ?_, fun _ z => ?_, fun _ _ n hn => ?_⟩
      · subst z
        cases a with
        | nil => exact k _ H (fun _ _ z => z) ⟨q, ws, rfl, n2, h3, h4⟩
        | cons _ _ => have := h2.length; simp at this
      · subst z
        cases b with
        | nil => rw [List.append_nil] at k; exact k _ H (fun _ _ z => z) ⟨p, vs, rfl, n1, h1, h2⟩
        | cons _ _ => have := h4.length; simp at this
      · exact k _ _ (ext_new hn) ⟨n, _, rfl, fun z => dm n z hn, upd_same, (h2.append h4).mono fun b o nb e => ⟨nb, ext_new hn b o e⟩⟩
    · cases e
  · cases e
theorem op_addD : OpR X (binaryOp .Add) (rQ X.K T addD) := op_or op_addI (op_or op_addS (op_or op_addL op_addT))
end

/-! ### comparisons -/
def scalD : D → D → Bool
  | .non, .non => true | .non, .int _ => true | .int _, .non => true | .non, .bl _ => true | .bl _, .non => true | .non, .str _ => true | .str _, .non => true
  | .int _, .int _ => true | .bl _, .bl _ => true | .str _, .str _ => true
  | .int _, .str _ => true | .str _, .int _ => true | .bl _, .str _ => true | .str _, .bl _ => true
  | _, _ => false
def scEq : D → D → Bool
  | .non, .non => true
  | .int i, .int j => i == j
  | .bl a, .bl b => a == b
  | .str a, .str b => a == b
  | _, _ => false
def eqS : D → D → Option EV := fun x y => if scalD x y = true then some (vB (scEq x y)) else none
def neS : D → D → Option EV := fun x y => if scalD x y = true then some (vB (!scEq x y)) else none
def eqP (n : Bool) : D → D → Option EV := fun x y => match toP x, toP y with
  | some p, some q => if SeqAt.shaped p = true ∧ SeqAt.shaped q = true then some (vB (n ^^ PyData.eqv p q)) else none
  | _, _ => none
def eqD : D → D → Option EV := orD eqS (eqP false)
def neD : D → D → Option EV := orD neS (eqP true)
def ltS : D → D → Option EV := fun x y => match x, y with
  | .str a, .str b => some (vB (decide (a < b)))
  | _, _ => none
def ltD := orD ltI ltS
def isNon : D → Option Bool
  | .non => some true
  | .raw _ => none
  | .clo _ _ _ => none
  | _ => some false
def isD (n : Bool) : D → D → Option EV := fun x y => match y with
  | .non => (isNon x).map fun b => vB (n ^^ b)
  | _ => none
def isB (n : Bool) : D → D → Option EV := fun x y => match x, y with
  | .bl a, .bl b => some (vB (n ^^ (a == b)))
  | _, _ => none
section
variable {X : Cx} {T : Tab}
theorem sc_eq {K : PySem.W.Frag} {ex : Addr → Prop} {H : Hp} {d e : D} {x y : V} (h : scalD d e = true) (r1 : Rd1 K T ex H d x) (r2 : Rd1 K T ex H e y) : scal x y = true ∧ decide (x = y) = scEq d e := by
  unfold scalD at h
  split at h <;> first
  | (cases h; done)
  | (cases (show x = _ from r1); cases (show y = _ from r2); refine ⟨rfl, ?_⟩; unfold scEq; first | rfl | (rw [Bool.eq_iff_iff]; simp [mkS_inj]) | simp)
theorem op_eqS : OpR X (compareOp .Eq) (rQ X.K T eqS) := op_of op_eq fun x y H Q ⟨ex, d1, d2, ev, dm, r1, r2, e, k⟩ => by
  unfold eqS at e
  split at e
  · rename_i h
    cases e
    obtain ⟨a, b⟩ := sc_eq h r1 r2
    refine ⟨a, k _ H (fun _ _ z => z) ?_⟩
    show V.bl _ = V.bl _
    rw [b]
  · cases e
theorem op_neS : OpR X (compareOp .NotEq) (rQ X.K T neS) := op_of op_ne fun x y H Q ⟨ex, d1, d2, ev, dm, r1, r2, e, k⟩ => by
  unfold neS at e
  split at e
  · rename_i h
    cases e
    obtain ⟨a, b⟩ := sc_eq h r1 r2
    refine ⟨a, k _ H (fun _ _ z => z) ?_⟩
    show V.bl _ = V.bl _
    rw [b]
  · cases e
theorem op_eqP (hu : X.A.units + 64 < cLine) : OpR X (compareOp .Eq) (rQ X.K T (eqP false)) := op_of (op_eqD hu) fun x y H Q ⟨ex, d1, d2, ev, dm, r1, r2, e, k⟩ => by
  unfold eqP at e
  split at e
  · rename_i p q hp hq
    split at e
    · rename_i h
      cases e
      exact ⟨p, q, r1.dp hp, r2.dp hq, h.1, h.2, k _ H (fun _ _ z => z) (by show V.bl _ = V.bl _; rw [Bool.false_xor])⟩
    · cases e
  · cases e
theorem op_neP (hu : X.A.units + 64 < cLine) : OpR X (compareOp .NotEq) (rQ X.K T (eqP true)) := op_of (op_neD hu) fun x y H Q ⟨ex, d1, d2, ev, dm, r1, r2, e, k⟩ => by
  unfold eqP at e
  split at e
  · rename_i p q hp hq
    split at e
    · rename_i h
      cases e
      exact ⟨p, q, r1.dp hp, r2.dp hq, h.1, h.2, k _ H (fun _ _ z => z) (by show V.bl _ = V.bl _; rw [Bool.true_xor])⟩
    · cases e
  · cases e
theorem op_eqQ (hu : X.A.units + 64 < cLine) : OpR X (compareOp .Eq) (rQ X.K T eqD) := op_or op_eqS (op_eqP hu)
theorem op_neQ (hu : X.A.units + 64 < cLine) : OpR X (compareOp .NotEq) (rQ X.K T neD) := op_or op_neS (op_neP hu)
theorem op_ltS : OpR X (compareOp .Lt) (rQ X.K T ltS) := op_of op_lt_str fun x y H Q ⟨ex, d1, d2, ev, dm, r1, r2, e, k⟩ => by
  unfold ltS at e
  split at e
  · rename_i a b
    cases e
    exact ⟨mkS a, mkS b, r1, r2, k _ H (fun _ _ z => z) (by show V.bl _ = V.bl _; rw [mkS_cps, mkS_cps])⟩
  · cases e
theorem op_ltQ : OpR X (compareOp .Lt) (rQ X.K T ltD) := op_or op_ltI op_ltS
end
end Dt
end
section
set_option maxRecDepth 100000
set_option maxHeartbeats 4000000
/-! QL: calls of built-in functions and methods, subscripts, slices, membership. -/
namespace Dt
open PySem PySem.Spec L2
open PyProof.Rows hiding St

def Rd1s (K : PySem.W.Frag) (T : Tab) (ex : Addr → Prop) (H : Hp) (ds : List D) (vs : List V) : Prop := Paired (fun d v => Rd1 K T ex H d v) ds vs
def rB (K : PySem.W.Frag) (T : Tab) (op : List D → Option EV) : List V → Hp → VK → Prop := fun vs H Q => ∃ ex ds ev, (∀ a, ex a → H a ≠ none) ∧ Rd1s K T ex H ds vs ∧ op ds = some ev ∧ ∀ v H', Ext H H' → RepV K T ex H H' v ev → Q v H'
def derefs (env : Sl) : List AV → Option (List D)
  | [] => some []
  | a :: as => (deref env a).bind fun d => (derefs env as).map (d :: ·)
def bM (op : List D → Option EV) (as : List AV) : M EV := fun env => (derefs env as).bind fun ds => lift (op ds) env
def eB (op : List D → Option EV) (fs : M (List AV)) : M EV := M.bind fs fun as => bM op as
section
variable {K : PySem.W.Frag} {T : Tab} {ex : Addr → Prop} {σ : St} {H : Hp} {env : Sl} {W : WX} {Q : VK}
theorem derefs_ok (g : Good K T ex σ H env) : ∀ {as : List AV} {vs : List V} {ds : List D}, Paired (fun a v => RepA K T ex σ env H v a) as vs → derefs env as = some ds → Rd1s K T (exO ex σ env) H ds vs
  | [], _, _, .nil, e => by cases e; exact .nil
  | a :: as, _, _, .cons h t, e => by
    unfold derefs at e
    obtain ⟨d, e1, e⟩ := opt_bind e
    obtain ⟨ds, e2, rfl⟩ := Option.map_eq_some_iff.mp e
    exact .cons (deref_ok g h e1) (derefs_ok g t e2)
theorem trx_b {op : List D → Option EV} {as : List AV} {vs : List V} (h : trx K T (relE K T) ex (bM op as) env W σ H Q) (rs : Paired (fun a v => RepA K T ex σ env H v a) as vs) : rB K T op vs H Q := by
  obtain ⟨g, r, e, o⟩ := h
  obtain ⟨ds, e1, e⟩ := opt_bind e
  cases q : op ds with
  | none => rw [q] at e; cases e
  | some ev =>
    rw [q] at e
    cases e
    exact ⟨_, ds, ev, g.dm, derefs_ok g rs e1, q, fun v H' k r => o v H' (Step.ext g k) (r.e g k)⟩
end
section
variable {T : Tab} {X : Cx} {id Ty : String} {op : List D → Option EV} {x name : Str} {p pos apos : Pos} {e o : Expr} {es : List Expr} {fs : M (List AV)} {fo : M AV}
theorem qe_callB (hc : ∀ pn xe, CallR (X.tr pn xe) (.builtin id) (rB X.K T op)) (hg : Gl X x) (hm : X.mg x = none) (hv : bootBuiltins x = some (.builtin id)) (ha : QAs T X (e :: es) fs) (hn : x ≠ "__name__" := by decide) (hdb : (x == ("__debug__" : Str)) = false := by decide)
    (he : starEach (e :: es) X.env = (false, eval e X.env) :: starEach es X.env := by rfl) (hpl : (backTo pos (starEach es X.env)).any (·.1) = false := by rfl) : QE T X (.Call (.Name x p) (e :: es) [] pos) (eB op fs) := fun pn xe W tk hp =>
  impE (pe_callB (X := X.tr pn xe) (hc pn xe) hg hm hv (ha pn xe W tk hp) hn hdb he hpl) fun σ H Q ⟨ex, env, q⟩ => ⟨ex, env, (trx_bind (relAs X.K T) rmE q).mono fun vs H1 ⟨as, env1, s, ra, q⟩ => trx_b q ra⟩
theorem qe_callTy (hc : ∀ pn xe, CallR (X.tr pn xe) (.type Ty) (rB X.K T op)) (hg : Gl X x) (hm : X.mg x = none) (hv : bootBuiltins x = some (.type Ty)) (ha : QAs T X (e :: es) fs) (hn : x ≠ "__name__" := by decide) (hdb : (x == ("__debug__" : Str)) = false := by decide)
    (he : starEach (e :: es) X.env = (false, eval e X.env) :: starEach es X.env := by rfl) (hpl : (backTo pos (starEach es X.env)).any (·.1) = false := by rfl) : QE T X (.Call (.Name x p) (e :: es) [] pos) (eB op fs) := fun pn xe W tk hp =>
  impE (pe_callTy (X := X.tr pn xe) (hc pn xe) hg hm hv (ha pn xe W tk hp) hn hdb he hpl) fun σ H Q ⟨ex, env, q⟩ => ⟨ex, env, (trx_bind (relAs X.K T) rmE q).mono fun vs H1 ⟨as, env1, s, ra, q⟩ => trx_b q ra⟩
/-- o.m(..), m of a built-in type -/
def tyM (ty : D → Bool) (a : AV) (m : M EV) : M EV := fun env => match deref env a with
  | some d => if ty d = true then m env else none
  | none => none
def eBM (ty : D → Bool) (op : List D → Option EV) (fo : M AV) (fs : M (List AV)) : M EV := M.bind fo fun a => tyM ty a (M.bind fs fun as => bM op (a :: as))
theorem qe_meB {ty : D → Bool} (hT : ∀ d ex H v, ty d = true → Rd1 X.K T ex H d v → tyV X.K Ty v H) {r : V → List V → Hp → VK → Prop} (pa : PlainAttrs Ty) (slot : PySem.Slot Ty name id) (hty : typeOf (.builtin id) = pure (.type "method_descriptor"))
    (hm : ∀ pn xe, MtR (X.tr pn xe) id r) (hr : ∀ x vs H Q, rB X.K T op (x :: vs) H Q → r x vs H Q) (ho : QO T X o fo) (ha : QAs T X (e :: es) fs)
    (hbase : attributeBase o name X.env (eval o X.env) = eval o X.env := by rfl)
    (hfew : ((backTo pos (starEach (e :: es) X.env)).all (fun x => !x.1) && (backToKw pos (keywordEach [] X.env)).all (fun x => x.1.isSome)
      && decide ((e :: es).length + ([] : List Keyword).length + (if ([] : List Keyword).isEmpty then 0 else 1) < 30)) = true := by rfl)
    (hline : (apos.endLine == pos.line) = true := by rfl) (hs : starEach (e :: es) X.env = (false, eval e X.env) :: starEach es X.env := by rfl) (hplain : (backTo pos (starEach es X.env)).any (·.1) = false := by rfl) :
    QE T X (.Call (.Attribute o name apos) (e :: es) [] pos) (eBM ty op fo fs) := fun pn xe W tk hp => by
  refine impE (pe_bm (X := X.tr pn xe) pa slot hty (hm pn xe) (ho pn xe W tk hp) (ha pn xe W tk hp) hbase hfew hline hs hplain) fun σ H Q ⟨ex, env, q⟩ => ?_
  refine ⟨ex, env, (trx_bind (relA X.K T) rmE q).mono fun v H1 ⟨a, env1, s, ra, g, rr, er, oo⟩ => ?_⟩
  unfold tyM at er
  split at er
  · split at er
    · rename_i d hd hty'
      refine ⟨hT d _ H1 v hty' (deref_ok g ra hd), ex, env1, (trx_bind (relAs X.K T) rmE ⟨g, rr, er, oo⟩).mono fun vs H2 ⟨as, env2, s2, rs, q2⟩ => hr _ _ _ _ (trx_b q2 (.cons (RepA.step ra s2) rs))⟩
    · cases er
  · cases er
end

section
variable {X : Cx} {T : Tab} {f : Value}
theorem cr_of {g : List D → Option EV} {r : List V → Hp → VK → Prop} (h : CallR X f r) (k : ∀ xs H Q, rB X.K T g xs H Q → r xs H Q) : CallR X f (rB X.K T g) := fun pins s σ H xs us Q I rs q => h pins s σ H xs us Q I rs (k _ _ _ q)
end
/-- the items of a list or tuple (the script, too) -/
def seqD : D → Option (List D)
  | .lst xs => some xs
  | .tup xs => some xs
  | .scr ns => some (ns.map D.int)
  | _ => none
section
variable {K : PySem.W.Frag} {T : Tab} {ex : Addr → Prop} {H : Hp}
theorem ints_repL : ∀ (ns : List Int), RepL K T ex H (ns.map D.int) (ns.map V.int)
  | [] => rfl
  | s :: ss => ⟨_, _, rfl, rfl, ints_repL ss⟩
theorem seq_of {d : D} {xs : List D} {v : V} (e : seqD d = some xs) (r : Rd1 K T ex H d v) : ∃ a vs, v = .ref a ∧ (SqL K H a vs ∨ SqT K H a vs) ∧ RepL K T ex H xs vs := by
  cases d with
  | lst ds => cases e; obtain ⟨a, vs, rfl, h1, h2⟩ := r; exact ⟨a, vs, rfl, .inl (.of h1), h2⟩
  | tup ds => cases e; obtain ⟨a, vs, rfl, _, h1, h2⟩ := r; exact ⟨a, vs, rfl, .inr (.of h1), h2⟩
  | scr ns =>
    cases e
    obtain ⟨a, rfl, h⟩ := r
    refine ⟨a, _, rfl, .inl ?_, ints_repL ns⟩
    rcases h with ⟨_, o, h⟩ | h
    · exact .inl (.inr ⟨o, h⟩)
    · exact .inr h
  | _ => cases e
end
def lenD : List D → Option EV
  | [.str s] => if s.length ≤ big then some (vI s.length) else none
  | [d] => (seqD d).map fun xs => vI xs.length
  | _ => none
def listD : List D → Option EV
  | [d] => match d with
    | .lst xs => some (.o (.lst xs))
    | .tup xs => some (.o (.lst xs))
    | _ => none
  | _ => none
def tupD : List D → Option EV
  | [d] => match d with
    | .lst xs => some (.v (.tup xs))
    | .tup xs => some (.v (.tup xs))
    | _ => none
  | _ => none
def maxI : List D → Option EV
  | [.int i, .int j] => some (vI (if j > i then j else i))
  | _ => none
def minI : List D → Option EV
  | [.int i, .int j] => some (vI (if j < i then j else i))
  | _ => none
def absD : List D → Option EV
  | [.int i] => some (vI (if i < 0 then -i else i))
  | _ => none
def intD : List D → Option EV
  | [.int i] => some (vI i)
  | [.bl b] => some (vI (if b then 1 else 0))
  | _ => none
def blsOf : List D → Option (List Bool)
  | [] => some []
  | .bl b :: r => (blsOf r).map (b :: ·)
  | _ :: _ => none
def intsOf : List D → Option (List Int)
  | [] => some []
  | .int b :: r => (intsOf r).map (b :: ·)
  | _ :: _ => none
def allD : List D → Option EV
  | [.lst xs] => (blsOf xs).map fun bs => vB (bs.all id)
  | _ => none
def anyD : List D → Option EV
  | [.lst xs] => (blsOf xs).map fun bs => vB (bs.any id)
  | _ => none
def sumD : List D → Option EV
  | [.lst xs] => (intsOf xs).map fun ns => vI ns.sum
  | _ => none
section
variable {K : PySem.W.Frag} {T : Tab} {ex : Addr → Prop} {H : Hp}
theorem bls_rep : ∀ {ds : List D} {ss : List Bool} {vs : List V}, blsOf ds = some ss → RepL K T ex H ds vs → vs = ss.map V.bl
  | [], ss, vs, e, r => by cases e; cases (show vs = [] from r); rfl
  | d :: ds, ss, _, e, ⟨v, w, e1, h1, h2⟩ => by
    cases d with
    | bl b =>
      unfold blsOf at e
      obtain ⟨ts, e2, rfl⟩ := Option.map_eq_some_iff.mp e
      subst e1
      cases (show v = V.bl b from h1)
      rw [bls_rep e2 h2]; rfl
    | _ => cases e
theorem one_of {d : D} {vs : List V} (r : Rd1s K T ex H [d] vs) : ∃ v, vs = [v] ∧ Rd1 K T ex H d v := by
  cases r with
  | cons h t => cases t; exact ⟨_, rfl, h⟩
theorem two_of {d e : D} {vs : List V} (r : Rd1s K T ex H [d, e] vs) : ∃ v w, vs = [v, w] ∧ Rd1 K T ex H d v ∧ Rd1 K T ex H e w := by
  cases r with
  | cons h t =>
    obtain ⟨w, rfl, h2⟩ := one_of t
    exact ⟨_, w, rfl, h, h2⟩
theorem ext_refl : Ext H H := fun _ _ z => z
end
theorem len_inv {ds : List D} {ev : EV} (e : lenD ds = some ev) : (∃ s, ds = [.str s] ∧ s.length ≤ big ∧ ev = vI s.length) ∨ ∃ d xs, ds = [d] ∧ seqD d = some xs ∧ ev = vI xs.length := by
  unfold lenD at e
  split at e
  · split at e
    · cases e; exact .inl ⟨_, rfl, by assumption, rfl⟩
    · cases e
  · obtain ⟨xs, e1, rfl⟩ := Option.map_eq_some_iff.mp e
    exact .inr ⟨_, xs, rfl, e1, rfl⟩
  · cases e
section
variable {X : Cx} {T : Tab}
theorem cr_len : CallR X (.builtin "len") (rB X.K T lenD) := cr_of call_len fun xs H Q ⟨ex, ds, ev, dm, r, e, k⟩ => by
  rcases len_inv e with ⟨s, rfl, hs, rfl⟩ | ⟨d, ys, rfl, hd, rfl⟩
  · obtain ⟨v, rfl, h⟩ := one_of r
    cases (show v = V.str (mkS s) from h)
    exact ⟨_, s.length, rfl, ⟨by rw [mkS_len]; exact Nat.le_trans hs big_line, by rw [mkS_len]⟩, k _ _ ext_refl rfl⟩
  · obtain ⟨v, rfl, h⟩ := one_of r
    obtain ⟨a, vs, rfl, h1, h2⟩ := seq_of hd h
    refine ⟨_, ys.length, rfl, ?_, k _ _ ext_refl rfl⟩
    rcases h1 with h1 | h1
    · exact .inl ⟨vs, h1, h2.length⟩
    · exact .inr ⟨vs, h1, h2.length⟩
theorem cr_list : CallR X (.type "list") (rB X.K T listD) := cr_of call_list_of fun xs H Q ⟨ex, ds, ev, dm, r, e, k⟩ => by
  unfold listD at e
  split at e
  · obtain ⟨v, rfl, h⟩ := one_of r
    split at e
    · cases e
      obtain ⟨a, vs, rfl, h1, h2⟩ := h
      exact ⟨a, vs, rfl, .inl (.of h1), fun l hl => k _ _ (ext_new hl) ⟨l, rfl, hl, rep_newL hl h2⟩⟩
    · cases e
      obtain ⟨a, vs, rfl, _, h1, h2⟩ := h
      exact ⟨a, vs, rfl, .inr (.of h1), fun l hl => k _ _ (ext_new hl) ⟨l, rfl, hl, rep_newL hl h2⟩⟩
    · cases e
  · cases e
theorem cr_tup : CallR X (.type "tuple") (rB X.K T tupD) := cr_of call_tuple_of fun xs H Q ⟨ex, ds, ev, dm, r, e, k⟩ => by
  unfold tupD at e
  split at e
  · obtain ⟨v, rfl, h⟩ := one_of r
    split at e
    · cases e
      obtain ⟨a, vs, rfl, h1, h2⟩ := h
      exact ⟨a, vs, rfl, .inl ⟨.of h1, fun l hl => k _ _ (ext_new hl) ⟨l, vs, rfl, fun z => dm l z hl, upd_same, h2.mono fun b o nb e => ⟨nb, ext_new hl b o e⟩⟩⟩⟩
    · cases e
      obtain ⟨a, vs, rfl, n, h1, h2⟩ := h
      exact ⟨a, vs, rfl, .inr ⟨.of h1, k _ _ ext_refl ⟨a, vs, rfl, n, h1, h2⟩⟩⟩
    · cases e
  · cases e
theorem cr_max2 (hc : X.calm = true) : CallR X (.builtin "max") (rB X.K T maxI) := cr_of (call_max2 hc) fun xs H Q ⟨ex, ds, ev, dm, r, e, k⟩ => by
  unfold maxI at e
  split at e
  · cases e
    obtain ⟨v, w, rfl, h1, h2⟩ := two_of r
    cases (show v = _ from h1); cases (show w = _ from h2)
    exact ⟨_, _, rfl, k _ _ ext_refl rfl⟩
  · cases e
theorem cr_min2 (hc : X.calm = true) : CallR X (.builtin "min") (rB X.K T minI) := cr_of (call_min2 hc) fun xs H Q ⟨ex, ds, ev, dm, r, e, k⟩ => by
  unfold minI at e
  split at e
  · cases e
    obtain ⟨v, w, rfl, h1, h2⟩ := two_of r
    cases (show v = _ from h1); cases (show w = _ from h2)
    exact ⟨_, _, rfl, k _ _ ext_refl rfl⟩
  · cases e
theorem cr_allQ (hc : X.calm = true) : CallR X (.builtin "all") (rB X.K T allD) := cr_of (cr_all hc) fun xs H Q ⟨ex, ds, ev, dm, r, e, k⟩ => by
  unfold allD at e
  split at e
  · obtain ⟨bs, e1, rfl⟩ := Option.map_eq_some_iff.mp e
    obtain ⟨v, rfl, a, vs, rfl, h1, h2⟩ := one_of r
    cases bls_rep e1 h2
    exact ⟨a, bs, rfl, .of h1, k _ _ ext_refl rfl⟩
  · cases e
end

/-! ### methods of texts -/
def isStrD : D → Bool
  | .str _ => true
  | _ => false
def splitS (a b : List Nat) : List (List Nat) := (Txt.split (mkS a) (mkS b)).map fun s => s.cps.toList
def joinS (a : List Nat) (ys : List (List Nat)) : List Nat := (Txt.join (mkS a) (ys.map mkS)).cps.toList
def splitD : List D → Option EV
  | [.str a, .str b] => if b ≠ [] ∧ a.length ≤ big then some (.o (.lst ((splitS a b).map D.str))) else none
  | _ => none
def joinD : List D → Option EV
  | [.str a, .lst xs] => (strsOf xs).bind fun ys => if (ys.map (·.length)).sum + ys.length * a.length ≤ big then some (.v (.str (joinS a ys))) else none
  | [.str a, .tup xs] => (strsOf xs).bind fun ys => if (ys.map (·.length)).sum + ys.length * a.length ≤ big then some (.v (.str (joinS a ys))) else none
  | _ => none
def countD : List D → Option EV
  | [.str a, .str b] => some (vI (Txt.count (mkS a) (mkS b)))
  | _ => none
theorem joinD_inv {ds : List D} {ev : EV} (e : joinD ds = some ev) : ∃ a d xs ys, ds = [.str a, d] ∧ seqD d = some xs ∧ strsOf xs = some ys ∧ (ys.map (·.length)).sum + ys.length * a.length ≤ big ∧ ev = .v (.str (joinS a ys)) := by
  unfold joinD at e
  split at e
  · obtain ⟨ys, e1, e⟩ := opt_bind e
    split at e
    · cases e; exact ⟨_, _, _, ys, rfl, rfl, e1, by assumption, rfl⟩
    · cases e
  · obtain ⟨ys, e1, e⟩ := opt_bind e
    split at e
    · cases e; exact ⟨_, _, _, ys, rfl, rfl, e1, by assumption, rfl⟩
    · cases e
  · cases e
section
variable {T : Tab} {X : Cx} {o e : Expr} {es : List Expr} {pos apos : Pos} {fs : M (List AV)} {fo : M AV}
theorem str_tyV {K : PySem.W.Frag} (d : D) (ex : Addr → Prop) (H : Hp) (v : V) (h : isStrD d = true) (r : Rd1 K T ex H d v) : tyV K "str" v H := by
  cases d <;> first | (cases h; done) | (cases (show v = _ from r); rfl)
theorem qe_split (ho : QO T X o fo) (ha : QAs T X [e] fs) (hbase : attributeBase o "split" X.env (eval o X.env) = eval o X.env := by rfl)
    (hfew : ((backTo pos (starEach [e] X.env)).all (fun x => !x.1) && (backToKw pos (keywordEach [] X.env)).all (fun x => x.1.isSome) && decide ([e].length + ([] : List Keyword).length + (if ([] : List Keyword).isEmpty then 0 else 1) < 30)) = true := by rfl)
    (hline : (apos.endLine == pos.line) = true := by rfl) (hs : starEach [e] X.env = (false, eval e X.env) :: starEach [] X.env := by rfl) :
    QE T X (.Call (.Attribute o "split" apos) [e] [] pos) (eBM isStrD splitD fo fs) :=
  qe_meB (Ty := "str") str_tyV PySem.F.plainAttrs_str PySem.F.slot_str_split PySem.F.type_str_split (fun pn xe => mt_split) (fun x vs H Q ⟨ex, ds, ev, dm, r, e, k⟩ => by
    unfold splitD at e
    split at e
    · split at e
      · rename_i a b hc
        cases e
        cases r with
        | cons h1 t =>
          obtain ⟨w, rfl, h2⟩ := one_of t
          refine ⟨mkS a, mkS b, h1, by rw [show w = V.str (mkS b) from h2], ?_, by rw [mkS_len, sizeLine_eq]; have := hc.2; unfold big at this; omega, fun p hp => ?_⟩
          · rw [mkS_len]
            exact beq_eq_false_iff_ne.mpr fun z => hc.1 (List.length_eq_zero_iff.mp z)
          · refine k _ _ (ext_new hp) ⟨p, rfl, hp, rep_newL hp ?_⟩
            have e : (Txt.split (mkS a) (mkS b)).map V.str = ((splitS a b).map mkS).map V.str := by
              unfold splitS
              rw [List.map_map, List.map_map]
              exact List.map_congr_left fun s _ => by show V.str s = V.str (mkS s.cps.toList); rw [mkS_tl]
            rw [e]
            exact strs_repL _
      · cases e
    · cases e) ho ha hbase hfew hline hs rfl
def rJoinV (K : PySem.W.Frag) : V → List V → Hp → VK → Prop := fun x xs H Q => ∃ a p, ∃ ys : List Str, x = .str a ∧ xs = [.ref p] ∧ (SqL K H p (ys.map V.str) ∨ SqT K H p (ys.map V.str)) ∧
    (ys.map (·.length)).sum + ys.length * a.length ≤ 16777216 ∧ Q (.str (Txt.join a ys)) H
theorem qe_join (ho : QO T X o fo) (ha : QAs T X [e] fs) (hbase : attributeBase o "join" X.env (eval o X.env) = eval o X.env := by rfl)
    (hfew : ((backTo pos (starEach [e] X.env)).all (fun x => !x.1) && (backToKw pos (keywordEach [] X.env)).all (fun x => x.1.isSome) && decide ([e].length + ([] : List Keyword).length + (if ([] : List Keyword).isEmpty then 0 else 1) < 30)) = true := by rfl)
    (hline : (apos.endLine == pos.line) = true := by rfl) (hs : starEach [e] X.env = (false, eval e X.env) :: starEach [] X.env := by rfl) :
    QE T X (.Call (.Attribute o "join" apos) [e] [] pos) (eBM isStrD joinD fo fs) :=
  qe_meB (Ty := "str") (r := rJoinV X.K) str_tyV PySem.F.plainAttrs_str PySem.F.slot_str_join PySem.F.type_str_join (fun pn xe => mt_join (X := X.tr pn xe)) (fun x vs H Q ⟨ex, ds, ev, dm, r, e, k⟩ => by
    obtain ⟨a, d, xs, ys, rfl, h1, h2, h3, rfl⟩ := joinD_inv e
    cases r with
    | cons r1 t =>
      obtain ⟨w, rfl, r2⟩ := one_of t
      obtain ⟨p, vs, rfl, h4, h5⟩ := seq_of h1 r2
      cases strs_rep h2 h5
      refine ⟨mkS a, p, ys.map mkS, r1, rfl, h4, ?_, k _ _ ext_refl ?_⟩
      · rw [List.map_map, List.length_map, mkS_len]
        have e : (ys.map (Str.length ∘ mkS)) = ys.map (·.length) := List.map_congr_left fun s _ => mkS_len s
        rw [e]
        unfold big at h3
        omega
      · show V.str _ = V.str (mkS (joinS a ys))
        unfold joinS
        rw [mkS_tl]) ho ha hbase hfew hline hs rfl
theorem qe_count (ho : QO T X o fo) (ha : QAs T X [e] fs) (hbase : attributeBase o "count" X.env (eval o X.env) = eval o X.env := by rfl)
    (hfew : ((backTo pos (starEach [e] X.env)).all (fun x => !x.1) && (backToKw pos (keywordEach [] X.env)).all (fun x => x.1.isSome) && decide ([e].length + ([] : List Keyword).length + (if ([] : List Keyword).isEmpty then 0 else 1) < 30)) = true := by rfl)
    (hline : (apos.endLine == pos.line) = true := by rfl) (hs : starEach [e] X.env = (false, eval e X.env) :: starEach [] X.env := by rfl) :
    QE T X (.Call (.Attribute o "count" apos) [e] [] pos) (eBM isStrD countD fo fs) :=
  qe_meB (Ty := "str") str_tyV PySem.F.plainAttrs_str PySem.F.slot_str_count PySem.F.type_str_count (fun pn xe => mt_count) (fun x vs H Q ⟨ex, ds, ev, dm, r, e, k⟩ => by
    unfold countD at e
    split at e
    · cases e
      cases r with
      | cons h1 t =>
        obtain ⟨w, rfl, h2⟩ := one_of t
        exact ⟨_, _, h1, by rw [show w = _ from h2], k _ _ ext_refl rfl⟩
    · cases e) ho ha hbase hfew hline hs rfl
end

/-! ### subscripts, slices -/
def ixD : D → D → Option EV := fun x y => match y with
  | .int i => match x with
    | .str s => if s.length ≤ big then (atI s i).map fun c => .v (.str [c]) else none
    | d => (seqD d).bind fun xs => (atI xs i).map .v
  | _ => none
theorem atI_rep {K : PySem.W.Frag} {T : Tab} {ex : Addr → Prop} {H : Hp} {xs : List D} {vs : List V} {i : Int} {d : D} (h : RepL K T ex H xs vs) (e : atI xs i = some d) : ∃ v, atI vs i = some v ∧ Rep K T ex H d v := by
  unfold atI at e ⊢
  obtain ⟨j, e1, e⟩ := opt_bind e
  obtain ⟨v, e2, r⟩ := h.get e
  refine ⟨v, ?_, r⟩
  rw [← h.length, e1]
  exact e2
theorem ix_inv {x y : D} {ev : EV} (e : ixD x y = some ev) : ∃ i, y = .int i ∧ ((∃ s c, x = .str s ∧ s.length ≤ big ∧ atI s i = some c ∧ ev = .v (.str [c])) ∨ ∃ xs d, seqD x = some xs ∧ atI xs i = some d ∧ ev = .v d) := by
  unfold ixD at e
  split at e
  · rename_i i
    refine ⟨i, rfl, ?_⟩
    split at e
    · split at e
      · obtain ⟨c, e1, rfl⟩ := Option.map_eq_some_iff.mp e
        exact .inl ⟨_, c, rfl, by assumption, e1, rfl⟩
      · cases e
    · obtain ⟨xs, e1, e⟩ := opt_bind e
      obtain ⟨d, e2, rfl⟩ := Option.map_eq_some_iff.mp e
      exact .inr ⟨xs, d, e1, e2, rfl⟩
  · cases e
section
variable {T : Tab} {X : Cx} {a b : Expr} {pos : Pos} {fa fb : M AV}
theorem qe_ix (ha : QO T X a fa) (hb : QO T X b fb) (hs : PlainIx b := by intro _ _; rfl) : QE T X (.Subscript a b pos) (eOp ixD fa fb) := fun pn xe W tk hp =>
  impE (pe_ix (X := X.tr pn xe) ix_seq (ha pn xe W tk hp) (hb pn xe W tk hp) hs) fun σ H Q q => by
    obtain ⟨ex, env, q⟩ := tr_op q
    refine ⟨ex, env, q.mono fun x H1 ⟨ex2, env2, q2⟩ => ⟨ex2, env2, q2.mono fun y H2 ⟨exs, d1, d2, ev, dm, r1, r2, e, k⟩ => ?_⟩⟩
    obtain ⟨i, rfl, h⟩ := ix_inv e
    rcases h with ⟨s, c, rfl, hs, hc, rfl⟩ | ⟨xs, d, hx, hd, rfl⟩
    · exact .inr (.inr ⟨mkS s, i, c, r1, r2, by rw [mkS_len]; exact Nat.le_trans hs big_line, by rw [mkS_cps]; exact hc, k _ _ ext_refl rfl⟩)
    · obtain ⟨p, vs, rfl, h1, h2⟩ := seq_of hx r1
      obtain ⟨v, hv, rv⟩ := atI_rep h2 hd
      rcases h1 with h1 | h1
      · exact .inl ⟨p, vs, i, v, rfl, r2, h1, hv, k _ _ ext_refl rv⟩
      · exact .inr (.inl ⟨p, vs, i, v, rfl, r2, h1, hv, k _ _ ext_refl rv⟩)
end
end Dt
end
section
set_option maxRecDepth 100000
set_option maxHeartbeats 4000000
/-! QM: slices, membership, isinstance, repr, sorted, dict of pairs. -/
namespace Dt
open PySem PySem.Spec L2
open PyProof.Rows hiding St

/-! ### slices -/
def relP : Rl (Option Int) (Option Int) := fun _ _ _ _ _ b c => b = c
theorem rmP : RM relP := fun _ _ _ _ _ _ _ _ _ r => r
def QPO (T : Tab) (X : Cx) (e : Option Expr) (f : M (Option Int)) : Prop := ∀ pn xe W, Takes (X.tr pn xe) W → PassesOwn (model X.prog X.w) X.A X.env xe → PO (X.tr pn xe) e (tr X.K T relP f W)
def pNo : M (Option Int) := M.ret none
def pYes (f : M AV) : M (Option Int) := M.bind f fun a => match a with
  | .v (.int i) => M.ret (some i)
  | _ => M.stuck
def cutD {α : Type} (xs : List α) (lo hi : Option Int) : List α := (xs.drop (HT.sIx xs.length 0 lo)).take (HT.sIx xs.length xs.length hi - HT.sIx xs.length 0 lo)
def sliceD (d : D) (lo hi : Option Int) : Option EV := match d with
  | .str s => if s.length ≤ big then some (.v (.str (cutD s lo hi))) else none
  | .lst xs => some (.o (.lst (cutD xs lo hi)))
  | .tup xs => some (.v (.tup (cutD xs lo hi)))
  | _ => none
def eSlice (fa : M AV) (fl fh : M (Option Int)) : M EV := M.bind fa fun a => M.bind fl fun lo => M.bind fh fun hi => fun env => (deref env a).bind fun d => lift (sliceD d lo hi) env
def rSlQ (K : PySem.W.Frag) : V → Option Int → Option Int → Hp → VK → Prop := fun x lo hi H Q => rSlL K x lo hi H Q ∨ rSlA K x lo hi H Q ∨ rSlS x lo hi H Q
theorem sl_all {X : Cx} : SlR X (rSlQ X.K) := SlR.or sl_list (SlR.or sl_tupA sl_str)
section
variable {T : Tab} {X : Cx} {e : Expr} {lo hi : Option Expr} {p2 pos : Pos} {fa : M AV} {f : M AV} {fl fh : M (Option Int)}
theorem qpo_no : QPO T X none pNo := fun pn xe W tk hp => ⟨fun pins s σ H Q I q => po_none.run pins s σ H Q I (tr_ret q fun _ _ => rfl)⟩
theorem qpo_yes (h : QO T X e f) : QPO T X (some e) (pYes f) := fun pn xe W tk hp => ⟨fun pins s σ H Q I q => (po_some (h pn xe W tk hp)).run pins s σ H Q I (by
  obtain ⟨ex, env, q⟩ := q
  refine ⟨ex, env, (trx_bind (relA X.K T) rmP q).mono fun v H1 ⟨a, env1, s, ra, q⟩ => ?_⟩
  have stuck : ∀ {f : M (Option Int)}, f = M.stuck → trx X.K T relP ex f env1 W σ H1 Q → False := fun e ⟨_, _, q, _⟩ => by rw [e] at q; cases q
  cases a with
  | s i => exact (stuck rfl q).elim
  | v d =>
    cases d with
    | int i =>
      obtain ⟨g, k⟩ := trx_ret q
      exact ⟨i, ra, k _ H1 (Step.refl g) rfl⟩
    | _ => exact (stuck rfl q).elim)⟩
theorem cut_map {K : PySem.W.Frag} {ex : Addr → Prop} {H : Hp} {ds : List D} {vs : List V} (r : RepL K T ex H ds vs) : RepL K T ex H (cutD ds lo' hi') (cutV vs lo' hi') := by
  unfold cutD cutV
  rw [← r.length]
  exact (r.drop _).take _
theorem qe_slice (ha : QO T X e fa) (hl : QPO T X lo fl) (hh : QPO T X hi fh) : QE T X (.Subscript e (.Slice lo hi none p2) pos) (eSlice fa fl fh) := fun pn xe W tk hp =>
  impE (pe_slice (X := X.tr pn xe) (sl_all (X := X.tr pn xe)) (ha pn xe W tk hp) (hl pn xe W tk hp) (hh pn xe W tk hp)) fun σ H Q ⟨ex, env, q⟩ => by
    refine ⟨ex, env, (trx_bind (relA X.K T) rmE q).mono fun v H1 ⟨a, env1, s, ra, q⟩ => ⟨ex, env1, (trx_bind relP rmE q).mono fun l H2 ⟨lo', env2, s2, e2, q⟩ => ⟨ex, env2, (trx_bind relP rmE q).mono fun h H3 ⟨hi', env3, s3, e3, q⟩ => ?_⟩⟩⟩
    have e2 : l = lo' := e2
    have e3 : h = hi' := e3
    subst e2; subst e3
    obtain ⟨g, r, er, o⟩ := q
    obtain ⟨d, e4, er⟩ := opt_bind er
    cases w : sliceD d l h with
    | none => rw [w] at er; cases er
    | some ev =>
      rw [w] at er
      cases er
      have rd := deref_ok g (RepA.step (RepA.step ra s2) s3) e4
      have fin : ∀ v H', Ext H3 H' → RepV X.K T (exO ex σ env3) H3 H' v ev → Q v H' := fun v H' k r => o v H' (Step.ext g k) (r.e g k)
      cases d with
      | str x =>
        unfold sliceD at w
        dsimp only at w
        split at w
        · rename_i hx
          cases w
          refine .inr (.inr ⟨mkS x, rd, by rw [mkS_len]; exact Nat.le_trans hx big_line, fin _ _ ext_refl ?_⟩)
          show V.str _ = V.str _
          unfold cutS cutD
          rw [mkS_cps, mkS_len]
          rfl
        · cases w
      | lst xs =>
        cases w
        obtain ⟨p, vs, rfl, h1, h2⟩ := rd
        exact .inl ⟨p, vs, rfl, .of h1, fun n hn => fin _ _ (ext_new hn) ⟨n, rfl, hn, rep_newL hn (cut_map h2)⟩⟩
      | tup xs =>
        cases w
        obtain ⟨p, vs, rfl, n1, h1, h2⟩ := rd
        refine .inr (.inl ⟨p, vs, rfl, .of h1, fun z => fin _ _ ext_refl ⟨p, vs, rfl, n1, h1, ?_⟩, fun _ n hn => fin _ _ (ext_new hn) ⟨n, _, rfl, fun z => g.dm n z hn, upd_same, (cut_map h2).mono fun b o nb e => ⟨nb, ext_new hn b o e⟩⟩⟩)
        unfold cutD
        rw [← h2.length] at z
        rw [z.1, z.2]
        simpa using h2
      | _ => cases w
end

/-! ### membership -/
def inC (n : Bool) : D → D → Option EV := fun x y => match x, y with
  | .str [c], .str z => some (vB (n ^^ decide (c ∈ z)))
  | _, _ => none
def flatD : D → Bool
  | .non => true
  | .bl _ => true
  | .int _ => true
  | .str _ => true
  | _ => false
def flEq : D → D → Bool
  | .non, .non => true
  | .bl a, .bl b => a == b
  | .bl a, .int b => (if a then 1 else 0) == b
  | .int a, .bl b => a == (if b then 1 else 0)
  | .int a, .int b => a == b
  | .str a, .str b => a == b
  | _, _ => false
def inL (n : Bool) : D → D → Option EV := fun x y => (seqD y).bind fun xs => if flatD x = true ∧ xs.all flatD = true then some (vB (n ^^ xs.any fun y => flEq y x)) else none
def inP (n : Bool) : D → D → Option EV := fun x y => match y with
  | .lst ys => match toP x, toPL ys with
    | some p, some qs => if SeqAt.shaped p = true ∧ SeqAt.shaped (.list qs) = true then some (vB (n ^^ qs.any fun z => PyData.eqv z p)) else none
    | _, _ => none
  | _ => none
section
variable {K : PySem.W.Frag} {T : Tab} {ex : Addr → Prop} {H : Hp}
theorem flat_rep {d : D} {v : V} (h : flatD d = true) (r : Rep K T ex H d v) : flatV v = true := by
  cases d <;> first | (cases h; done) | (cases (show v = _ from r); rfl)
theorem flat_eq {d e : D} {v w : V} (h : flatD d = true) (h' : flatD e = true) (r : Rep K T ex H d v) (r' : Rep K T ex H e w) : eqV v w = flEq d e := by
  cases d <;> first | (cases h; done) | (cases (show v = _ from r); cases e <;> first | (cases h'; done) | (cases (show w = _ from r'); first | rfl | (show (mkS _ == mkS _) = (_ == _); rw [Bool.eq_iff_iff]; simp [mkS_inj])))
theorem flat_all : ∀ {ds : List D} {vs : List V}, ds.all flatD = true → RepL K T ex H ds vs → vs.all flatV = true
  | [], _, _, r => by cases (show _ = [] from r); rfl
  | d :: ds, _, h, ⟨v, w, e, h1, h2⟩ => by
    subst e
    rw [List.all_cons, Bool.and_eq_true] at h ⊢
    exact ⟨flat_rep h.1 h1, flat_all h.2 h2⟩
theorem flat_any {x : D} {v : V} (hx : flatD x = true) (rx : Rep K T ex H x v) : ∀ {ds : List D} {vs : List V}, ds.all flatD = true → RepL K T ex H ds vs → inV v vs = ds.any fun y => flEq y x
  | [], _, _, r => by cases (show _ = [] from r); rfl
  | d :: ds, _, h, ⟨w, ws, e, h1, h2⟩ => by
    subst e
    rw [List.all_cons, Bool.and_eq_true] at h
    have ih := flat_any hx rx h.2 h2
    unfold inV at ih ⊢
    rw [List.any_cons, List.any_cons, flat_eq h.1 hx h1 rx, ih]
end
section
variable {X : Cx} {T : Tab}
theorem flat_rd {K : PySem.W.Frag} {ex : Addr → Prop} {H : Hp} {d : D} {v : V} (h : flatD d = true) (r : Rd1 K T ex H d v) : Rep K T ex H d v := by
  cases d <;> first | (cases h; done) | exact r
theorem op_inC : OpR X (compareOp .In) (rQ X.K T (inC false)) := op_of op_in_sign fun x y H Q ⟨ex, d1, d2, ev, dm, r1, r2, e, k⟩ => by
  unfold inC at e
  split at e
  · cases e
    refine ⟨_, _, r1, r2, k _ H ext_refl ?_⟩
    show V.bl _ = V.bl _
    rw [mkS_cps, Bool.false_xor]
  · cases e
theorem op_notInC : OpR X (compareOp .NotIn) (rQ X.K T (inC true)) := op_of op_notIn_sign fun x y H Q ⟨ex, d1, d2, ev, dm, r1, r2, e, k⟩ => by
  unfold inC at e
  split at e
  · cases e
    refine ⟨_, _, r1, r2, k _ H ext_refl ?_⟩
    show V.bl _ = V.bl _
    rw [mkS_cps, Bool.true_xor]
  · cases e
theorem inL_ok {K : PySem.W.Frag} {n : Bool} {x y : V} {H : Hp} {Q : VK} (h : rQ K T (inL n) x y H Q) : rIn K n x y H Q := by
  obtain ⟨ex, d1, d2, ev, dm, r1, r2, e, k⟩ := h
  unfold inL at e
  obtain ⟨xs, e1, e⟩ := opt_bind e
  split at e
  · rename_i h
    cases e
    obtain ⟨a, vs, rfl, h1, h2⟩ := seq_of e1 r2
    have rx := flat_rd h.1 r1
    refine ⟨a, vs, rfl, h1, flat_rep h.1 rx, flat_all h.2 h2, k _ H ext_refl ?_⟩
    show V.bl _ = V.bl _
    rw [flat_any h.1 rx h.2 h2]
    cases n <;> simp
  · cases e
theorem op_inL : OpR X (compareOp .In) (rQ X.K T (inL false)) := op_of op_in_seq fun x y H Q h => inL_ok h
theorem op_notInL : OpR X (compareOp .NotIn) (rQ X.K T (inL true)) := op_of op_notIn_seq fun x y H Q h => inL_ok h
theorem op_inQ : OpR X (compareOp .In) (rQ X.K T (orD (inC false) (inL false))) := op_or op_inC op_inL
theorem op_notInQ : OpR X (compareOp .NotIn) (rQ X.K T (orD (inC true) (inL true))) := op_or op_notInC op_notInL
end
def inD := orD (inC false) (inL false)
def ninD := orD (inC true) (inL true)

/-! ### isinstance -/
/-- the kinds of built-in values, by a number -/
def kindN : D → Option Nat
  | .non => some 0
  | .bl _ => some 1
  | .int _ => some 2
  | .str _ => some 3
  | .tup _ => some 4
  | .lst _ => some 5
  | .dic _ _ => some 6
  | _ => none
def kindT : Nat → String
  | 0 => "NoneType"
  | 1 => "bool"
  | 2 => "int"
  | 3 => "str"
  | 4 => "tuple"
  | 5 => "list"
  | _ => "dict"
/-- the answers of one class: of the built-in kinds, of own classes -/
structure IsT where
  k : Nat → Bool
  o : Nat → Option Bool
def isiB (I : IsT) (d : D) : Option Bool := match d with
  | .obj t _ => I.o t
  | d => (kindN d).map I.k
/-- the class c is the value u -/
structure IsOK (K : PySem.W.Frag) (T : Tab) (I : IsT) (u : Value) : Prop where
  k : ∀ n, n < 7 → PySem.W.kitOne K (.type (kindT n)) u = some (I.k n)
  o : ∀ t b, I.o t = some b → PySem.W.kitOne K (.ref (T.cls t)) u = some b ∧ Cls K (T.cls t) ∧ PySem.W.findIn K (.ref (T.cls t)) "__class__" = some (some (.builtin "object.__class__")) ∧
    PySem.W.specialIn K (.builtin "object.__class__") "__get__" = some (some (.builtin "getset_descriptor.__get__")) ∧ PySem.W.takesIn K (.builtin "object.__class__") = some true ∧ PySem.W.mroIn K (T.cls t) (.type "object") = some true
/-- isinstance(e, C), C a global name -/
def eIsi (I : IsT) (fa : M AV) : M EV := M.bind fa fun a => fun env => (objIs env a).bind fun d => lift ((isiB I d).map vB) env
where objIs (env : Sl) (a : AV) : Option D := match objOf env a with
  | some (t, ds) => some (.obj t ds)
  | none => deref env a
section
variable {K : PySem.W.Frag} {T : Tab} {ex : Addr → Prop} {H : Hp}
theorem tyx_of {I : IsT} {u : Value} (hI : IsOK K T I u) {d : D} {v : V} {b : Bool} (h : isiB I d = some b) (hk : kindN d ≠ none) (r : Rd1 K T ex H d v) : ∃ t, TyX K H v t ∧ PySem.W.kitOne K t u = some b := by
  have key : ∀ n, kindN d = some n → n < 7 → TyX K H v (.type (kindT n)) → ∃ t, TyX K H v t ∧ PySem.W.kitOne K t u = some b := fun n e l ty => by
    refine ⟨_, ty, ?_⟩
    have : isiB I d = some (I.k n) := by
      unfold isiB
      split
      · cases e
      · rw [e]; rfl
    rw [this] at h
    cases h
    exact hI.k n l
  cases d with
  | non => cases (show v = _ from r); exact key 0 rfl (by decide) (.base .non)
  | bl x => cases (show v = _ from r); exact key 1 rfl (by decide) (.base (.bl _))
  | int x => cases (show v = _ from r); exact key 2 rfl (by decide) (.base (.int _))
  | str x => cases (show v = _ from r); exact key 3 rfl (by decide) (.base (.str _))
  | tup x => obtain ⟨a, vs, rfl, _, h1, _⟩ := r; exact key 4 rfl (by decide) (.base (.tup h1))
  | lst x => obtain ⟨a, vs, rfl, h1, _⟩ := r; exact key 5 rfl (by decide) (.base (.lst h1))
  | dic x y => obtain ⟨a, vs, rfl, h1, _⟩ := r; exact key 6 rfl (by decide) (.base (.dK h1))
  | _ => exact absurd rfl hk
end
section
variable {T : Tab} {X : Cx} {a : Expr} {c : Str} {p p2 pos : Pos} {fa : M AV} {I : IsT} {u : Value} {cv : V}
theorem trx_isi {ex : Addr → Prop} {σ : St} {H : Hp} {env : Sl} {W : WX} {Q : VK} {av : AV} {v : V} (hI : IsOK X.K T I u) (h : trx X.K T (relE X.K T) ex (fun env => (eIsi.objIs env av).bind fun d => lift ((isiB I d).map vB) env) env W σ H Q) (ra : RepA X.K T ex σ env H v av) :
    ∃ t b, TyX X.K H v t ∧ PySem.W.kitOne X.K t u = some b ∧ Q (.bl b) H := by
  obtain ⟨g, r, er, o⟩ := h
  obtain ⟨d, e1, er⟩ := opt_bind er
  cases w : isiB I d with
  | none => rw [w] at er; cases er
  | some b =>
    rw [w] at er
    cases er
    have fin : Q (.bl b) H := o _ H (Step.refl g) rfl
    unfold eIsi.objIs at e1
    split at e1
    · rename_i t ds hob
      cases e1
      obtain ⟨x, dx, vs, rfl, hx, _, _⟩ := objOf_ok g ra hob
      obtain ⟨h1, h2, h3, h4, h5, h6⟩ := hI.o t b w
      exact ⟨_, b, .base (.ins hx h2 h3 h4 h5 h6), h1, fin⟩
    · rename_i hob
      have rd := deref_ok g ra e1
      have hk : kindN d ≠ none := fun z => by
        cases d with
        | obj t ds =>
          cases av with
          | v d' => cases e1; cases hob
          | s i =>
            have e1 : rdS env[i]? = some (.obj t ds) := e1
            have hob : objS env[i]? = none := hob
            cases q : env[i]? with
            | none => rw [q] at e1; cases e1
            | some sl =>
              rw [q] at e1 hob
              cases sl with
              | emp => cases e1
              | val d => cases e1; cases hob
              | own c => cases c <;> cases e1
        | raw v => cases w
        | scr v => cases w
        | clo f us ds => cases w
        | _ => cases z
      obtain ⟨t, h1, h2⟩ := tyx_of hI w hk rd
      exact ⟨t, b, h1, h2, fin⟩
theorem pe_isi {a b : Expr} {ta tb : TE} (hg : Gl X "isinstance") (hm : X.mg "isinstance" = none) (ha : PE X a ta) (hb : PE X b tb) (hs : starEach [a, b] X.env = [(false, eval a X.env), (false, eval b X.env)] := by rfl) (hs2 : starEach [b] X.env = [(false, eval b X.env)] := by rfl) :
    PE X (.Call (.Name "isinstance" p) [a, b] [] pos) (tCB (rIsi X.K) (tCons ta (tCons tb tNil))) :=
  pe_callB call_isi hg hm boot_isinstance (pa_cons ha (pa_cons hb pa_nil hs2) (by rw [hs, hs2])) (he := by rw [hs, hs2]) (hpl := by rw [hs2]; rfl)
theorem qe_isi (hg : Gl X "isinstance") (hm : X.mg "isinstance" = none) (hI : IsOK X.K T I u) (hc : ClsV cv u) (he : ∀ pn xe, PE (X.tr pn xe) (.Name c p2) (tC cv)) (ha : QO T X a fa)
    (hs : starEach [a, .Name c p2] X.env = [(false, eval a X.env), (false, eval (.Name c p2) X.env)] := by rfl) (hs2 : starEach [.Name c p2] X.env = [(false, eval (.Name c p2) X.env)] := by rfl) : QE T X (.Call (.Name "isinstance" p) [a, .Name c p2] [] pos) (eIsi I fa) := fun pn xe W tk hp =>
  impE (pe_isi (X := X.tr pn xe) hg hm (ha pn xe W tk hp) (he pn xe) hs hs2) fun σ H Q ⟨ex, env, q⟩ => ⟨ex, env, (trx_bind (relA X.K T) rmE q).mono fun v H1 ⟨av, env1, s, ra, q⟩ => by
    obtain ⟨t, b, h1, h2, h3⟩ := trx_isi hI q ra
    exact ⟨v, cv, t, u, b, rfl, hc, h1, h2, h3⟩⟩
/-- a built-in class's name -/
theorem isi_bi {Ty : String} (hg : Gl X c) (hm : X.mg c = none) (hv : bootBuiltins c = some (.type Ty)) (hn : c ≠ "__name__" := by decide) (hdb : (c == ("__debug__" : Str)) = false := by decide) : ∀ pn xe, PE (X.tr pn xe) (.Name c p2) (tC (.ty Ty)) := fun pn xe => pe_bltn (X := X.tr pn xe) hg hm hv rfl hn hdb
theorem isi_own {C : Addr} (hg : Gl X c) (hm : X.mg c = some (.ref C)) (hdb : (c == ("__debug__" : Str)) = false := by decide) : ∀ pn xe, PE (X.tr pn xe) (.Name c p2) (tC (.ref C)) := fun pn xe => pe_glob (X := X.tr pn xe) hg hm rfl hdb
end

/-! ### repr -/
def shownS (p : PyData) : List Nat := p.shown.cps.toList
end Dt
end
section
set_option maxRecDepth 100000
set_option maxHeartbeats 4000000
/-! QN: sorted, dicts, sets, list(range), texts and lists repeated. -/
namespace Dt
open PySem PySem.Spec L2
open PyProof.Rows hiding St
open PySem.W (EachIs AllAlike Sortable dataLe SortsAt dataKind sortVals alike sortingHeap_old sortVals_data sortVals_length each_map list_sort_vals)

/-! ### sorted -/
def isTup1 : PyData → Bool
  | .tuple (_ :: _) => true
  | _ => false
def noTupN : PyData → Bool
  | .tuple _ => false
  | .none => false
  | _ => true
def okSort (ps : List PyData) : Bool := (ps.all fun p => ps.all fun q => alike p q) && (ps.all isTup1 || ps.all noTupN) && ps.all fun p => decide (p.depth ≤ 60)
def sortL (xs : List D) (ps : List PyData) : List D := ((xs.zip ps).mergeSort (dataLe false fun b => b.2)).map (·.1)
def keyOf : Key → D
  | .inl i => .int i
  | .inr s => .str s.cps.toList
def sortItems : D → Option (List D)
  | .lst xs => some xs
  | .tup xs => some xs
  | .dic ks _ => some (ks.map keyOf)
  | _ => none
def sortD : List D → Option EV
  | [d] => (sortItems d).bind fun xs => (toPL xs).bind fun ps => if okSort ps = true ∧ xs.length ≤ big then some (.o (.lst (sortL xs ps))) else none
  | _ => none
section
variable {K : PySem.W.Frag} {T : Tab} {ex : Addr → Prop} {H : Hp}
theorem okSort_all {ps : List PyData} (h : okSort ps = true) : AllAlike ps ∧ Sortable ps ∧ ∀ p ∈ ps, p.depth ≤ 60 := by
  unfold okSort at h
  rw [Bool.and_eq_true, Bool.and_eq_true, Bool.or_eq_true] at h
  obtain ⟨⟨h1, h2⟩, h3⟩ := h
  refine ⟨fun d hd e he => List.all_eq_true.mp (List.all_eq_true.mp h1 d hd) e he, ?_, fun p hp => of_decide_eq_true (List.all_eq_true.mp h3 p hp)⟩
  rcases h2 with h2 | h2
  · refine .inl fun d hd => ?_
    have := List.all_eq_true.mp h2 d hd
    unfold isTup1 at this
    split at this
    · exact ⟨_, _, rfl⟩
    · cases this
  · refine .inr fun d hd => ?_
    have := List.all_eq_true.mp h2 d hd
    refine ⟨fun z => ?_, fun xs z => ?_⟩ <;> (rw [z] at this; cases this)
theorem toPL_len : ∀ {ds : List D} {ps : List PyData}, toPL ds = some ps → ds.length = ps.length
  | [], _, e => by unfold toPL at e; cases e; rfl
  | d :: ds, _, e => by
    unfold toPL at e
    obtain ⟨p, _, e⟩ := opt_bind e
    obtain ⟨qs, e2, rfl⟩ := Option.map_eq_some_iff.mp e
    simp [toPL_len e2]
/-- the triples of a value, its data, its plain data -/
abbrev Tri := V × D × PyData
def tri : List V → List D → List PyData → List Tri
  | v :: vs, d :: ds, p :: ps => (v, d, p) :: tri vs ds ps
  | _, _, _ => []
theorem tri_ok : ∀ {vs : List V} {ds : List D} {ps : List PyData}, RepL K T ex H ds vs → toPL ds = some ps → (tri vs ds ps).map (·.1) = vs ∧ (tri vs ds ps).map (·.2) = ds.zip ps ∧ (tri vs ds ps).map (·.2.2) = ps ∧ ∀ b ∈ tri vs ds ps, Rep K T ex H b.2.1 b.1 ∧ toP b.2.1 = some b.2.2
  | _, [], ps, r, e => by
    cases (show _ = [] from r)
    unfold toPL at e; cases e
    exact ⟨rfl, rfl, rfl, fun _ h => by cases h⟩
  | _, d :: ds, ps, ⟨v, w, e1, h1, h2⟩, e => by
    subst e1
    unfold toPL at e
    obtain ⟨p, e3, e⟩ := opt_bind e
    obtain ⟨qs, e2, rfl⟩ := Option.map_eq_some_iff.mp e
    obtain ⟨a, b, c, d⟩ := tri_ok h2 e2
    refine ⟨by simp [tri, a], by simp [tri, b], by simp [tri, c], fun x hx => ?_⟩
    rcases List.mem_cons.mp hx with rfl | hx
    · exact ⟨h1, e3⟩
    · exact d x hx
theorem repL_map : ∀ (bs : List Tri), (∀ b ∈ bs, Rep K T ex H b.2.1 b.1) → RepL K T ex H (bs.map (·.2.1)) (bs.map (·.1))
  | [], _ => rfl
  | b :: bs, h => ⟨_, _, rfl, h b (List.mem_cons_self ..), repL_map bs fun c hc => h c (List.mem_cons_of_mem _ hc)⟩
theorem each_vals : ∀ {bs : List Tri} {us : List Value}, Vals (bs.map (·.1)) us → EachIs (fun (u : Value) (b : Tri) => RelV b.1 u) us bs
  | [], _, r => by cases r; exact .nil
  | b :: bs, _, r => by
    cases r with
    | cons h t => exact .cons h (each_vals t)
theorem vals_each : ∀ {bs : List Tri} {us : List Value}, EachIs (fun (u : Value) (b : Tri) => RelV b.1 u) us bs → Vals (bs.map (·.1)) us
  | [], _, r => by cases r; exact .nil
  | b :: bs, _, r => by
    cases r with
    | cons h t => exact .cons h (vals_each t)
end
section
variable {X : Cx} {T : Tab} {pins : List (Addr × Obj)} {σ : St} {H : Hp} {s : Shared} {Q : VK} {ex : Addr → Prop}
theorem each_reads (I : Inv X pins σ H s) : ∀ {bs : List Tri} {us : List Value}, (∀ b ∈ bs, Rep X.K T ex H b.2.1 b.1 ∧ toP b.2.1 = some b.2.2) → EachIs (fun (u : Value) (b : Tri) => RelV b.1 u) us bs → EachIs (fun u b => ∃ as, Reads s.heap u b.2.2 as) us bs
  | [], _, _, r => by cases r; exact .nil
  | b :: bs, _, h, r => by
    cases r with
    | cons h1 t =>
      obtain ⟨h2, h3⟩ := h b (List.mem_cons_self ..)
      exact .cons (Dp.reads I _ _ _ (dp_both.1 _ _ _ h3 h2) h1) (each_reads I (fun c hc => h c (List.mem_cons_of_mem _ hc)) t)
/-- sorted(x), however x is collected -/
theorem sorted_run {u : Value} {ds : List D} {ps : List PyData} {vs : List V} (hu : X.A.units + 64 < cLine) (I : Inv X pins σ H s) (dm : ∀ a, ex a → H a ≠ none) (rl : RepL X.K T ex H ds vs) (hp : toPL ds = some ps) (hok : okSort ps = true) (hz : ds.length ≤ big)
    (hcol : ∀ (R : List Value → Shared → Prop), (∀ h' tk acc, (∀ b o, s.heap.get? b = some o → h'.get? b = some o) → Vals vs acc → R acc { s with heap := h', toks := tk }) → wpAny (model X.prog X.w) X.A.in1 (collect u) R X.xe s)
    (hQ : ∀ v H', Ext H H' → RepV X.K T ex H H' v (.o (.lst (sortL ds ps))) → Q v H') : wpAny (model X.prog X.w) X.A (call (.builtin "sorted") [u]) (EP X pins σ Q) X.xe s := by
  obtain ⟨hal, hsb, hdp⟩ := okSort_all hok
  refine Calls.call_function_entry PyProof.Rows.kind_sorted PyProof.Rows.plain_sorted PyProof.Rows.entry_sorted (PyProof.Rows.args_sorted1 _) ?_
  unfold Builtin.«sorted»
  refine wpAny_bind (m := checkCount "sorted" 1 1 _) (wpAny_pure ?_)
  refine wpAny_bind (hcol _ fun h' tk acc hk hacc => ?_)
  have I1 : Inv X pins σ H { s with heap := h', toks := tk } := I.kept hk
  obtain ⟨t1, t2, t3, t4⟩ := tri_ok rl hp
  have hlen : acc.length = ds.length := by rw [← hacc.length, rl.length]
  have ev : EachIs (fun (u : Value) (b : Tri) => RelV b.1 u) acc (tri vs ds ps) := each_vals (by rw [t1]; exact hacc)
  have er : EachIs (fun u b => ∃ as, Reads h' u b.2.2 as) acc (tri vs ds ps) := each_reads (s := { s with heap := h', toks := tk }) I1 t4 ev
  refine wpAny_bind (wpAny_newList ?_ (by rw [hlen]; exact Nat.le_trans hz big_line))
  have hoL : (h'.push (seqObj "list" acc.toArray 0)).get? h'.objs.size = some (seqObj "list" acc.toArray 0) := Heap.get?_push_size _ rfl
  show wpAny _ _ _ _ _ { s with heap := h'.push (seqObj "list" acc.toArray 0), toks := tk }
  have er' : EachIs (fun u b => ∃ as, Reads (PySem.W.sortingHeap (h'.push (seqObj "list" acc.toArray 0)) h'.objs.size acc) u b.2.2 as) acc (tri vs ds ps) := er.mono fun _ _ ⟨as, r⟩ => ⟨as, PyProof.Rows.Reads.keeps (fun b o e => sortingHeap_old (Nat.ne_of_lt (Heap.lt_size e)) (Heap.get?_push_of_some _ e)) r⟩
  have hmp : (tri vs ds ps).map (fun b => b.2.2) = ps := t3
  have hlt : (tri vs ds ps).length = ds.length := by rw [← List.length_map (f := fun b : Tri => b.2.2), hmp, toPL_len hp]
  refine wpAny_bind (wpAny_holding (wpAny_call_entry PyProof.Rows.slot_list_sort ⟨_, hoL, rfl⟩ PyProof.Rows.entry_list_sort
    (list_sort_vals (κ := dataKind (PySem.W.sortingHeap (h'.push (seqObj "list" acc.toArray 0)) h'.objs.size acc) ((tri vs ds ps).map fun b => b.2.2)) (s := { s with heap := h'.push (seqObj "list" acc.toArray 0), toks := tk }) hoL
      (SortsAt.data (s := { s with heap := PySem.W.sortingHeap (h'.push (seqObj "list" acc.toArray 0)) h'.objs.size acc, toks := tk }) (each_map (R := fun v d => ∃ as, Reads (PySem.W.sortingHeap (h'.push (seqObj "list" acc.toArray 0)) h'.objs.size acc) v d as) (fun b : Tri => b.2.2) er') (by rw [hmp]; exact hal) (by rw [hmp]; exact hsb)
        (fun d hd => by rw [hmp] at hd; have := hdp d hd; show X.A.units + 1 + 1 + d.depth < cLine; omega)) (by rw [hlen]; exact Nat.le_trans hz big_line) ⟨.none, rfl, ?_⟩)
    (PyProof.Rows.args_list_sort _)))
  have hsd := sortVals_data (R := fun (u : Value) (b : Tri) => RelV b.1 u) (enc := fun b : Tri => b.2.2) false ev er' (by rw [hmp]; exact hal)
  have vo := vals_each hsd
  obtain ⟨e', he'⟩ := PyProof.Rows.sortedHeap_at (vs := acc) (out := (sortVals (dataKind (PySem.W.sortingHeap (h'.push (seqObj "list" acc.toArray 0)) h'.objs.size acc) ((tri vs ds ps).map fun b => b.2.2)) false acc acc).toArray) hoL
  have hsl : sortL ds ps = ((tri vs ds ps).mergeSort (dataLe false fun b => b.2.2)).map (·.2.1) := by
    unfold sortL
    rw [← t2, ← List.map_mergeSort (r := dataLe false fun b : Tri => b.2.2) (s := dataLe false fun b : D × PyData => b.2) (fun a _ b _ => rfl), List.map_map]
    rfl
  have hn : H h'.objs.size = none := I1.hok.fresh (Nat.le_refl _)
  have hpm := List.mergeSort_perm (tri vs ds ps) (dataLe false fun b : Tri => b.2.2)
  refine wpAny_pure ⟨_, rfl, .ref h'.objs.size, upd H h'.objs.size (.lst (((tri vs ds ps).mergeSort (dataLe false fun b => b.2.2)).map (·.1))), I1.laid (t' := tk) (fun b u e => ?_) (Nat.le_refl _)
    (show ObjOk X.prog X.w _ _ _ (.lst _) from ⟨?_, _, e', vo, he'⟩), rfl, hQ _ _ (ext_new hn) ⟨_, rfl, hn, rep_newL hn ?_⟩⟩
  · have hb : b < h'.objs.size := Heap.lt_size e
    rw [PyProof.Rows.sortedHeap_old (Nat.ne_of_lt hb) (by rw [size_push']; exact Nat.lt_succ_of_lt hb)]
    exact Heap.get?_push_of_some _ e
  · rw [List.length_map, hpm.length_eq, hlt]
    exact Nat.le_trans hz big_line
  · rw [hsl]
    exact repL_map _ fun b hb => (t4 b (hpm.mem_iff.mp hb)).1
theorem cr_sorted (hc : X.calm = true) (hu : X.A.units + 64 < cLine) : CallR X (.builtin "sorted") (rB X.K T sortD) := by
  intro pins s σ H xs us Q I rvs ⟨ex, ds, ev, dm, r1, e, k⟩
  unfold sortD at e
  split at e
  · rename_i d
    obtain ⟨v, rfl, rd⟩ := one_of r1
    obtain ⟨u, rfl, rv⟩ := vals1 rvs
    obtain ⟨ys, e1, e⟩ := opt_bind e
    obtain ⟨ps, e2, e⟩ := opt_bind e
    split at e
    · rename_i h
      cases e
      unfold sortItems at e1
      split at e1
      · cases e1
        obtain ⟨a, vs, rfl, h1, h2⟩ := rd
        cases rv
        obtain ⟨its, r', pl, hz⟩ := I.list (SqL.of h1)
        obtain ⟨o, ho, hcl, n, hd⟩ := pl.isList
        have hlen := r'.length
        exact sorted_run hu I dm h2 e2 h.1 h.2 (fun R hR => wpAny_collect_seq a (.inl rfl) ho hcl hd (fun h' hk => hR h' s.toks its hk r') (by simp only [List.size_toArray]; omega)) k
      · cases e1
        obtain ⟨a, vs, rfl, _, h1, h2⟩ := rd
        cases rv
        obtain ⟨its, r', pl, hz⟩ := I.tuple (SqT.of h1)
        obtain ⟨o, ho, hcl, n, hd⟩ := pl
        have hlen := r'.length
        exact sorted_run hu I dm h2 e2 h.1 h.2 (fun R hR => wpAny_collect_seq a (.inr rfl) ho hcl hd (fun h' hk => hR h' s.toks its hk r') (by simp only [List.size_toArray]; omega)) k
      · cases e1
        rename_i ks es _
        obtain ⟨a, vs, rfl, h1, hl, h2⟩ := rd
        cases rv
        obtain ⟨z, lo, ws, rel, dd⟩ := dk_rd I.hok (Rd.of h1)
        obtain ⟨ep, hat⟩ := dd.dictAt
        have hkeys : ws.map (·.1) = ks := by
          rw [← rel.keys]
          exact List.map_fst_zip (Nat.le_of_eq hl)
        have rk : ∀ (ks : List Key), RepL X.K T ex H (ks.map keyOf) (ks.map kV) := fun ks => by
          induction ks with
          | nil => exact rfl
          | cons k ks ih =>
            refine ⟨_, _, rfl, ?_, ih⟩
            cases k with
            | inl i => exact rfl
            | inr s => show V.str s = V.str (mkS s.cps.toList); rw [mkS_tl]
        have hwl : ws.length ≤ sizeLine := by
          rw [← List.length_map (f := (·.1)), hkeys]
          have := h.2
          rw [List.length_map] at this
          exact Nat.le_trans this big_line
        refine sorted_run (vs := ks.map kV) hu I dm (rk ks) e2 h.1 h.2 (fun R hR => PySem.W.kdu_collect (A := X.A.in1) (PySem.W.kdl_dict (knd := mixKind X.prog X.w) (kvs := ws) (ep := ep) lo) (I.ok.hd hc) hat hwl fun h' tk acc hk hacc => ?_) k
        have hv := keys_at (us := acc.toList) (vs := ws) (by rw [Array.length_toList, hacc.1]) fun j v e => by
          obtain ⟨k, x, e1, e2⟩ := hacc.2 j v (by rw [← Array.getElem?_toList]; exact e)
          exact ⟨k, x, e1, e2⟩
        have ek : ws.map (fun p => kV p.1) = ks.map kV := by rw [← hkeys, List.map_map]; rfl
        rw [ek] at hv
        exact hR h' tk acc.toList hk hv
      · cases e1
    · cases e
  · cases e
end
end Dt
end
section
set_option maxRecDepth 100000
set_option maxHeartbeats 4000000
/-! QP: len(set(xs)) of texts, any number below 4000 (our own turn of the library's proof for sets of ints). -/
namespace DtS
open PySem PySem.Spec PyProof.Rows
variable {α : Type} [BEq α] [LawfulBEq α]
def stepM (σ : List α) (v : α) : List α := if σ.any (· == v) = true then σ else σ ++ [v]
def met (xs : List α) : List α := xs.foldl stepM []
theorem met_snoc (xs : List α) (x : α) : met (xs ++ [x]) = stepM (met xs) x := by unfold met; rw [List.foldl_append]; rfl
theorem stepM_len_le (σ : List α) (v : α) : (stepM σ v).length ≤ σ.length + 1 := by unfold stepM; split <;> simp
theorem fold_len : ∀ (xs σ : List α), (xs.foldl stepM σ).length ≤ σ.length + xs.length
  | [], σ => by simp
  | x :: xs, σ => by
    have h1 := fold_len xs (stepM σ x)
    have h2 := stepM_len_le σ x
    simp only [List.foldl_cons, List.length_cons]
    omega
theorem met_len (xs : List α) : (met xs).length ≤ xs.length := by have := fold_len xs []; rw [List.length_nil, Nat.zero_add] at this; exact this
theorem stepM_any [DecidableEq α] (σ : List α) (v k : α) : (stepM σ v).any (· == k) = (σ.any (· == k) || decide (k = v)) := by
  unfold stepM
  by_cases h : σ.any (· == v) = true
  · rw [if_pos h]
    by_cases e : k = v
    · subst e; rw [h]; simp
    · simp [e]
  · rw [if_neg h, List.any_append]
    by_cases e : k = v
    · subst e; simp
    · have hb : (v == k) = false := beq_eq_false_iff_ne.mpr fun h' => e h'.symm
      simp [hb, e]
theorem stepM_len (σ : List α) (v : α) : (stepM σ v).length = if σ.any (· == v) then σ.length else σ.length + 1 := by
  unfold stepM; split <;> simp
section
variable {prog : Program} {w : World} {A : Around} {R : Result → Shared → Prop} {I : Addr} {fp wr : List Addr} {G : Array GenState → Array GenState → Prop} {n : Nat} {P : Nat → Value → Prop} {St : Nat → Shared → Prop}
theorem loopAll (W : WalksS prog w A.in1 I fp wr G n P St) (S : Addr) (hSf : S ∉ fp) (xs : List Str) (hsz : xs.length = n) (hb : n + 1 < scanBound)
    (hval : ∀ i v, P i v → ∃ t, v = .str (xs.getD i Str.empty) t) :
    ∀ (k i : Nat) (s : Shared), n - i = k → i ≤ n → St i s →
      s.heap.SetOf (PySem.strKind prog w) S (fun k' => (met (xs.take i)).any (· == k')) (met (xs.take i)).length →
      (∀ s', Moved (S :: wr) G s s' → s'.heap.SetOf (PySem.strKind prog w) S (fun k' => (met (xs.take n)).any (· == k')) (met (xs.take n)).length → R (.ok (.ret .none)) s') →
      codeAny (model prog w) A (.builtin "set.update.loop" ⟨[.ref S, .ref I], []⟩) R s := by
  have hSw : S ∉ wr := fun h => hSf (W.sub _ h)
  have hsub : ∀ b ∈ wr, b ∈ S :: wr := fun b hb => List.mem_cons_of_mem _ hb
  intro k
  induction k with
  | zero =>
    intro i s hk hi hst hS hR
    have hin : i = n := by omega
    subst hin
    refine codeAny_builtin PyProof.Rows.F.entry_set_update_loop ?_
    rw [Around.under_plainId PyProof.Rows.F.plain_set_update_loop _]
    show wpAny _ A.in1 (pyNext (.ref I) >>= _) _ _ s
    refine wpAny_bind (W.done s _ _ hst fun s' hm => ?_)
    show wpAny _ A.in1 (ret Value.none) _ _ s'
    exact wpAny_pure (hR s' (hm.mono hsub) (by
      obtain ⟨o, es, ep, t, ho, rest⟩ := hS
      exact ⟨o, es, ep, t, hm.heap S _ hSw ho, rest⟩))
  | succ k ih =>
    intro i s hk hi hst hS hR
    have hlt : i < n := by omega
    refine codeAny_builtin PyProof.Rows.F.entry_set_update_loop ?_
    rw [Around.under_plainId PyProof.Rows.F.plain_set_update_loop _]
    show wpAny _ A.in1 (pyNext (.ref I) >>= _) _ _ s
    refine wpAny_bind (W.item i s _ _ hlt hst fun v s' hP hst' hm => ?_)
    obtain ⟨t, rfl⟩ := hval i v hP
    have hS' : s'.heap.SetOf (PySem.strKind prog w) S (fun k' => (met (xs.take i)).any (· == k')) (met (xs.take i)).length := by
      obtain ⟨o, es, ep, tb, ho, rest⟩ := hS
      exact ⟨o, es, ep, tb, hm.heap S _ hSw ho, rest⟩
    show wpAny _ A.in1 (holding [Value.str (xs.getD i Str.empty) t] (setAdd S (.str (xs.getD i Str.empty) t)) >>= _) _ _ s'
    refine wpAny_bind (wpAny_holding ?_)
    unfold setAdd
    refine wpAny_holding ?_
    refine wpAny_bind ((PySem.strKind prog w).pyHash (k := xs.getD i Str.empty) (strKind_is _ _ _ _) ?_)
    have hroom : (met (xs.take i)).length + 1 < scanBound := by
      have := met_len (xs.take i)
      rw [List.length_take] at this
      omega
    refine wpAny_setAddHashed_of (knd := PySem.strKind prog w) (s := { s' with toks := s'.toks + 1 }) (strKind_is _ _ _ _) rfl hS' hroom fun h' hsb hS2 => ?_
    have htk : xs.take (i + 1) = xs.take i ++ [xs.getD i Str.empty] := by
      rw [List.take_succ_eq_append_getElem (by omega)]
      congr 2
      rw [List.getD_eq_getElem?_getD, List.getElem?_eq_getElem (by omega)]; rfl
    have hSi : h'.SetOf (PySem.strKind prog w) S (fun k' => (met (xs.take (i + 1))).any (· == k')) (met (xs.take (i + 1))).length :=
      PyProof.Rows.SetOf_congr hS2 (fun k' => by rw [htk, met_snoc, stepM_any]) (by rw [htk, met_snoc, stepM_len])
    refine wpAny_pure ⟨plainId_quiet PyProof.Rows.F.plain_set_update_loop _, ih (i + 1) _ (by omega) hlt (W.frame _ s' _ _ hst' (Nat.le_succ _) fun b hb o e => ?_) hSi fun s'' hm'' hS'' => ?_⟩
    · rw [hsb.2 b (fun h : b = S => hSf (by rw [← h]; exact hb))]; exact e
    · refine hR s'' (Moved.trans W.gtrans ((hm.mono hsub).then_heap (Nat.le_succ _) fun b o hb e => ?_) hm'') hS''
      rw [hsb.2 b (fun h : b = S => hb (by rw [h]; exact List.mem_cons_self))]; exact e
end
section
variable {prog : Program} {w : World} {A : Around} {E : Value → Shared → Prop} {s : Shared}
set_option maxHeartbeats 3200000 in
theorem set_listA {l : Addr} {items : Array Value} {xs : List Str} {Q : Value → Shared → Prop}
    (hh : A.handled = none) (hl : s.heap.IsList l items) (hi : PyProof.Rows.StrsAre items.toList xs) (hn1 : xs.length + 1 < scanBound)
    (h : ∀ (h' : Heap) (tk : Nat), h'.SetOf (PySem.strKind prog w) s.heap.objs.size (fun k' => (met (xs.take items.size)).any (· == k')) (met (xs.take items.size)).length →
      (∀ b o, b < s.heap.objs.size → s.heap.get? b = some o → h'.get? b = some o) → Q (.ref s.heap.objs.size) { s with heap := h', toks := tk }) :
    wpAny (model prog w) A (call (.type "set") [.ref l]) Q E s := by
  obtain ⟨c, tl, hmro⟩ := PySem.F.called_set.mro
  have hmade := PySem.F.called_set.made
  have hsub := PySem.F.called_set.sub
  refine wpAny_call (codeAny_of_tree ?_)
  show wpAny _ _ (callAny (.type "set") _) _ _ _
  refine wpAny_pure ⟨Code.quiet_builtin _ (by decide +kernel), codeAny_builtin PySem.F.entry_type_call ?_⟩
  rw [Around.under_plain (weight_type_call_type "set" [.ref l] []) rfl]
  have h1 := PySem.F.called_set.notType
  have h2 := PySem.F.called_set.canCreate
  have hct := PySem.F.typeCall_set_1 (.ref l)
  repeat (any_goals (first | assumption | wp_step))

  refine codeAny_mono (code_set_new_1 (.ref l) (E := E) (Q₁ := fun obj s₁ => ∃ led : Bool, obj = .ref s.heap.objs.size ∧ s₁ = { s with heap := s.heap.push { cls := .type "set", dict := none, data := .set #[] 0 (.fresh 0 0 led) } }) fun led => ⟨led, rfl, rfl⟩) fun r s₁ hr => ?_
  cases r with
  | error e => exact hr
  | ok fl =>
    cases fl with
    | ret obj =>
      obtain ⟨led, rfl, rfl⟩ := hr
      have hS : (s.heap.push { cls := .type "set", dict := none, data := .set #[] 0 (.fresh 0 0 led) }).get? s.heap.objs.size = some { cls := .type "set", dict := none, data := .set #[] 0 (.fresh 0 0 led) } := Heap.get?_push_size _ rfl
      have hT : Shared.TypeIs { s with heap := s.heap.push { cls := .type "set", dict := none, data := .set #[] 0 (.fresh 0 0 led) } } (.ref s.heap.objs.size) "set" := ⟨_, hS, rfl⟩
      have hli := PySem.F.called_set.init.lookup
      have hbi := PySem.F.called_set.init.bind (.ref s.heap.objs.size)
      repeat (any_goals (first | assumption | wp_step))

      refine codeAny_mono (codeAny_call_builtin (R := wants (fun r s₂ => r = .none ∧ ∃ h' tk, s₂ = { s with heap := h', toks := tk } ∧
          h'.SetOf (PySem.strKind prog w) s.heap.objs.size (fun k' => (met (xs.take items.size)).any (· == k')) (met (xs.take items.size)).length ∧
          (∀ b o, b < s.heap.objs.size → s.heap.get? b = some o → h'.get? b = some o)) E) PySem.F.called_set.init.plain PySem.F.entry_set_init (check_set_init_1 hT ?_)) fun r₂ s₂ hr₂ => ?_
      · obtain ⟨ol, hol, hcl, nl, hdl⟩ := hl
        obtain ⟨ocls, odict, odata, oslots⟩ := ol
        simp only at hcl hdl
        subst hcl; subst hdl
        have hol' : (s.heap.push { cls := .type "set", dict := none, data := .set #[] 0 (.fresh 0 0 led) }).get? l = some { cls := .type "list", dict := odict, data := .seq items nl, slots := oslots } := Heap.get?_push_of_some _ hol
        have hsls := PySem.F.sub_list_set
        have hslf := PySem.F.sub_list_frozenset
        have hne : (Value.type "list" == Value.type "dict") = false := by decide
        have hl1 : (s.heap.push { cls := .type "set", dict := none, data := .set #[] 0 (.fresh 0 0 led) }).IsList l items := ⟨_, hol', rfl, nl, rfl⟩
        unfold Builtin.«set.__init__» noKeywords Builtin.Frozenset.updateFrom
        generalize hPI : pyIter = PI
        wp_walk
        subst hPI

        refine wpAny_pyIter_list hl1 ?_
        refine wpAny_bind (wpAny_runValue ?_)
        have hlS : l < s.heap.objs.size := Heap.lt_size hol
        have hh3 : A.in1.in1.in1.handled = none := by simp [hh]
        have hneI : l ≠ (s.heap.push { cls := .type "set", dict := none, data := .set #[] 0 (.fresh 0 0 led) }).objs.size := by
          rw [Heap.size_push]; exact Nat.ne_of_lt (Nat.lt_succ_of_lt hlS)
        have hSf : s.heap.objs.size ∉ [(s.heap.push { cls := .type "set", dict := none, data := .set #[] 0 (.fresh 0 0 led) }).objs.size, l] := by
          rw [Heap.size_push]; simp only [List.mem_cons, List.mem_singleton, List.not_mem_nil, or_false, not_or]
          exact ⟨Nat.ne_of_lt (Nat.lt_succ_self _), Nat.ne_of_gt hlS⟩
        have hsz : xs.length = items.size := by rw [← StrsAre.len_eq hi, Array.length_toList]
        have hval : ∀ (i : Nat) (v : Value), items[i]? = some v → ∃ t, v = .str (xs.getD i Str.empty) t := fun i v hv => SS.strs_at hi i v (by rw [Array.getElem?_toList]; exact hv)
        refine loopAll ((Walks.list hh3 _ l hneI items).toS) s.heap.objs.size
          hSf xs hsz (by rw [← hsz]; exact hn1) hval (items.size - 0) 0 _ (by omega) (Nat.zero_le _)
          ⟨⟨_, Heap.get?_push_size _ rfl, rfl, rfl⟩, (hl1.push _)⟩ ?hS0 ?hR
        case hS0 =>
          have hget : ((s.heap.push { cls := .type "set", dict := none, data := .set #[] 0 (.fresh 0 0 led) }).push { cls := .type "list_iterator", data := .fields #[.ref l, .int 0 0] }).get? s.heap.objs.size
              = some { cls := .type "set", dict := none, data := .set #[] 0 (.fresh 0 0 led) } := Heap.get?_push_of_some _ hS
          exact PyProof.Rows.SetOf_congr ((PyProof.Rows.setObjOf_fresh (knd := PySem.strKind prog w) led).setOf hget (by unfold scanBound; omega)) (fun _ => rfl) rfl
        case hR =>
          intro s' hm hS'
          obtain ⟨h', g', d', tk', os'⟩ := s'
          have eg : g' = s.gens := hm.gens
          have ed : d' = s.drawn := hm.drawn
          have eo : os' = s.os := hm.os
          subst eg; subst ed; subst eo
          show wpAny _ _ _ _ _ _
          refine wpAny_pure ?_
          show wpAny _ _ (ret Value.none) _ _ _
          refine wpAny_pure ⟨rfl, h', tk', rfl, hS', fun b o hb e => ?_⟩
          have hb1 : b ≠ s.heap.objs.size := Nat.ne_of_lt hb
          have hb2 : b ≠ (s.heap.push { cls := .type "set", dict := none, data := .set #[] 0 (.fresh 0 0 led) }).objs.size := by
            rw [Heap.size_push]; exact Nat.ne_of_lt (Nat.lt_succ_of_lt hb)
          exact hm.heap b o (by simp only [List.mem_cons, List.mem_singleton, List.not_mem_nil, or_false, not_or]; exact ⟨hb1, hb2⟩) (Heap.get?_push_of_some _ (Heap.get?_push_of_some _ e))

      · cases r₂ with
        | error e => exact hr₂
        | ok fl₂ =>
          cases fl₂ with
          | ret r =>
            obtain ⟨rfl, h', tk, rfl, hS', hk'⟩ := hr₂
            repeat (any_goals (first | assumption | wp_step))
            exact h _ _ hS' hk'
          | _ => exact hr₂.elim
    | _ => exact hr.elim

set_option maxHeartbeats 3200000 in
theorem set_tupleA {l : Addr} {items : Array Value} {xs : List Str} {Q : Value → Shared → Prop}
    (hh : A.handled = none) (hl : s.heap.IsTuple l items) (hi : PyProof.Rows.StrsAre items.toList xs) (hn1 : xs.length + 1 < scanBound)
    (h : ∀ (h' : Heap) (tk : Nat), h'.SetOf (PySem.strKind prog w) s.heap.objs.size (fun k' => (met (xs.take items.size)).any (· == k')) (met (xs.take items.size)).length →
      (∀ b o, b < s.heap.objs.size → s.heap.get? b = some o → h'.get? b = some o) → Q (.ref s.heap.objs.size) { s with heap := h', toks := tk }) :
    wpAny (model prog w) A (call (.type "set") [.ref l]) Q E s := by
  obtain ⟨c, tl, hmro⟩ := PySem.F.called_set.mro
  have hmade := PySem.F.called_set.made
  have hsub := PySem.F.called_set.sub
  refine wpAny_call (codeAny_of_tree ?_)
  show wpAny _ _ (callAny (.type "set") _) _ _ _
  refine wpAny_pure ⟨Code.quiet_builtin _ (by decide +kernel), codeAny_builtin PySem.F.entry_type_call ?_⟩
  rw [Around.under_plain (weight_type_call_type "set" [.ref l] []) rfl]
  have h1 := PySem.F.called_set.notType
  have h2 := PySem.F.called_set.canCreate
  have hct := PySem.F.typeCall_set_1 (.ref l)
  repeat (any_goals (first | assumption | wp_step))

  refine codeAny_mono (code_set_new_1 (.ref l) (E := E) (Q₁ := fun obj s₁ => ∃ led : Bool, obj = .ref s.heap.objs.size ∧ s₁ = { s with heap := s.heap.push { cls := .type "set", dict := none, data := .set #[] 0 (.fresh 0 0 led) } }) fun led => ⟨led, rfl, rfl⟩) fun r s₁ hr => ?_
  cases r with
  | error e => exact hr
  | ok fl =>
    cases fl with
    | ret obj =>
      obtain ⟨led, rfl, rfl⟩ := hr
      have hS : (s.heap.push { cls := .type "set", dict := none, data := .set #[] 0 (.fresh 0 0 led) }).get? s.heap.objs.size = some { cls := .type "set", dict := none, data := .set #[] 0 (.fresh 0 0 led) } := Heap.get?_push_size _ rfl
      have hT : Shared.TypeIs { s with heap := s.heap.push { cls := .type "set", dict := none, data := .set #[] 0 (.fresh 0 0 led) } } (.ref s.heap.objs.size) "set" := ⟨_, hS, rfl⟩
      have hli := PySem.F.called_set.init.lookup
      have hbi := PySem.F.called_set.init.bind (.ref s.heap.objs.size)
      repeat (any_goals (first | assumption | wp_step))

      refine codeAny_mono (codeAny_call_builtin (R := wants (fun r s₂ => r = .none ∧ ∃ h' tk, s₂ = { s with heap := h', toks := tk } ∧
          h'.SetOf (PySem.strKind prog w) s.heap.objs.size (fun k' => (met (xs.take items.size)).any (· == k')) (met (xs.take items.size)).length ∧
          (∀ b o, b < s.heap.objs.size → s.heap.get? b = some o → h'.get? b = some o)) E) PySem.F.called_set.init.plain PySem.F.entry_set_init (check_set_init_1 hT ?_)) fun r₂ s₂ hr₂ => ?_
      · obtain ⟨ol, hol, hcl, nl, hdl⟩ := hl
        obtain ⟨ocls, odict, odata, oslots⟩ := ol
        simp only at hcl hdl
        subst hcl; subst hdl
        have hol' : (s.heap.push { cls := .type "set", dict := none, data := .set #[] 0 (.fresh 0 0 led) }).get? l = some { cls := .type "tuple", dict := odict, data := .seq items nl, slots := oslots } := Heap.get?_push_of_some _ hol
        have hsls := PySem.F.sub_tuple_set
        have hslf := PySem.F.sub_tuple_frozenset
        have hne : (Value.type "tuple" == Value.type "dict") = false := by decide
        have hl1 : (s.heap.push { cls := .type "set", dict := none, data := .set #[] 0 (.fresh 0 0 led) }).IsTuple l items := ⟨_, hol', rfl, nl, rfl⟩
        unfold Builtin.«set.__init__» noKeywords Builtin.Frozenset.updateFrom
        generalize hPI : pyIter = PI
        wp_walk
        subst hPI

        refine wpAny_pyIter_tuple hl1 ?_
        refine wpAny_bind (wpAny_runValue ?_)
        have hlS : l < s.heap.objs.size := Heap.lt_size hol
        have hh3 : A.in1.in1.in1.handled = none := by simp [hh]
        have hneI : l ≠ (s.heap.push { cls := .type "set", dict := none, data := .set #[] 0 (.fresh 0 0 led) }).objs.size := by
          rw [Heap.size_push]; exact Nat.ne_of_lt (Nat.lt_succ_of_lt hlS)
        have hSf : s.heap.objs.size ∉ [(s.heap.push { cls := .type "set", dict := none, data := .set #[] 0 (.fresh 0 0 led) }).objs.size, l] := by
          rw [Heap.size_push]; simp only [List.mem_cons, List.mem_singleton, List.not_mem_nil, or_false, not_or]
          exact ⟨Nat.ne_of_lt (Nat.lt_succ_self _), Nat.ne_of_gt hlS⟩
        have hsz : xs.length = items.size := by rw [← StrsAre.len_eq hi, Array.length_toList]
        have hval : ∀ (i : Nat) (v : Value), items[i]? = some v → ∃ t, v = .str (xs.getD i Str.empty) t := fun i v hv => SS.strs_at hi i v (by rw [Array.getElem?_toList]; exact hv)
        refine loopAll ((Walks.tuple hh3 _ l hneI items).toS) s.heap.objs.size
          hSf xs hsz (by rw [← hsz]; exact hn1) hval (items.size - 0) 0 _ (by omega) (Nat.zero_le _)
          ⟨⟨_, Heap.get?_push_size _ rfl, rfl, rfl⟩, (hl1.push _)⟩ ?hS0 ?hR
        case hS0 =>
          have hget : ((s.heap.push { cls := .type "set", dict := none, data := .set #[] 0 (.fresh 0 0 led) }).push { cls := .type "tuple_iterator", data := .fields #[.ref l, .int 0 0] }).get? s.heap.objs.size
              = some { cls := .type "set", dict := none, data := .set #[] 0 (.fresh 0 0 led) } := Heap.get?_push_of_some _ hS
          exact PyProof.Rows.SetOf_congr ((PyProof.Rows.setObjOf_fresh (knd := PySem.strKind prog w) led).setOf hget (by unfold scanBound; omega)) (fun _ => rfl) rfl
        case hR =>
          intro s' hm hS'
          obtain ⟨h', g', d', tk', os'⟩ := s'
          have eg : g' = s.gens := hm.gens
          have ed : d' = s.drawn := hm.drawn
          have eo : os' = s.os := hm.os
          subst eg; subst ed; subst eo
          show wpAny _ _ _ _ _ _
          refine wpAny_pure ?_
          show wpAny _ _ (ret Value.none) _ _ _
          refine wpAny_pure ⟨rfl, h', tk', rfl, hS', fun b o hb e => ?_⟩
          have hb1 : b ≠ s.heap.objs.size := Nat.ne_of_lt hb
          have hb2 : b ≠ (s.heap.push { cls := .type "set", dict := none, data := .set #[] 0 (.fresh 0 0 led) }).objs.size := by
            rw [Heap.size_push]; exact Nat.ne_of_lt (Nat.lt_succ_of_lt hb)
          exact hm.heap b o (by simp only [List.mem_cons, List.mem_singleton, List.not_mem_nil, or_false, not_or]; exact ⟨hb1, hb2⟩) (Heap.get?_push_of_some _ (Heap.get?_push_of_some _ e))

      · cases r₂ with
        | error e => exact hr₂
        | ok fl₂ =>
          cases fl₂ with
          | ret r =>
            obtain ⟨rfl, h', tk, rfl, hS', hk'⟩ := hr₂
            repeat (any_goals (first | assumption | wp_step))
            exact h _ _ hS' hk'
          | _ => exact hr₂.elim
    | _ => exact hr.elim

end
end DtS
end
section
set_option maxRecDepth 100000
set_option maxHeartbeats 4000000
/-! QP: len(set(xs)) of texts as a rule of the layer. -/
namespace Dt
open PySem PySem.Spec L2
open PyProof.Rows hiding St
def lenSetD : List D → Option EV
  | [d] => (seqD d).bind fun xs => (strsOf xs).bind fun ys => if ys.length ≤ 4000 then some (vI (DtS.met ys).length) else none
  | _ => none
theorem met_map {ys : List (List Nat)} : (DtS.met (ys.map mkS)).length = (DtS.met ys).length := by
  have key : ∀ (ys σ : List (List Nat)), (ys.map mkS).foldl DtS.stepM (σ.map mkS) = (ys.foldl DtS.stepM σ).map mkS := fun ys => by
    induction ys with
    | nil => intro σ; rfl
    | cons y ys ih =>
      intro σ
      simp only [List.map_cons, List.foldl_cons]
      have e : DtS.stepM (σ.map mkS) (mkS y) = (DtS.stepM σ y).map mkS := by
        unfold DtS.stepM
        have e1 : (σ.map mkS).any (· == mkS y) = σ.any (· == y) := by
          rw [List.any_map]
          congr 1
          funext z
          show (mkS z == mkS y) = (z == y)
          rw [Bool.eq_iff_iff]
          simp [mkS_inj]
        rw [e1]
        split <;> simp
      rw [e, ih]
  have := key ys []
  unfold DtS.met
  rw [List.map_nil] at this
  rw [this, List.length_map]
section
variable {X : Cx}
def tLenSetA (K : PySem.W.Frag) (ta : TE) : TE := fun σ H Q => ta σ H fun x H1 => ∃ l, ∃ xs : List Str, x = .ref l ∧ (SqL K H1 l (xs.map V.str) ∨ SqT K H1 l (xs.map V.str)) ∧ xs.length ≤ 4000 ∧ Q (.int ((DtS.met xs).length : Nat)) H1
theorem pe_lenSetA {a : Expr} {ta : TE} {p p2 q pos : Pos} (hc : X.calm = true) (hg : Gl X "len") (hm : X.mg "len" = none) (hg2 : Gl X "set") (hm2 : X.mg "set" = none) (ha : PE X a ta)
    (na : starEach [a] X.env = (false, eval a X.env) :: starEach [] X.env := by rfl) : PE X (.Call (.Name "len" p) [.Call (.Name "set" p2) [a] [] q] [] pos) (tLenSetA X.K ta) := by
  refine ⟨fun pins s σ H Q I h => ?_⟩
  refine Call_ (ld_blt I hg hm PySem.boot_len ?_)
  refine PyProof.Rows.callWith_builtin1 (PyProof.Rows.args_cons ?_ rfl) rfl rfl
  refine Call_ (ld_blt I hg2 hm2 PyProof.Rows.boot_set ?_)
  refine PyProof.Rows.callWith_type1 (PyProof.Rows.args_cons (thn (ha.run pins s σ H _ I h) fun v s1 ⟨x, H1, I1, r1, q1⟩ => PyProof.Rows.args_nil ?_) na) na rfl
  obtain ⟨l, xs, rfl, hq, h1, q1⟩ := q1
  cases r1
  have fin : ∀ (its : List Value), Vals (xs.map V.str) its → ∀ (h' : Heap) (tk : Nat), h'.SetOf (PySem.strKind X.prog X.w) s1.heap.objs.size (fun k' => (DtS.met (xs.take its.toArray.size)).any (· == k')) (DtS.met (xs.take its.toArray.size)).length →
      (∀ b o, b < s1.heap.objs.size → s1.heap.get? b = some o → h'.get? b = some o) →
      wpAny (model X.prog X.w) X.A (spliced (backTo pos (starEach [] X.env))) (fun vs s₂ => wpAny (model X.prog X.w) X.A (call (.builtin "len") (Value.ref s1.heap.objs.size :: vs)) (EP X pins σ Q) X.xe s₂) X.xe { s1 with heap := h', toks := tk } := fun its r h' tk hS hk => by
    refine PyProof.Rows.args_nil ?_
    have hl : its.toArray.size = xs.length := by rw [List.size_toArray, ← r.length, List.length_map]
    rw [hl, List.take_length] at hS
    obtain ⟨o, es, ep, t, ho, hex, hd, _, _, _, hf, hn⟩ := hS
    have I2 : Inv X pins σ H1 { s1 with heap := h', toks := tk } := I1.kept fun b o e => hk b o (Heap.lt_size e) e
    have hml := DtS.met_len xs
    refine call_len_set ho hex hd hf (by rw [hn] <;> omega) ⟨.int ((DtS.met xs).length : Nat), H1, I2.tok _, ⟨_, by rw [hn]⟩, q1⟩
  rcases hq with hq | hq
  · obtain ⟨its, r, pl, hz⟩ := I1.list hq
    exact DtS.set_listA (I1.ok.hd hc) pl.isList (by simpa using strsAre_of r) (by unfold scanBound; omega) fun h' tk hS hk => fin its r h' tk hS hk
  · obtain ⟨its, r, pl, hz⟩ := I1.tuple hq
    exact DtS.set_tupleA (I1.ok.hd hc) pl (by simpa using strsAre_of r) (by unfold scanBound; omega) fun h' tk hS hk => fin its r h' tk hS hk
end
section
variable {T : Tab} {X : Cx} {a : Expr} {fa : M AV} {p p2 q pos : Pos}
theorem qe_lenSet (hc : X.calm = true) (hg : Gl X "len") (hm : X.mg "len" = none) (hg2 : Gl X "set") (hm2 : X.mg "set" = none) (ha : QO T X a fa) (na : starEach [a] X.env = (false, eval a X.env) :: starEach [] X.env := by rfl) :
    QE T X (.Call (.Name "len" p) [.Call (.Name "set" p2) [a] [] q] [] pos) (eB lenSetD (asCons fa asNil)) := fun pn xe W tk hp => by
  refine impE (pe_lenSetA (X := X.tr pn xe) hc hg hm hg2 hm2 (ha pn xe W tk hp) na) fun σ H Q ⟨ex, env, z⟩ => ⟨ex, env, ?_⟩
  have z2 := trx_bind (relAs X.K T) rmE z
  refine (trx_bind (relA X.K T) rmAs z2).mono fun v H1 ⟨av, env1, s, ra, g, rr, er, oo⟩ => ?_
  have oo2 : Out X.K T (relAs X.K T) ex env1 W σ H1 (fun vs H2 => ∃ as env2, Step X.K T ex σ H env H2 env2 ∧ relAs X.K T ex σ env2 H H2 vs as ∧ trx X.K T (relE X.K T) ex (bM lenSetD as) env2 W σ H2 Q) rr := oo
  cases er
  obtain ⟨as, env2, s2, rs, q⟩ := oo2 [v] H1 (Step.refl g) (.cons ra .nil)
  obtain ⟨exs, ds, ev, dm, r1, e, k⟩ := trx_b q rs
  unfold lenSetD at e
  split at e
  · rename_i d
    obtain ⟨w, hw, rd⟩ := one_of r1
    cases hw
    obtain ⟨xs, e1, e⟩ := opt_bind e
    obtain ⟨ys, e2, e⟩ := opt_bind e
    split at e
    · rename_i hl
      cases e
      obtain ⟨l, vs, rfl, h1, h2⟩ := seq_of e1 rd
      cases strs_rep e2 h2
      refine ⟨l, ys.map mkS, rfl, h1, by rw [List.length_map]; exact hl, k _ _ ext_refl ?_⟩
      show V.int _ = V.int _
      rw [met_map]
    · cases e
  · cases e
end
end Dt
end
section
set_option maxRecDepth 100000
set_option maxHeartbeats 4000000
/-! QR: defs with *args, own special methods, class attributes, classmethods, pairs of names, list(range). -/
namespace Dt
variable {NG : Prop}
open PySem PySem.Spec L2
open PyProof.Rows hiding St

/-! ### a def (self, *rest) -/
def valsOf : Sl → Option (List D)
  | [] => some []
  | .val d :: r => (valsOf r).map (d :: ·)
  | _ :: _ => none
def funV (n : Nat) (body : S) : M EV := fun args => match args with
  | a :: rest => (valsOf rest).bind fun ds => if ds.length ≤ 5000 then match funD n 2 body [a, .val (.tup ds)] with
    | some (.ok v (a' :: _)) => some (.ok v (a' :: rest))
    | some (.exc x (a' :: _)) => some (.exc x (a' :: rest))
    | _ => none else none
  | [] => none
section
variable {K : PySem.W.Frag} {T : Tab} {ex : Addr → Prop} {H H' H1 : Hp} {a a' r1 : Slot} {v : V} {p : Addr} {rest : List V} {rs : Sl} {ds : List D}
theorem valsOf_get : ∀ {rs : Sl} {ds : List D}, valsOf rs = some ds → rs = ds.map Slot.val
  | [], _, e => by cases e; rfl
  | .val d :: r, _, e => by
    unfold valsOf at e
    obtain ⟨es, e1, rfl⟩ := Option.map_eq_some_iff.mp e
    rw [valsOf_get e1]; rfl
  | .emp :: _, _, e => by cases e
  | .own _ :: _, _, e => by cases e
theorem repL_slots {σ : St} {env : Sl} (g : Good K T ex σ H env) : ∀ {ds : List D} {rest : List V} (k : Nat), (∀ j d, ds[j]? = some d → env[k + j]? = some (.val d)) → (∀ j u, rest[j]? = some u → σ[k + j]? = some (some u)) → ds.length = rest.length → RepL K T (exO ex σ env) H ds rest
  | [], [], _, _, _, _ => rfl
  | d :: ds, u :: us, k, h1, h2, hl => by
    obtain ⟨w, e1, r⟩ := g.val k d (h1 0 d rfl)
    have e2 := h2 0 u rfl
    rw [show k + 0 = k from rfl] at e2
    rw [e2] at e1
    cases e1
    exact ⟨u, us, rfl, r, repL_slots g (k + 1) (fun j d' e => by have := h1 (j + 1) d' e; rwa [show k + (j + 1) = k + 1 + j by omega] at this) (fun j w e => by have := h2 (j + 1) w e; rwa [show k + (j + 1) = k + 1 + j by omega] at this) (by simpa using hl)⟩
  | [], _ :: _, _, _, _, hl => by simp at hl
  | _ :: _, [], _, _, _, hl => by simp at hl
theorem owns_V (b : Addr) : Owns (some v :: rest.map some) (a' :: ds.map Slot.val) b ↔ ∃ c, a' = .own c ∧ v = .ref b := by
  constructor
  · rintro ⟨i, c, e1, e2⟩
    cases i with
    | zero => simp at e1 e2; exact ⟨c, e1, e2⟩
    | succ i =>
      simp at e1
  · rintro ⟨c, rfl, rfl⟩
    exact ⟨0, c, rfl, rfl⟩
theorem owns_P (hr : ∀ c, r1 ≠ .own c) (b : Addr) : Owns [some v, some (V.ref p)] [a', r1] b ↔ ∃ c, a' = .own c ∧ v = .ref b := by
  constructor
  · rintro ⟨i, c, e1, e2⟩
    match i, e1, e2 with
    | 0, e1, e2 => simp at e1 e2; exact ⟨c, e1, e2⟩
    | 1, e1, _ => simp at e1; exact absurd e1 (hr c)
    | i + 2, e1, _ => simp at e1
  · rintro ⟨c, rfl, rfl⟩
    exact ⟨0, c, rfl, rfl⟩
theorem exO_VP (hr : ∀ c, r1 ≠ .own c) : exO ex (some v :: rest.map some) (a' :: ds.map Slot.val) = exO ex [some v, some (V.ref p)] [a', r1] := funext fun b => propext (or_congr Iff.rfl ((owns_V b).trans (owns_P hr b).symm))
/-- the start -/
theorem good_P (g : Good K T ex (some v :: rest.map some) H (a :: ds.map Slot.val)) (hl : ds.length = rest.length) (hp : H p = none) : Good K T ex [some v, some (V.ref p)] (upd H p (.tup rest)) [a, .val (.tup ds)] := by
  have hr : ∀ c, Slot.val (.tup ds) ≠ .own c := fun c z => by cases z
  have eo := exO_VP (ex := ex) (v := v) (rest := rest) (ds := ds) (a' := a) (p := p) hr
  have mo : ∀ b o, ¬ exO ex (some v :: rest.map some) (a :: ds.map Slot.val) b → H b = some o → ¬ exO ex [some v, some (V.ref p)] [a, .val (.tup ds)] b ∧ upd H p (.tup rest) b = some o := fun b o n e => ⟨by rw [← eo]; exact n, ext_new hp b o e⟩
  refine ⟨rfl, fun i d e => ?_, fun i c e => ?_, fun i j x c c' e1 e2 e3 e4 => ?_, fun b h => ?_, g.tb.ext (ext_new hp)⟩
  · match i, e with
    | 0, e =>
      simp at e
      obtain ⟨w, e1, r⟩ := g.val 0 d (by simp [e])
      exact ⟨w, by simpa using e1, r.mono mo⟩
    | 1, e =>
      simp at e
      subst e
      refine ⟨.ref p, rfl, p, rest, rfl, ?_, upd_same, ?_⟩
      · rw [← eo]; exact g.fresh hp
      · have rl := repL_slots (ds := ds) (rest := rest) g 1 (fun j d e => by rw [Nat.add_comm, List.getElem?_cons_succ, List.getElem?_map, e]; rfl) (fun j u e => by rw [Nat.add_comm, List.getElem?_cons_succ, List.getElem?_map, e]; rfl) hl
        exact rl.mono mo
    | i + 2, e => simp at e
  · match i, e with
    | 0, e =>
      simp at e
      obtain ⟨x, e1, n, r⟩ := g.own 0 c (by simp [e])
      refine ⟨x, by simpa using e1, n, r.mono ?_ mo⟩
      exact upd_ne fun z => by subst z; exact r.there hp
    | 1, e => simp at e
    | i + 2, e => simp at e
  · match i, j, e1, e2 with
    | 0, 0, _, _ => rfl
    | 1, _, e1, _ => simp at e1
    | 0, 1, _, e2 => simp at e2
    | i + 2, _, e1, _ => simp at e1
    | 0, j + 2, _, e2 => simp at e2
  · intro z
    by_cases q : b = p
    · subst q; rw [upd_same] at z; cases z
    · rw [upd_ne q] at z; exact g.dom b h z
/-- the end -/
theorem good_V {ex2 : Addr → Prop} (gd : Good K T ex2 [some v, some (V.ref p)] H' [a', r1]) (hr : ∀ c, r1 ≠ .own c) (rl : RepL K T (exO ex2 [some v, some (V.ref p)] [a', r1]) H' ds rest) : Good K T ex2 (some v :: rest.map some) H' (a' :: ds.map Slot.val) := by
  have eo := exO_VP (ex := ex2) (v := v) (rest := rest) (ds := ds) (a' := a') (p := p) hr
  refine ⟨by simp [rl.length], fun i d e => ?_, fun i c e => ?_, fun i j x c c' e1 e2 e3 e4 => ?_, gd.dom, gd.tb⟩
  · rw [eo]
    cases i with
    | zero =>
      simp at e
      obtain ⟨w, e1, r⟩ := gd.val 0 d (by simp [e])
      exact ⟨w, by simpa using e1, r⟩
    | succ i =>
      rw [List.getElem?_cons_succ, List.getElem?_map] at e
      cases q : ds[i]? with
      | none => rw [q] at e; cases e
      | some d' =>
        rw [q] at e
        cases e
        obtain ⟨w, e1, r⟩ := rl.get q
        exact ⟨w, by rw [List.getElem?_cons_succ, List.getElem?_map, e1]; rfl, r⟩
  · rw [eo]
    cases i with
    | zero =>
      simp at e
      obtain ⟨x, e1, n, r⟩ := gd.own 0 c (by simp [e])
      exact ⟨x, by simpa using e1, n, r⟩
    | succ i => simp at e
  · cases i with
    | succ i => simp at e1
    | zero =>
      cases j with
      | zero => rfl
      | succ j => simp at e2
theorem spV {n : Nat} {body : S} {vs : List V} {Q : VK} {E : XK} (h : spD K T (funV n body) vs H Q E) : ∃ v rest, vs = v :: rest ∧ rest.length ≤ 5000 ∧ ∀ p, H p = none → spD K T (funD n 2 body) [v, .ref p] (upd H p (.tup rest)) Q E := by
  obtain ⟨ex, args, g, r, e, o⟩ := h
  have hlen := g.len
  rw [List.length_map] at hlen
  cases args with
  | nil => cases e
  | cons a rs =>
    cases vs with
    | nil => simp at hlen
    | cons v rest =>
      unfold funV at e
      obtain ⟨ds, e1, e⟩ := opt_bind e
      have ers := valsOf_get e1
      subst ers
      have hl : ds.length = rest.length := by simpa using hlen
      by_cases hz : ds.length ≤ 5000
      · rw [if_pos hz] at e
        refine ⟨v, rest, rfl, by omega, fun p hp => ⟨ex, [a, .val (.tup ds)], good_P g hl hp, ?_⟩⟩
        have rl := repL_slots (ds := ds) (rest := rest) g 1 (fun j d e => by rw [Nat.add_comm, List.getElem?_cons_succ, List.getElem?_map, e]; rfl) (fun j u e => by rw [Nat.add_comm, List.map_cons, List.getElem?_cons_succ, List.getElem?_map, e]; rfl) hl
        have step : ∀ {H' : Hp} {a' : Slot} {t : Sl}, Step K T ex [some v, some (V.ref p)] (upd H p (.tup rest)) [a, .val (.tup ds)] H' (a' :: t) → ∃ r1, t = [r1] ∧ (∀ c, r1 ≠ .own c) ∧ Step K T ex ((v :: rest).map some) H (a :: ds.map Slot.val) H' (a' :: ds.map Slot.val) ∧ (∀ b o, ¬ exO ex ((v :: rest).map some) (a :: ds.map Slot.val) b → H b = some o → ¬ exO ex [some v, some (V.ref p)] [a', r1] b ∧ (NT o → H' b = some o)) := fun {H' a' t} s => by
          have hl2 := s.gd.len
          obtain ⟨r1, rfl⟩ : ∃ r1, t = [r1] := by
            match t, hl2 with
            | [r1], _ => exact ⟨r1, rfl⟩
          have hr : ∀ c, r1 ≠ .own c := fun c z => by
            obtain ⟨c', e⟩ := s.sb 1 c (by simp [z])
            simp at e
          have fr : ∀ b o, ¬ exO ex ((v :: rest).map some) (a :: ds.map Slot.val) b → H b = some o → ¬ exO ex [some v, some (V.ref p)] [a', r1] b ∧ (NT o → H' b = some o) := fun b o nb e => by
            have eo := exO_VP (ex := ex) (v := v) (rest := rest) (ds := ds) (a' := a) (p := p) (r1 := .val (.tup ds)) (fun c z => by cases z)
            rw [List.map_cons, eo] at nb
            exact ⟨fun z => nb (s.exO z), s.fr b o (ext_new hp b o e) fun z => nb (.inr z)⟩
          refine ⟨r1, rfl, hr, ⟨fun b o e nb => s.fr b o (ext_new hp b o e) fun z => nb ((owns_V b).mpr ((owns_P (fun c z => by cases z) b).mp z)), fun b e => s.dm b fun z => ?_, fun i c e => ?_, ?_⟩, fr⟩
          · by_cases q : b = p
            · subst q; rw [upd_same] at z; cases z
            · rw [upd_ne q] at z; exact e z
          · cases i with
            | zero => simp at e; obtain ⟨c', e'⟩ := s.sb 0 c (by simp [e]); exact ⟨c', by simpa using e'⟩
            | succ i => simp at e
          · exact good_V s.gd hr (rl.monoT fr)
        cases q : funD n 2 body [a, .val (.tup ds)] with
        | none => rw [q] at e; cases e
        | some rr =>
          rw [q] at e
          refine ⟨rr, rfl, ?_⟩
          have eo2 : ∀ {ex2 : Addr → Prop} {a' r1 : Slot}, (∀ c, r1 ≠ .own c) → exO ex2 ((v :: rest).map some) (a' :: ds.map Slot.val) = exO ex2 [some v, some (V.ref p)] [a', r1] := fun hr => exO_VP hr
          cases rr with
          | exc x env2 =>
            cases env2 with
            | nil => cases e
            | cons a' t =>
              cases e
              intro cls dd H' s rx
              obtain ⟨r1, rfl, hr, s', fr⟩ := step s
              refine o cls dd H' s' ⟨rx.1, rx.2.imp id ?_⟩
              rintro ⟨b, ws, h1, h2, h3, h4⟩
              exact ⟨b, ws, h1, h2, h3, by rw [eo2 hr]; exact h4⟩
          | ok w env2 =>
            cases env2 with
            | nil => cases e
            | cons a' t =>
              cases e
              intro u H' s ru
              obtain ⟨r1, rfl, hr, s', fr⟩ := step s
              refine o u H' s' ?_
              cases w with
              | v d => show Rep K T _ H' d u; rw [eo2 hr]; exact ru
              | o c =>
                obtain ⟨b, h1, h2, h3, h4⟩ := ru
                have hb : H b = none := by
                  by_cases q : b = p
                  · subst q; exact hp
                  · rw [upd_ne q] at h2; exact h2
                refine ⟨b, h1, hb, by rw [eo2 hr]; exact h3, good_V h4 hr (rl.monoT fun x o n e => ?_)⟩
                obtain ⟨f1, f2⟩ := fr x o n e
                refine ⟨fun z => ?_, f2⟩
                rcases z with (z | z) | z
                · exact f1 (.inl z)
                · subst z; rw [hb] at e; cases e
                · exact f1 (.inr z)
      · rw [if_neg hz] at e; cases e
end
section
variable {P : Program} {w : World} {K : PySem.W.Frag} {mg : Str → Option Value} {base : Heap} {T : Tab}
theorem Fun.qV {x qual : Str} {st : Stmt} {f : Addr} {fd : FuncData} {N : List Str} {pa pv : Str} {k : Nat} {body : S} (F : Fun K x qual st f fd) (Sc : FnScope N [pa, pv] (defScope st))
    (bd : ∀ (kV doc pm : Value) (an : Option Addr) (cdv ct : Value) (u : Value) (rest : List Value), rest.length ≤ 5000 → bindArgs (PySem.W.fnOf x qual (defArgs st) (defBody st) (defScope st) .none kV doc pm an cdv ct) ⟨u :: rest, []⟩ = (newTuple rest >>= fun t => pure [(pa, u), (pv, t)]))
    (hb : ∀ (cdv : Value) (A : Around) (outer : List Env) (s : Shared) (H : Hp) (E : XK), RG NG k (A.deeper (envOfC qual (defScope st) s.heap.objs.size f cdv)) →
      QSs T (cxOf (L2.CX P w) P w K mg base N qual (defScope st) f cdv A outer s H E) (lt 2) (defBody st) body) :
    FnG NG P w K mg base (k + 1) f (spD K T (funV N.length body)) := by
  have hpl : 2 ≤ N.length := by have := congrArg List.length Sc.pre; rw [List.length_take] at this; simp at this; omega
  obtain ⟨oc, od, kV, doc, pm, an, cdv, ct, osl, rfl, lk, hcd⟩ := F.ex
  intro A outer s H us vs Q E hr e0 r hsp
  obtain ⟨v, rest, rfl, hl, hq⟩ := spV hsp
  obtain ⟨u, ur, rfl, rv, rr⟩ : ∃ u ur, us = u :: ur ∧ RelV v u ∧ Vals rest ur := by
    cases r with
    | cons x y => exact ⟨_, _, rfl, x, y⟩
  have hl' : ur.length ≤ 5000 := by rw [← rr.length]; exact hl
  have hz : (5000 : Nat) ≤ sizeLine := by rw [sizeLine_eq]; omega
  have KX : K.In s.heap := e0.mod.kin.keeps fun b o e => (e0.bs b o e).1
  have hn : H s.heap.objs.size = none := e0.hok.fresh (Nat.le_refl _)
  have hp := hq s.heap.objs.size hn
  have kp : ∀ b o, s.heap.get? b = some o → (s.heap.push ({ cls := .type "tuple", data := .seq ur.toArray } : Obj)).get? b = some o := fun b o e => Heap.get?_push_of_some _ e
  have new : ObjOk P w (upd H s.heap.objs.size (.tup rest)) (s.heap.push ({ cls := .type "tuple", data := .seq ur.toArray } : Obj)) s.heap.objs.size (.tup rest) :=
    ⟨Nat.le_trans hl hz, ur, rr, ⟨_, Heap.get?_push_size _ rfl, rfl, _, rfl⟩⟩
  have e2 : Env0 P w K mg base A outer { s with heap := s.heap.push ({ cls := .type "tuple", data := .seq ur.toArray } : Obj) } (upd H s.heap.objs.size (.tup rest)) := StX.env0_laid e0 new
  have un : Un (frs outer) [] H (upd H s.heap.objs.size (.tup rest)) s.heap (s.heap.push ({ cls := .type "tuple", data := .seq ur.toArray } : Obj)) := Un.laid kp (Nat.le_refl _) hn
  have lim : (s.heap.push ({ cls := .type "tuple", data := .seq ur.toArray } : Obj)).NoLimit := e0.mod.nolimit.keeps fun b o e => (e2.bs b o e).1
  have hkind : ∀ y ∈ [pa, pv].zip [u, Value.ref s.heap.objs.size], (defScope st).names.lookup y.1 = some .local ∨
      ((defScope st).names.lookup y.1 = some .cell ∧ ((cellsFrom ((s.heap.push ({ cls := .type "tuple", data := .seq ur.toArray } : Obj)).objs.size + 1) (defScope st).names []).lookup y.1).isSome = true) := fun y hy => by
    rcases Sc.par y.1 (List.of_mem_zip hy).1 with q | q
    · exact .inl q
    · exact .inr ⟨q, PySem.W.cellsFrom_some _ _ _ (.inl q)⟩
  refine codeAny_call_function hr.r.depth (KX _ _ lk) rfl Sc.co Sc.gen rfl (PySem.W.codeRec_of KX hcd) ?_
  rw [bd kV doc pm an cdv ct u ur hl']
  refine wpAny_bind (wpAny_newTuple (wpAny_pure ?_) (Nat.le_trans hl' hz))
  refine wpAny_newFunctionEnv_cells (s := { s with heap := s.heap.push ({ cls := .type "tuple", data := .seq ur.toArray } : Obj) }) Sc.kind hkind fun env he s1 x => ?_
  subst he
  refine ⟨lim.keeps x.toInCall.keep, codeAny_func ?_⟩
  obtain ⟨t, ht, hq'⟩ := sp_body (ps := [pa, pv]) (s := { s with heap := s.heap.push ({ cls := .type "tuple", data := .seq ur.toArray } : Obj) }) hpl (hb cdv A outer { s with heap := s.heap.push ({ cls := .type "tuple", data := .seq ur.toArray } : Obj) } (upd H s.heap.objs.size (.tup rest)) E (hr.deeper _)) hp
  have r2 : Vals [v, V.ref s.heap.objs.size] [u, Value.ref s.heap.objs.size] := .cons rv (.cons rfl .nil)
  have I : Inv (cxOf (L2.CX P w) P w K mg base N qual (defScope st) f cdv A outer { s with heap := s.heap.push ({ cls := .type "tuple", data := .seq ur.toArray } : Obj) } (upd H s.heap.objs.size (.tup rest)) E) [] (start N [v, .ref s.heap.objs.size]) (upd H s.heap.objs.size (.tup rest)) s1 :=
    inv_start Sc hr.r.hd e2 rfl r2 x
  refine wpAny_mono (ht.run [] s1 _ _ _ I hq') (fun fl s' hs => ?_) fun e s' hs => ?_
  · have fin : ∀ {σ' : St} {H' : Hp} {v' : V} {u' : Value}, Inv (cxOf (L2.CX P w) P w K mg base N qual (defScope st) f cdv A outer { s with heap := s.heap.push ({ cls := .type "tuple", data := .seq ur.toArray } : Obj) } (upd H s.heap.objs.size (.tup rest)) E) [] σ' H' s' → RelV v' u' → Q v' H' →
        CE outer P w H s Q u' s' := fun {σ' H' v' u'} J rv' q => ⟨v', H', J.os, J.bare, un.trans J.base, J.hok, rv', q⟩
    cases fl with
    | ret u' =>
      obtain ⟨v', σ', H', J, rv', q⟩ := hs
      exact fin J rv' q
    | next =>
      obtain ⟨σ', H', J, q⟩ := hs
      exact fin (v' := V.non) (u' := Value.none) J rfl q
    | brk =>
      obtain ⟨_, _, _, q⟩ := hs
      exact False.elim q
    | cont =>
      obtain ⟨_, _, _, q⟩ := hs
      exact False.elim q
  · exact wpAny_mono hs (fun _ s'' z => StX.cxUp (P := P) (w := w) outer s H { s with heap := s.heap.push ({ cls := .type "tuple", data := .seq ur.toArray } : Obj) } (upd H s.heap.objs.size (.tup rest)) E e s'' un kp rfl z) fun e' s'' z => StX.cxUp (P := P) (w := w) outer s H { s with heap := s.heap.push ({ cls := .type "tuple", data := .seq ur.toArray } : Obj) } (upd H s.heap.objs.size (.tup rest)) E e' s'' un kp rfl z
end
end Dt
end
section
set_option maxRecDepth 100000
set_option maxHeartbeats 4000000
/-! QU: own special methods, class attributes, classmethods, star calls of a local class, pairs of names, list(range), dicts made. -/
namespace Dt
variable {NG : Prop}
open PySem PySem.Spec L2
open PyProof.Rows hiding St

/-- x in y, y an own object -/
def inO (n : Bool) (mt : Nat → Option (M EV)) (x y : AV) : M EV := fun env => (objOf env y).bind fun p => (mt p.1).bind fun g => match callM g [y, x] env with
  | some (.ok (.v (.bl b)) e) => some (.ok (.v (.bl (n ^^ b))) e)
  | _ => none
/-- what of the text a special method asks -/
structure SpecOK (NG : Prop) (T : Tab) (X : Cx) (m : Str) (ex : Addr → Prop) (mt : Nat → Option (M EV)) : Prop where
  of : ∀ t g, mt t = some g → ∃ f k, PySem.W.findIn X.K (.ref (T.cls t)) m = some (some (.ref f)) ∧ PySem.W.isFn X.K (.ref f) = true ∧ PySem.W.fnIn X.K f = true ∧ PySem.W.noSeq X.K (T.cls t) = true ∧ RG NG (k + 1) X.A ∧ FnQ NG T X k f g ∧ ex (T.cls t)
section
variable {T : Tab} {X : Cx} {m : Str} {ec : Addr → Prop} {mt : Nat → Option (M EV)} {ex : Addr → Prop} {σ : St} {H : Hp} {env : Sl} {W : WX} {Q : VK}
end
section
variable {X : Cx} {a b : Expr} {ta tb : TE} {pos : Pos}
end
section
variable {T : Tab} {X : Cx} {a b : Expr} {pos : Pos} {fa fb : M AV} {mt : Nat → Option (M EV)}
end

/-! ### class attributes, classmethods -/
section
variable {T : Tab} {X : Cx} {x f m : Str} {p pos apos : Pos} {C pr g0 : Addr} {mc u : Value} {v : V} {d : D} {k : Nat} {g : M EV} {e : Expr} {es : List Expr} {fs : M (List AV)} {pl : Sem Bool}
theorem qe_cval (hg : Gl X x) (hm : X.mg x = some (.ref C)) (r : ClX.CRead X.K C mc) (c : ClX.CVal X.K C mc f v u) (hd : ∀ ex H, Rep X.K T ex H d v) (hdb : (x == ("__debug__" : Str)) = false := by decide)
    (hb : attributeBase (.Name x p) f X.env (eval (.Name x p) X.env) = eval (.Name x p) X.env := by rfl) : QE T X (.Attribute (.Name x p) f pos) (eC d) := fun pn xe W _ _ =>
  impE (ClX.pe_cval (X := X.tr pn xe) (pe_glob (X := X.tr pn xe) (v := .ref C) hg hm rfl hdb) hb) fun σ H Q h => ⟨C, mc, v, u, rfl, r, c, trC hd h⟩
theorem pe_cmethQ {ta : TE} {t : TA} {W : WX} {sp : Sp} {o : Expr} (he : PE X o ta) (tk : Takes X W) (r : ClX.CRead X.K C mc) (c : ClX.CMet X.K C mc m pr g0) (F : FnG NG X.prog X.w X.K X.mg X.base k g0 sp) (hr : RG NG k X.A) (ha : PA X (e :: es) t)
    (hst : starEach (e :: es) X.env = (false, eval e X.env) :: starEach es X.env := by rfl) (hpl : (backTo pos (starEach es X.env)).any (·.1) = false := by rfl)
    (ht : eval (.Call (.Attribute o m apos) (e :: es) [] pos) X.env = (do
      let ov ← eval o X.env
      standAt apos.atName
      let (f, first) ← holding [ov] (getMethod ov m pl)
      callWith pos f first (backTo pos (starEach (e :: es) X.env)) (backToKw pos (keywordEach [] X.env))) := by rfl) :
    PE X (.Call (.Attribute o m apos) (e :: es) [] pos) (fun σ H Q => ta σ H fun x H1 => x = .ref C ∧ t σ H1 fun vs H2 => sp (.ref C :: vs) H2 Q fun c d H' => W c d σ H') := by
  refine ⟨fun pins s σ H Q I h => ?_⟩
  refine PySem.W.methodCall_KW (pl := pl) (thn (he.run pins s σ H _ I h) fun u s1 ⟨x, H1, I1, rx, ex, q⟩ => ?_) ht
  subst ex
  obtain rfl : u = Value.ref C := rx
  refine ClX.getmethcm_ok I1 r c fun s2 I2 => ?_
  refine ClX.callwith_cm I2 (ClX.base_none I1 (Nat.le_refl _)) c.fi (thn (ha.run pos _ s2 σ H1 _ I2 q) fun us s3 ⟨vs, H2, I3, rv, q2⟩ => ⟨⟨ClX.pin_at I3, I3.kIn⟩, ?_⟩) hst hpl
  exact thn (wpAny_call (PySem.W.method_call (ClX.pin_at I3) (run_at (us := .ref C :: us) (vs := .ref C :: vs) F hr tk I3 (.cons rfl rv) q2))) fun _ _ y => ClX.unpinE y
def eCMeth (C : Addr) (g : M EV) (fs : M (List AV)) : M EV := M.bind fs fun as => callM g (.v (.raw (.ref C)) :: as)
theorem qe_cmeth (hg : Gl X x) (hm : X.mg x = some (.ref C)) (r : ClX.CRead X.K C mc) (c : ClX.CMet X.K C mc m pr g0) (F : FnQ NG T X k g0 g) (hr : RG NG k X.A) (ha : QAs T X (e :: es) fs) (hdb : (x == ("__debug__" : Str)) = false := by decide)
    (hst : starEach (e :: es) X.env = (false, eval e X.env) :: starEach es X.env := by rfl) (hpl : (backTo pos (starEach es X.env)).any (·.1) = false := by rfl)
    (ht : eval (.Call (.Attribute (.Name x p) m apos) (e :: es) [] pos) X.env = (do
      let ov ← eval (.Name x p) X.env
      standAt apos.atName
      let (f, first) ← holding [ov] (getMethod ov m pl)
      callWith pos f first (backTo pos (starEach (e :: es) X.env)) (backToKw pos (keywordEach [] X.env))) := by rfl) : QE T X (.Call (.Attribute (.Name x p) m apos) (e :: es) [] pos) (eCMeth C g fs) := fun pn xe W tk hp =>
  impE (pe_cmethQ (X := X.tr pn xe) (pl := pl) (pe_glob (X := X.tr pn xe) (v := .ref C) hg hm rfl hdb) tk r c F hr (ha pn xe W tk hp) hst hpl ht) fun σ H Q ⟨ex, env, q⟩ => ⟨rfl, ex, env, (trx_bind (relAs X.K T) rmE q).mono fun vs H1 ⟨as, env1, s, ra, q⟩ => trx_call q (.cons rfl ra)⟩
end
/-! ### cls( *y), cls a local name -/
def eMakeSL (i : Nat) (C : Addr) (t : Nat) (g : M EV) (fa : M AV) : M EV := fun env => match env[i]? with
  | some (.val (.raw (.ref C'))) => if C' = C then eMakeS t g fa env else none
  | _ => none
section
variable {T : Tab} {X : Cx} {k t : Nat} {f C : Addr} {g : M EV} {x : Str} {p sp_ pos : Pos} {e : Expr} {fa : M AV}
theorem pe_makeQSL {te : TE} {W : WX} {sp : Sp} (i : Nat) (M : Mk X.K C f) (F : FnG NG X.prog X.w X.K X.mg X.base k f sp) (hr : RG NG (k + 1) X.A) (tk : Takes X W) (he : PE X e te) (hN : X.N[i]? = some x := by rfl) (hv : Vis X.env.scope x := by first | exact Or.inl rfl | exact Or.inr (Or.inl rfl) | exact Or.inr (Or.inr rfl))
    (hdb : (x == ("__debug__" : Str)) = false := by decide) (hcd : (x == ("__classdict__" : Str)) = false := by decide)
    (hst : starEach [.Starred e sp_] X.env = [(true, eval e X.env)] := by rfl) : PE X (.Call (.Name x p) [.Starred e sp_] [] pos) (fun σ H Q => σ[i]? = some (some (V.ref C)) ∧ te σ H fun y H1 => ∃ a vs, y = V.ref a ∧ (SqT X.K H1 a vs ∨ SqL X.K H1 a vs) ∧
      ∀ x dx, H1 x = none → H1 dx = none → dx ≠ x → sp (V.ref x :: vs) (upd (upd H1 dx (.own x)) x (.ins C dx [])) (fun v H2 => v = .non ∧ Q (.ref x) H2) fun c d H' => W c d σ H') := by
  refine ⟨fun pins s σ H Q I h => ?_⟩
  obtain ⟨hs, ht⟩ := h
  refine wpAny_Call_Name_kw (thn ((pe_var (pos := p) hN hv hdb hcd).run pins s σ H (fun v H1 => v = .ref C ∧ H1 = H) I ⟨.ref C, hs, rfl, rfl⟩) fun u s1 ⟨v, H1, I1, r1, q1⟩ => ?_)
  obtain ⟨rfl, rfl⟩ := q1
  cases r1
  refine PySem.W.callWith_S (h₀ := X.base) I.ok.mod.kin M.kp (thn (he.run pins s1 σ _ _ I1 ht) fun v s1 ⟨y, H1, I1, ry, a, xs, ey, hxs, q⟩ => ?_) hst
  subst ey
  obtain rfl : v = Value.ref a := ry
  exact StX.star_any I1 hxs fun us s2 I2 rv => ⟨I2.kIn, run_makeQ M F hr tk I2 rv q⟩
theorem qe_makeSL (i : Nat) (M : Mk X.K (T.cls t) f) (F : FnQ NG T X k f g) (hr : RG NG (k + 1) X.A) (h : QO T X e fa) (hN : X.N[i]? = some x := by rfl) (hv : Vis X.env.scope x := by first | exact Or.inl rfl | exact Or.inr (Or.inl rfl) | exact Or.inr (Or.inr rfl))
    (hdb : (x == ("__debug__" : Str)) = false := by decide) (hcd : (x == ("__classdict__" : Str)) = false := by decide)
    (hst : starEach [.Starred e sp_] X.env = [(true, eval e X.env)] := by rfl) : QE T X (.Call (.Name x p) [.Starred e sp_] [] pos) (eMakeSL i (T.cls t) t g fa) := fun pn xe W tk hp => by
  refine impE (pe_makeQSL (X := X.tr pn xe) i M F hr tk (h pn xe W tk hp) hN hv hdb hcd hst) fun σ H Q ⟨ex, env, gd, r, er, o⟩ => ?_
  unfold eMakeSL at er
  split at er
  · rename_i C' hC
    split at er
    · rename_i hcc
      subst hcc
      obtain ⟨v, e1, rv⟩ := gd.val i _ hC
      cases (show v = V.ref _ from rv)
      refine ⟨e1, ex, env, (trx_bind (relA X.K T) rmE ⟨gd, r, er, o⟩).mono fun v H1 ⟨a, env1, s, ra, q⟩ => ?_⟩
      obtain ⟨g1, r, er, o⟩ := q
      obtain ⟨d, e1, er⟩ := opt_bind er
      obtain ⟨ds, e2, er⟩ := opt_bind er
      have rd := deref_ok g1 ra e1
      cases d with
      | lst xs =>
        cases e2
        obtain ⟨b, vs, e3, h1, h2⟩ := rd
        exact ⟨b, vs, e3, .inr (SqL.of h1), fun x dx hx hdx hne => trx_make ⟨g1, r, er, o⟩ (reps_of h2) hx hdx hne⟩
      | tup xs =>
        cases e2
        obtain ⟨b, vs, e3, _, h1, h2⟩ := rd
        exact ⟨b, vs, e3, .inl (SqT.of h1), fun x dx hx hdx hne => trx_make ⟨g1, r, er, o⟩ (reps_of h2) hx hdx hne⟩
      | _ => cases e2
    · cases er
  · cases er
end
end Dt
end
section
set_option maxRecDepth 100000
set_option maxHeartbeats 4000000
/-! QX: pairs of names, list(range), dicts made, repeats. -/
namespace Dt
open PySem PySem.Spec L2
open PyProof.Rows hiding St
section
variable {K : PySem.W.Frag} {T : Tab} {np : Nat → Bool} {ex : Addr → Prop} {env env0 : Sl} {W : WX} {σ σ0 σ1 : St} {H H0 : Hp} {D : Ends}
theorem Good.storeS {v : V} {ev : EV} {i : Nat} (hi : np i = false) (s : SStep K T np ex σ0 H0 env0 σ H env) (r : RepR K T np ex σ0 env0 H0 σ env H v ev) : SStep K T np ex σ0 H0 env0 (σ.set i (some v)) H (env.set i (slotOf ev)) := by
  have g := s.gd
  by_cases hl : i < env.length
  case neg =>
    have h1 : env.set i (slotOf ev) = env := List.set_eq_of_length_le (by omega)
    have h2 : σ.set i (some v) = σ := List.set_eq_of_length_le (by rw [← g.len]; omega)
    rw [h1, h2]
    exact s
  have hσ : i < σ.length := by rw [← g.len]; exact hl
  have σi : (σ.set i (some v))[i]? = some (some v) := List.getElem?_set_self hσ
  have σj : ∀ j, j ≠ i → (σ.set i (some v))[j]? = σ[j]? := fun j h => List.getElem?_set_ne (Ne.symm h)
  have par : ∀ j, np j = true → (σ.set i (some v))[j]? = σ0[j]? := fun j h => (σj j (fun z => by rw [z, hi] at h; cases h)).trans (s.par j h)
  have ln : (σ.set i (some v)).length = σ0.length := List.length_set.trans s.ln
  have subp : ∀ (j : Nat) (c : OC), np j = true → (env.set i (slotOf ev))[j]? = some (.own c) → ∃ c', env0[j]? = some (.own c') := fun j c hj e => by
    rcases set_get e with ⟨h1, _, _⟩ | ⟨_, h⟩
    · rw [h1, hi] at hj; cases hj
    · exact s.sbp j c hj h
  cases ev with
  | v d =>
    have ow : ∀ {a}, Owns (σ.set i (some v)) (env.set i (slotOf (.v d))) a → Owns σ env a := fun ⟨j, c, e1, e2⟩ => by
      rcases set_get e1 with ⟨_, h, _⟩ | ⟨h1, h2⟩
      · cases h
      · rw [σj j h1] at e2; exact ⟨j, c, h2, e2⟩
    have mo : ∀ a o, ¬ exO ex σ env a → H a = some o → ¬ exO ex (σ.set i (some v)) (env.set i (slotOf (.v d))) a ∧ H a = some o := fun a o n e => ⟨fun z => n (z.imp id ow), e⟩
    refine ⟨s.fr, s.dm, subp, fun j c a hj e e2 => ?_, par, ln, ⟨by rw [List.length_set, List.length_set]; exact g.len, fun j d' e => ?_, fun j c e => ?_, fun j k a c c' e1 e2 e3 e4 => ?_, g.dom, g.tb⟩⟩
    · rcases set_get e with ⟨_, h, _⟩ | ⟨h1, h2⟩
      · cases h
      · rw [σj j h1] at e2
        exact s.sbl j c a hj h2 e2
    · rcases set_get e with ⟨h1, h, _⟩ | ⟨h1, h2⟩
      · cases h; subst h1; exact ⟨v, σi, Rep.mono mo r⟩
      · obtain ⟨u, e1, q⟩ := g.val j d' h2
        exact ⟨u, by rw [σj j h1]; exact e1, q.mono mo⟩
    · rcases set_get e with ⟨_, h, _⟩ | ⟨h1, h2⟩
      · cases h
      · obtain ⟨a, e1, n, q⟩ := g.own j c h2
        exact ⟨a, by rw [σj j h1]; exact e1, n, q.mono rfl mo⟩
    · rcases set_get e1 with ⟨_, h, _⟩ | ⟨h1, h2⟩
      · cases h
      · rcases set_get e2 with ⟨_, h, _⟩ | ⟨h3, h4⟩
        · cases h
        · rw [σj j h1] at e3
          rw [σj k h3] at e4
          exact g.inj j k a c c' h2 h4 e3 e4
  | o c0 =>
    obtain ⟨x, ev, nex, now, nx, ro, gx⟩ := r
    subst ev
    have nox : ¬ exO ex σ env x := fun z => z.elim nex now
    have ow : ∀ {a}, Owns (σ.set i (some (.ref x))) (env.set i (slotOf (.o c0))) a → Owns σ env a ∨ a = x := fun ⟨j, c, e1, e2⟩ => by
      rcases set_get e1 with ⟨h1, _, _⟩ | ⟨h1, h2⟩
      · subst h1; rw [σi] at e2; cases e2; exact .inr rfl
      · rw [σj j h1] at e2; exact .inl ⟨j, c, h2, e2⟩
    have mo : ∀ a o, ¬ exO (fun b => ex b ∨ b = x) σ env a → H a = some o → ¬ exO ex (σ.set i (some (.ref x))) (env.set i (slotOf (.o c0))) a ∧ H a = some o := fun a o n e => ⟨fun z => n (by
      rcases z with z | z
      · exact .inl (.inl z)
      · rcases ow z with z | z
        · exact .inr z
        · exact .inl (.inr z)), e⟩
    have mo2 : ∀ a o, ¬ (exO ex σ env a ∨ a = x) → H a = some o → ¬ exO ex (σ.set i (some (.ref x))) (env.set i (slotOf (.o c0))) a ∧ H a = some o := fun a o n e => ⟨fun z => n (by
      rcases z with z | z
      · exact .inl (.inl z)
      · exact (ow z).imp .inr id), e⟩
    refine ⟨s.fr, s.dm, subp, fun j c a hj e e2 => ?_, par, ln, ⟨by rw [List.length_set, List.length_set]; exact g.len, fun j d' e => ?_, fun j c e => ?_, fun j k a c c' e1 e2 e3 e4 => ?_, g.dom, g.tb⟩⟩
    · rcases set_get e with ⟨h1, _, _⟩ | ⟨h1, h2⟩
      · subst h1; rw [σi] at e2; cases e2; exact nx
      · rw [σj j h1] at e2
        exact s.sbl j c a hj h2 e2
    · rcases set_get e with ⟨_, h, _⟩ | ⟨h1, h2⟩
      · cases h
      · obtain ⟨u, e1, q⟩ := gx.val j d' h2
        exact ⟨u, by rw [σj j h1]; exact e1, q.mono mo⟩
    · rcases set_get e with ⟨h1, h, _⟩ | ⟨h1, h2⟩
      · cases h; subst h1; exact ⟨x, σi, fun z => nox (.inl z), ro.mono rfl mo2⟩
      · obtain ⟨a, e1, n, q⟩ := gx.own j c h2
        exact ⟨a, by rw [σj j h1]; exact e1, fun z => n (.inl z), q.mono rfl mo⟩
    · have nj : ∀ {j : Nat} {c : OC}, env[j]? = some (.own c) → σ[j]? ≠ some (some (V.ref x)) := fun {j c} h z => nox (.inr ⟨j, c, h, z⟩)
      rcases set_get e1 with ⟨h1, _, _⟩ | ⟨h1, h2⟩
      · subst h1
        rw [σi] at e3
        cases e3
        rcases set_get e2 with ⟨h3, _, _⟩ | ⟨h3, h4⟩
        · exact h3.symm
        · rw [σj k h3] at e4; exact absurd e4 (nj h4)
      · rw [σj j h1] at e3
        rcases set_get e2 with ⟨h3, _, _⟩ | ⟨h3, h4⟩
        · subst h3; rw [σi] at e4; cases e4; exact absurd e3 (nj h2)
        · rw [σj k h3] at e4
          exact g.inj j k a c c' h2 h4 e3 e4
end
section
variable {K : PySem.W.Frag} {T : Tab} {np : Nat → Bool} {ex : Addr → Prop} {env env' : Sl} {σ σ' : St} {H H' : Hp} {x : Addr}
theorem Step.less (s : Step K T (fun b => ex b ∨ b = x) σ H env H' env') : Step K T ex σ H env H' env' := ⟨s.fr, s.dm, s.sb, s.gd.less⟩
theorem SStep.less (s : SStep K T np (fun b => ex b ∨ b = x) σ H env σ' H' env') : SStep K T np ex σ H env σ' H' env' := ⟨s.fr, s.dm, s.sbp, s.sbl, s.par, s.ln, s.gd.less⟩
end
/-! ### x, y = a, b -/
def sPar (i j : Nat) (f g : M EV) : S := fun env => match f env with
  | some (.ok a e1) => match g e1 with
    | some (.ok b e2) => some (.nx ((e2.set j (slotOf b)).set i (slotOf a)))
    | some (.exc x e2) => some (.exc x e2)
    | none => none
  | some (.exc x e1) => some (.exc x e1)
  | none => none
section
variable {T : Tab} {X : Cx} {np : Nat → Bool} {x y : Str} {a b : Expr} {px py pt pos : Pos} {kt k2 : Nat} {pt2 : Pos} {f g : M EV}
theorem tr_par {K : PySem.W.Frag} {W : WX} {σ : St} {H : Hp} {D : Ends} {i j : Nat} (hi : np i = false) (hj : np j = false) (hij : i ≠ j) (h : trS K T np (sPar i j f g) W D σ H) :
    tr K T (relE K T) f W σ H fun v H1 => tr K T (relE K T) g W σ H1 fun w H2 => D.nx ((σ.set i (some v)).set j (some w)) H2 := by
  obtain ⟨ex, env, gd, r, er, o⟩ := h
  refine ⟨ex, env, gd, ?_⟩
  unfold sPar at er
  cases q : f env with
  | none => rw [q] at er; cases er
  | some ra =>
    rw [q] at er
    refine ⟨ra, rfl, ?_⟩
    cases ra with
    | exc x e1 => cases er; exact fun c d H' s rx => o c d σ H' s.s rx
    | ok av e1 =>
      intro v H1 s1 r1
      dsimp only at er
      cases q2 : g e1 with
      | none => rw [q2] at er; cases er
      | some rb =>
        rw [q2] at er
        cases av with
        | v d =>
          refine ⟨ex, e1, s1.gd, rb, q2, ?_⟩
          cases rb with
          | exc x e2 => cases er; exact fun c d H' s rx => o c d σ H' (s1.trans s).s rx
          | ok bv e2 =>
            cases er
            intro w H2 s2 r2
            have t2 := Good.storeS (np := np) hj (s2.s) (RepE.r s1.gd s2 r2)
            have t3 := Good.storeS (np := np) (ev := .v d) hi (s1.s.trans t2) (t2.rep (Rep.step r1 (Step.refl s1.gd)))
            rw [List.set_comm _ _ (Ne.symm hij)] at t3
            exact o _ _ t3
        | o c =>
          obtain ⟨a1, rfl, n1, ro, gx⟩ := r1
          refine ⟨_, e1, gx, rb, q2, ?_⟩
          cases rb with
          | exc x e2 =>
            cases er
            intro cc d H' s rx
            refine o cc d σ H' (s1.trans s.less).s ⟨rx.1, rx.2.imp id ?_⟩
            rintro ⟨z, ws, h1, h2, l, rr⟩
            exact ⟨z, ws, h1, h2, l, rr.mono fun b o n e => ⟨fun z => n (z.imp .inl id), e⟩⟩
          | ok bv e2 =>
            cases er
            intro w H2 s2 r2
            have t2 := Good.storeS (np := np) hj (s2.s) (RepE.r gx s2 r2)
            have ha1 : H1 a1 ≠ none := gx.dom a1 (.inr rfl)
            have na : ¬ Owns σ e1 a1 := fun z => (gx.owned z).2 (.inr rfl)
            have hk : H2 a1 = H1 a1 := by
              cases q3 : H1 a1 with
              | none => exact absurd q3 ha1
              | some oo => exact t2.fr a1 oo q3 na (ro.nt q3)
            have t3 := Good.storeS (np := np) (v := .ref a1) (ev := .o c) hi (s1.s.trans t2.less) ⟨a1, rfl, fun z => gd.dom a1 z n1, fun z => (t2.gd.owned z).2 (.inr rfl), .inr n1, ro.monoT hk fun b o n e => ⟨fun z => ?_, t2.fr b o e fun z => n (.inl (.inr z))⟩, t2.gd⟩
            · rw [List.set_comm _ _ (Ne.symm hij)] at t3
              exact o _ _ t3
            · rcases z with (z | z) | z
              · exact n (.inl (.inl z))
              · rcases t2.owns z with z | z
                · exact n (.inl (.inr z))
                · rw [z] at e; cases e
              · exact n (.inr z)
theorem qs_par (i j : Nat) (hc : X.calm = true) (hN : X.N.Nodup) (ha : QE T X a f) (hb : QE T X b g) (hij : i ≠ j := by decide) (hi : X.N[i]? = some x := by rfl) (hj : X.N[j]? = some y := by rfl) (hnp : np i = false := by rfl) (hnq : np j = false := by rfl)
    (hx : X.env.scope.names.lookup x = some .local := by rfl) (hy : X.env.scope.names.lookup y = some .local := by rfl)
    (hw : swappedStores [.Tuple [.Name x px, .Name y py] kt pt] (.Tuple [a, b] k2 pt2) X.env = pure (some [x, y]) := by rfl)
    (hs : swapsWithSole [.Tuple [.Name x px, .Name y py] kt pt] (.Tuple [a, b] k2 pt2) pos.line X.env = pure false := by rfl)
    (h1 : starEach [a, b] X.env = (false, eval a X.env) :: starEach [b] X.env := by rfl) (h2 : starEach [b] X.env = (false, eval b X.env) :: starEach [] X.env := by rfl) :
    QS T X np (.Assign [.Tuple [.Name x px, .Name y py] kt pt] (.Tuple [a, b] k2 pt2) pos) (sPar i j f g) := fun pn xe W tk hp =>
  impS (ps_par (X := X.tr pn xe) hc hN hi hj hij hx hy (pa_cons (ha pn xe W tk hp) (pa_cons (hb pn xe W tk hp) pa_nil h2) h1) hw hs) fun D σ H q => by
    obtain ⟨ex, env, z⟩ := tr_par hnp hnq hij q
    exact ⟨ex, env, z.mono fun v H1 ⟨ex2, env2, z2⟩ => ⟨ex2, env2, z2.mono fun w H2 k => ⟨v, w, rfl, k⟩⟩⟩
end
/-! ### x, y, z = a, b, c: values that nobody owns -/
def st3 (i j l : Nat) : Option (List D) → S
  | some [a, b, c] => fun env => some (.nx (((env.set i (.val a)).set j (.val b)).set l (.val c)))
  | _ => fun _ => none
section
variable {T : Tab} {X : Cx} {np : Nat → Bool} {x y z : Str} {a b c : Expr} {px py pz pt pos : Pos} {kt k2 : Nat} {pt2 : Pos} {fs : M (List AV)}
end

/-! ### list(range(..)), tuple(range(..)) -/
def rgD (lo hi : Int) : List D := (List.range (hi - lo).toNat).map fun (i : Nat) => D.int (lo + (i : Int))
def rg1 (lst : Bool) : List D → Option EV
  | [.int n] => if small62 n = true then some (if lst = true then .o (.lst (rgD 0 n)) else .v (.tup (rgD 0 n))) else none
  | _ => none
section
variable {T : Tab} {X : Cx} {a b : Expr} {p p2 q pos : Pos} {fa fb : M AV} {fs : M (List AV)}
theorem rg_rep {K : PySem.W.Frag} {ex : Addr → Prop} {H : Hp} (a b : Int) : RepL K T ex H (rgD a b) (rgV a b) := by
  unfold rgD rgV
  generalize (b - a).toNat = n
  generalize List.range n = l
  induction l with
  | nil => exact rfl
  | cons i l ih => exact ⟨_, _, rfl, rfl, ih⟩
theorem small_ok {a b : Int} (ha : small62 a = true) (hb : small62 b = true) : RgOk a b := by
  have h1 := of_decide_eq_true ha
  have h2 := of_decide_eq_true hb
  exact ⟨by omega, by omega, by omega, by omega, by omega⟩
theorem as_one {K : PySem.W.Frag} {ex : Addr → Prop} {σ : St} {H : Hp} {env : Sl} {W : WX} {Q : VK} {op : List D → Option EV} (h : trx K T (relE K T) ex (eB op (asCons fa asNil)) env W σ H Q) :
    trx K T (relA K T) ex fa env W σ H fun v H1 => rB K T op [v] H1 Q := by
  refine (trx_bind (relA K T) rmAs (trx_bind (relAs K T) rmE h)).mono fun v H1 ⟨av, env1, s, ra, g, rr, er, oo⟩ => ?_
  have oo2 : Out K T (relAs K T) ex env1 W σ H1 (fun vs H2 => ∃ as env2, Step K T ex σ H env H2 env2 ∧ relAs K T ex σ env2 H H2 vs as ∧ trx K T (relE K T) ex (bM op as) env2 W σ H2 Q) rr := oo
  cases er
  obtain ⟨as, env2, s2, rs, q⟩ := oo2 [v] H1 (Step.refl g) (.cons ra .nil)
  exact trx_b q rs
theorem rg_new {K : PySem.W.Frag} {ex : Addr → Prop} {H : Hp} {Q : VK} {lo hi : Int} (dm : ∀ a, ex a → H a ≠ none) (k : ∀ v H', Ext H H' → RepV K T ex H H' v (.o (.lst (rgD lo hi))) → Q v H') : ∀ q, H q = none → Q (.ref q) (upd H q (.lst (rgV lo hi))) := fun q hq =>
  k _ _ (ext_new hq) ⟨q, rfl, hq, rep_newL hq (rg_rep lo hi)⟩
theorem rg1_inv {l : Bool} {ds : List D} {ev : EV} (e : rg1 l ds = some ev) : ∃ n, ds = [.int n] ∧ small62 n = true ∧ ev = (if l = true then .o (.lst (rgD 0 n)) else .v (.tup (rgD 0 n))) := by
  unfold rg1 at e
  split at e
  · split at e
    · cases e; exact ⟨_, rfl, by assumption, rfl⟩
    · cases e
  · cases e
theorem qe_listRg1 (hc : X.calm = true) (hg : Gl X "list") (hm : X.mg "list" = none) (hgr : Gl X "range") (hmr : X.mg "range" = none) (h : QO T X a fa) (na : starEach [a] X.env = (false, eval a X.env) :: starEach [] X.env := by rfl)
    (nb : starEach [.Call (.Name "range" p2) [a] [] q] X.env = (false, eval (.Call (.Name "range" p2) [a] [] q) X.env) :: starEach [] X.env := by rfl) : QE T X (.Call (.Name "list" p) [.Call (.Name "range" p2) [a] [] q] [] pos) (eB (rg1 true) (asCons fa asNil)) := fun pn xe W tk hp =>
  impE (pe_listRg (X := X.tr pn xe) hc hg hm (prg_1 (X := X.tr pn xe) hgr hmr (h pn xe W tk hp) na) nb) fun σ H Q ⟨ex, env, z⟩ => ⟨ex, env, (as_one z).mono fun v H1 ⟨ex, ds, ev, dm, r, e, k⟩ => by
    obtain ⟨n, rfl, hn, rfl⟩ := rg1_inv e
    obtain ⟨w, hw, rd⟩ := one_of r
    cases hw
    exact ⟨n, rd, small_ok (by decide) hn, rg_new dm k⟩⟩
end
end Dt
end
section
set_option maxRecDepth 100000
set_option maxHeartbeats 4000000
/-! QY: dicts made of pairs, displayed; texts and lists repeated. -/
namespace Dt
open PySem PySem.Spec L2
open PyProof.Rows hiding St

section
variable {K : PySem.W.Frag} {T : Tab} {ex : Addr → Prop} {H : Hp}
end
/-! ### {k: e} -/
section
variable {T : Tab} {X : Cx} {k e : Expr} {pos : Pos} {fk fv : M AV}
end

/-! ### repeats -/
def repS (s : List Nat) (n : Int) : List Nat := (List.replicate n.toNat s).flatten
def mulS : D → D → Option EV := fun x y => match x, y with
  | .str s, .int n => if (s.length ≤ 100 ∧ 1 ≤ s.length) ∧ -1000 ≤ n ∧ n ≤ 1000 then some (.v (.str (repS s n))) else none
  | _, _ => none
def mulL : D → D → Option EV := fun x y => match x, y with
  | .lst xs, .int n => if xs.length ≤ 1000 ∧ -1000 ≤ n ∧ n ≤ 1000 then some (.o (.lst (List.replicate n.toNat xs).flatten)) else none
  | _, _ => none
def mulT : D → D → Option EV := fun x y => match x, y with
  | .tup xs, .int n => if (1 ≤ xs.length ∧ xs.length ≤ 1000) ∧ 2 ≤ n ∧ n ≤ 1000 then some (.v (.tup (List.replicate n.toNat xs).flatten)) else none
  | _, _ => none
theorem mul_txt (s : List Nat) (n : Int) (h : 1 ≤ s.length) : Txt.mul (mkS s) n = mkS (repS s n) := by
  unfold Txt.mul repS
  by_cases h1 : n < 1
  · rw [if_pos h1]
    have : n.toNat = 0 := by omega
    rw [this]; rfl
  · rw [if_neg h1]
    by_cases h2 : n = 1
    · subst h2
      simp
    · have e : (n == 1 || (mkS s).length == 0) = false := by
        rw [Bool.or_eq_false_iff]
        exact ⟨beq_eq_false_iff_ne.mpr h2, beq_eq_false_iff_ne.mpr (by rw [mkS_len]; omega)⟩
      rw [if_neg (by rw [e]; exact Bool.false_ne_true)]
      have key : ∀ (k : Nat) (acc : Array Nat), (List.replicate k s.toArray).foldl (· ++ ·) acc = acc ++ ((List.replicate k s).flatten).toArray := fun k => by
        induction k with
        | zero => intro acc; simp
        | succ k ih =>
          intro acc
          rw [List.replicate_succ, List.foldl_cons, ih, List.replicate_succ, List.flatten_cons]
          simp
      show (⟨_⟩ : Str) = ⟨_⟩
      congr 1
      have := key n.toNat #[]
      simp only [Array.empty_append] at this
      exact this
section
variable {X : Cx} {T : Tab}
theorem op_mulS : OpR X (binaryOp .Mult) (rQ X.K T mulS) := by
  intro pins s σ H x y v u Q I rx ry ⟨ex, d1, d2, ev, dm, r1, r2, e, k⟩
  unfold mulS at e
  split at e
  · rename_i z n
    split at e
    · rename_i h
      cases e
      cases (show x = V.str (mkS z) from r1)
      cases (show y = V.int n from r2)
      obtain ⟨t, rfl⟩ := rx
      obtain ⟨t', rfl⟩ := ry
      have hl := mkS_len z
      refine SB.mul ⟨by rw [Bool.or_eq_false_iff]; exact ⟨decide_eq_false (by omega), decide_eq_false (by omega)⟩, fun h1 _ => ?_, fun h1 _ => ?_⟩ fun t' tk => ⟨.str (Txt.mul (mkS z) n), H, I.tok tk, ⟨_, rfl⟩, k _ H ext_refl ?_⟩
      · rw [hl]
        have : (100 : Int) ≤ (2 ^ 63 - 1) / n := by
          rw [Int.le_ediv_iff_mul_le (by omega)]
          omega
        omega
      · unfold Builtin.Str.tooLong
        rw [hl]
        have h2 : z.length * n.toNat ≤ 100 * 1000 := Nat.mul_le_mul h.1.1 (by omega)
        have := sizeLine_eq
        first
        | (simp only [decide_eq_false_iff_not]; omega)
        | (refine decide_eq_false ?_; omega)
      · show V.str _ = V.str _
        rw [mul_txt z n h.1.2]
    · cases e
  · cases e
theorem op_mulL : OpR X (binaryOp .Mult) (rQ X.K T mulL) := op_of op_rep fun x y H Q ⟨ex, d1, d2, ev, dm, r1, r2, e, k⟩ => by
  unfold mulL at e
  split at e
  · split at e
    · rename_i xs n h
      cases e
      obtain ⟨a, vs, rfl, h1, h2⟩ := r1
      have hz : vs.length * n.toNat ≤ 1000 * 1000 := Nat.mul_le_mul (by rw [← h2.length]; exact h.1) (by omega)
      refine ⟨a, n, vs, rfl, r2, h1, by omega, by omega, by rw [sizeLine_eq]; omega, fun p hp => k _ _ (ext_new hp) ⟨p, rfl, hp, rep_newL hp (h2.rep _)⟩⟩
    · cases e
  · cases e
theorem op_mulT : OpR X (binaryOp .Mult) (rQ X.K T mulT) := op_of op_repT fun x y H Q ⟨ex, d1, d2, ev, dm, r1, r2, e, k⟩ => by
  unfold mulT at e
  split at e
  · split at e
    · rename_i xs n h
      cases e
      obtain ⟨a, vs, rfl, _, h1, h2⟩ := r1
      have hl := h2.length
      refine ⟨a, n, vs, rfl, r2, .of h1, fun z => by rw [z, List.length_nil] at hl; omega, by omega, by omega, by omega, fun p hp => k _ _ (ext_new hp) ⟨p, _, rfl, fun z => dm p z hp, upd_same, (h2.rep _).mono fun b o nb e => ⟨nb, ext_new hp b o e⟩⟩⟩
    · cases e
  · cases e
theorem op_mulQ : OpR X (binaryOp .Mult) (rQ X.K T (orD mulI (orD mulS (orD mulL mulT)))) := op_or op_mulI (op_or op_mulS (op_or op_mulL op_mulT))
end
def mulD := orD mulI (orD mulS (orD mulL mulT))
end Dt
end
section
set_option maxRecDepth 100000
set_option maxHeartbeats 4000000
/-! QS: enumerate and zip over lists, tuples, texts. -/
namespace Dt
open PySem PySem.Spec L2
open PyProof.Rows hiding St
/-- what is walked beneath: a list, a tuple, a text -/
inductive Sr where
  | l (a : Addr) (xs : List V) | t (a : Addr) (xs : List V) | s (z : Str)
def Sr.its : Sr → List V
  | .l _ xs => xs
  | .t _ xs => xs
  | .s z => z.cps.toList.map fun c => .str ⟨#[c]⟩
def Sr.ad : Sr → List Addr
  | .l a _ => [a]
  | .t a _ => [a]
  | .s _ => []
def Sr.at_ (K : PySem.W.Frag) (H : Hp) : Sr → Prop
  | .l a xs => SqL K H a xs
  | .t a xs => SqT K H a xs
  | .s _ => True
def Sr.of : Sr → V
  | .l a _ => .ref a
  | .t a _ => .ref a
  | .s z => .str z
/-- its iterator behind i turns -/
def Sr.stt (S : Sr) (tk : Tok) (it : Addr) (i : Nat) (h : Heap) : Prop := match S with
  | .l a _ => h.IsListIter it a i
  | .t a _ => h.IsTupleIter it a i
  | .s z => h.IsStrIter it (strIterType z) z tk i
def IterCls (c : Value) : Prop := c = .type "list_iterator" ∨ c = .type "tuple_iterator" ∨ c = .type "str_ascii_iterator" ∨ c = .type "str_iterator"
theorem Sr.live {S : Sr} {tk : Tok} {it : Addr} {i : Nat} {h : Heap} (st : S.stt tk it i h) : ∃ o, h.get? it = some o ∧ IterCls o.cls ∧ ∀ v, o.data ≠ .cell v := by
  cases S with
  | l a xs => obtain ⟨o, e, c, d⟩ := st; exact ⟨o, e, .inl c, fun v q => by rw [d] at q; cases q⟩
  | t a xs => obtain ⟨o, e, c, d⟩ := st; exact ⟨o, e, .inr (.inl c), fun v q => by rw [d] at q; cases q⟩
  | s z =>
    obtain ⟨o, e, c, d⟩ := st
    refine ⟨o, e, ?_, fun v q => by rw [d] at q; cases q⟩
    unfold strIterType at c
    split at c
    · exact .inr (.inr (.inl c))
    · exact .inr (.inr (.inr c))
theorem Sr.keep {S : Sr} {tk : Tok} {it : Addr} {i : Nat} {h h' : Heap} (st : S.stt tk it i h) (k : ∀ o, h.get? it = some o → h'.get? it = some o) : S.stt tk it i h' := by
  cases S with
  | l a xs => exact st.at fun o e => k o e
  | t a xs => exact st.at fun o e => k o e
  | s z => obtain ⟨o, e, r⟩ := st; exact ⟨o, k o e, r⟩
theorem vals_inv : ∀ {xs : List V} {us : List Value} {i : Nat} {u : Value}, Vals xs us → us[i]? = some u → ∃ x, xs[i]? = some x ∧ RelV x u
  | _, _, _, _, .nil, e => by simp at e
  | _, _, 0, _, .cons r _, e => by simp at e; subst e; exact ⟨_, rfl, r⟩
  | _, _, i + 1, x, .cons _ t, e => by
    simp at e
    obtain ⟨v, h1, h2⟩ := vals_inv t e
    exact ⟨v, by simpa using h1, h2⟩
theorem Sr.draws {S : Sr} {X : Cx} {pins : List (Addr × Obj)} {σ : St} {H : Hp} {s : Shared} {A : Around} {it : Addr} {tk : Tok} {i : Nat} (hh : A.handled = none) (I : Inv X pins σ H s) (ha : S.at_ X.K H) (st : S.stt tk it i s.heap) :
    ∃ (fp : List Addr) (Pv : Nat → Value → Prop) (Sn : Nat → Heap → Prop), Draws X.prog X.w A it fp S.its.length Pv Sn ∧ Sn i s.heap ∧ it ∈ fp ∧ (∀ b ∈ fp, b = it ∨ (b ∈ S.ad ∧ ∃ o, s.heap.get? b = some o ∧ (o.cls = .type "list" ∨ o.cls = .type "tuple"))) ∧
      (∀ j x, Pv j x → ∃ v, S.its[j]? = some v ∧ RelV v x) ∧ ∀ j h', Sn j h' → S.stt tk it j h' := by
  cases S with
  | l a xs =>
    obtain ⟨its, rv, p, _⟩ := I.list ha
    have hl := p.isList
    have hne : a ≠ it := fun e => by
      subst e
      obtain ⟨o, e1, c1, _⟩ := st
      obtain ⟨o2, e2, c2, _⟩ := hl
      rw [e1] at e2; cases e2
      rw [c1] at c2; exact absurd c2 (by decide)
    have hlen : its.toArray.size = xs.length := by simp [rv.length]
    refine ⟨[it, a], _, _, hlen ▸ Draws.list hh it a hne its.toArray, ⟨st, hl⟩, by simp, fun b hb => ?_, fun j x hx => ?_, fun j h' q => q.1⟩
    · rcases List.mem_cons.mp hb with e | e
      · exact .inl e
      · obtain ⟨o, e1, c1, _⟩ := hl
        exact .inr ⟨e, o, by rw [List.mem_singleton.mp e]; exact e1, .inl c1⟩
    · exact vals_inv rv (by simpa using hx)
  | t a xs =>
    obtain ⟨its, rv, hl, _⟩ := I.tuple ha
    have hne : a ≠ it := fun e => by
      subst e
      obtain ⟨o, e1, c1, _⟩ := st
      obtain ⟨o2, e2, c2, _⟩ := hl
      rw [e1] at e2; cases e2
      rw [c1] at c2; exact absurd c2 (by decide)
    have hlen : its.toArray.size = xs.length := by simp [rv.length]
    refine ⟨[it, a], _, _, hlen ▸ Draws.tuple hh it a hne its.toArray, ⟨st, hl⟩, by simp, fun b hb => ?_, fun j x hx => ?_, fun j h' q => q.1⟩
    · rcases List.mem_cons.mp hb with e | e
      · exact .inl e
      · obtain ⟨o, e1, c1, _⟩ := hl
        exact .inr ⟨e, o, by rw [List.mem_singleton.mp e]; exact e1, .inr c1⟩
    · exact vals_inv rv (by simpa using hx)
  | s z =>
    have hlen : z.cps.size = (Sr.s z).its.length := by simp [Sr.its]
    refine ⟨[it], _, _, hlen ▸ Draws.text hh it z tk, st, by simp, fun b hb => .inl (by simpa using hb), fun j x hx => ?_, fun j h' q => q⟩
    obtain ⟨c, u, h1, rfl⟩ := hx
    exact ⟨.str ⟨#[c]⟩, by simp [Sr.its, h1], ⟨u, rfl⟩⟩
/-- a walker of pairs, as a turn -/
theorem turn_pairs {P : Program} {w : World} {K : PySem.W.Frag} {elts : List Expr} {kk : Nat} {tpos : Pos} {J : It} {fpT : List Addr} {it : Addr} {tn : Nat → Heap → Prop} (mem : it ∈ fpT)
    (obj : ∀ i h, tn i h → ∀ b ∈ fpT, ∃ o, h.get? b = some o ∧ ∀ v, o.data ≠ .cell v) (keep : ∀ i h h', tn i h → (∀ b ∈ fpT, ∀ o, h.get? b = some o → h'.get? b = some o) → tn i h')
    (self : ∀ (A : Around) (i : Nat) (s : Shared) (Q : Value → Shared → Prop) (E : Value → Shared → Prop), tn i s.heap → Q (.ref it) s → wpAny (model P w) A (pyIter (.ref it)) Q E s)
    (opn : ∀ (X : Cx), X.prog = P → X.w = w → X.K = K → X.calm = true → ∀ (i : Nat) (pins : List (Addr × Obj)) (s : Shared) (σ : St) (H : Hp), Inv X pins σ H s → (∀ b ∈ fpT, FpOk X pins H b) → tn i s.heap → (J.go i H ∨ J.stop i H) →
      ∃ (fp wr : List Addr) (n : Nat) (Pt : Nat → Array Value → Prop) (Sn : Nat → Heap → Prop) (Mid : Nat → Addr → Heap → Prop), WalksT P w X.A it fp wr n Pt Sn Mid ∧ Sn i s.heap ∧ (∀ b ∈ wr, b ∈ fpT) ∧ (J.go i H → i < n) ∧ (J.stop i H → i = n) ∧
        (∀ vals, Pt i vals → ∃ v1 v2 u1 u2, vals = #[u1, u2] ∧ RelV v1 u1 ∧ RelV v2 u2 ∧ ∀ T, H T = none → J.yld i H (.ref T) (upd H T (.tup [v1, v2]))) ∧ ∀ h', Sn (i + 1) h' → tn (i + 1) h') :
    Turn P w K (.Tuple elts kk tpos) J fpT it tn where
  mem := mem
  obj := obj
  keep := keep
  item := by
    intro X hP hw hK hc i pins s σ H E I hf st hg
    subst hP hw hK
    obtain ⟨fp, wr, n, Pt, Sn, Mid, W, s0, sub, g1, _, y, nx⟩ := opn X rfl rfl rfl hc i pins s σ H I hf st (.inl hg)
    refine W.item i s _ E (g1 hg) s0 fun T vals h' tk hP hsz hT hmid hfr => ⟨.ref T, rfl, W.go elts kk tpos i T _ _ _ hmid fun h'' st'' fr'' => ?_⟩
    obtain ⟨v1, v2, u1, u2, rfl, r1, r2, yl⟩ := y vals hP
    have hTw := W.apart i T h' hmid
    have hT2 : h''.IsTuple T #[u1, u2] := by obtain ⟨o, e, c⟩ := hT; exact ⟨o, fr'' T o hTw e, c⟩
    have hn : H T = none := I.hok.fresh hsz
    have new : ObjOk X.prog X.w (upd H T (.tup [v1, v2])) h'' T (.tup [v1, v2]) := ⟨by show 2 ≤ sizeLine; decide, [u1, u2], .cons r1 (.cons r2 .nil), hT2⟩
    refine ⟨.ref T, _, I.turnedNew (t' := tk) (ch := wr) (fun b o hb q => fr'' b o hb (hfr b o hb q)) (fun b hb => hf b (sub b hb)) hsz new, rfl, yl T hn, nx _ st'', fun b hb => ?_⟩
    obtain ⟨o, e, _⟩ := obj i _ st b hb
    rw [upd_ne (Nat.ne_of_lt (Nat.lt_of_lt_of_le (Heap.lt_size e) hsz))]
    exact (hf b hb).1
  done := by
    intro X hP hw hK hc i pins s σ H E I hf st hg
    subst hP hw hK
    obtain ⟨fp, wr, n, Pt, Sn, Mid, W, s0, sub, _, g2, _, _⟩ := opn X rfl rfl rfl hc i pins s σ H I hf st (.inr hg)
    rw [g2 hg] at s0
    exact W.done s _ E s0 fun h' tk fr => ⟨rfl, I.turnedL (t' := tk) (ch := wr) fr fun b hb => hf b (sub b hb)⟩
  self := self
/-- enumerate over it, the items in new pairs -/
def ItE (K : PySem.W.Frag) (S : Sr) : It := ⟨fun i H => S.at_ K H ∧ i < S.its.length, fun i H v H' => ∃ T x, v = .ref T ∧ H T = none ∧ H' = upd H T (.tup [.int (i : Nat), x]) ∧ S.its[i]? = some x, fun i H => S.at_ K H ∧ i = S.its.length⟩
theorem turn_enumS {P : Program} {w : World} {K : PySem.W.Frag} {elts : List Expr} {kk : Nat} {tpos : Pos} (S : Sr) (tk : Tok) {e it : Addr} (hei : e ≠ it) :
    Turn P w K (.Tuple elts kk tpos) (ItE K S) [e, it] e (fun i h => (∃ old, IsEnum h e it ((i : Nat) : Int) old) ∧ S.stt tk it i h) := by
  refine turn_pairs (by simp) (fun i h st b hb => ?_) (fun i h h' st k => ?_) (fun A i s Q E st h => let ⟨⟨_, he⟩, _⟩ := st; wpAny_pyIter_enum he h) ?_
  · obtain ⟨⟨old, he⟩, st⟩ := st
    have e' : b = e ∨ b = it := by simpa using hb
    rcases e' with rfl | rfl
    · exact ⟨_, he, fun v q => nomatch q⟩
    · obtain ⟨o, e1, _, e2⟩ := Sr.live st; exact ⟨o, e1, e2⟩
  · obtain ⟨⟨old, he⟩, st⟩ := st
    exact ⟨⟨old, k e (by simp) _ he⟩, Sr.keep st fun o q => k it (by simp) o q⟩
  · intro X hP hw hK hc i pins s σ H I hf st hg
    subst hP hw hK
    obtain ⟨⟨old, he⟩, st⟩ := st
    have ha : S.at_ X.K H := hg.elim (·.1) (·.1)
    obtain ⟨fp, Pv, Sn, D, s0, hif, hfp, hy, hn⟩ := Sr.draws (A := X.A.in1) (I.ok.hd hc) I ha st
    have hef : e ∉ fp := fun q => by
      rcases hfp e q with q | ⟨_, o, q1, q2⟩
      · exact hei q
      · have he' : s.heap.get? e = some _ := he
        rw [he'] at q1; cases q1
        rcases q2 with q2 | q2 <;> simp at q2
    refine ⟨_, _, _, _, _, _, WalksT.enumerateD D e hei hef hif, ⟨⟨old, he⟩, s0⟩, fun b hb => by simpa using hb, fun q => q.2, fun q => q.2, ?_, fun h' q => ⟨q.1, hn _ _ q.2⟩⟩
    rintro vals ⟨t, x, hx, rfl⟩
    obtain ⟨v, hv, rv⟩ := hy _ _ hx
    exact ⟨.int (i : Nat), v, .int i t, x, rfl, ⟨_, rfl⟩, rv, fun T hT => ⟨T, v, rfl, hT, rfl, hv⟩⟩
/-- zip over two of them -/
def ItZ (K : PySem.W.Frag) (S1 S2 : Sr) : It := ⟨fun i H => (S1.at_ K H ∧ S2.at_ K H) ∧ i < min S1.its.length S2.its.length, fun i H v H' => ∃ T x y, v = .ref T ∧ H T = none ∧ H' = upd H T (.tup [x, y]) ∧ S1.its[i]? = some x ∧ S2.its[i]? = some y, fun i H => (S1.at_ K H ∧ S2.at_ K H) ∧ i = min S1.its.length S2.its.length⟩
theorem turn_zipS {P : Program} {w : World} {K : PySem.W.Frag} {elts : List Expr} {kk : Nat} {tpos : Pos} (S1 S2 : Sr) (t1 t2 : Tok) {z TI TO i1 i2 : Addr} (nd : [z, TI, TO, i1, i2].Nodup) (d1 : ∀ b ∈ S1.ad, b ∉ [z, TI, TO, i1, i2]) (d2 : ∀ b ∈ S2.ad, b ∉ [z, TI, TO, i1, i2]) :
    Turn P w K (.Tuple elts kk tpos) (ItZ K S1 S2) [z, TI, TO, i1, i2] z (fun i h => IsZip h z TI TO .none ∧ IsTupOf2 h TI (.ref i1) (.ref i2) ∧ (∃ a1 a2, IsTupOf2 h TO a1 a2) ∧ S1.stt t1 i1 i h ∧ S2.stt t2 i2 i h) := by
  simp only [List.nodup_cons, List.mem_cons, List.not_mem_nil, or_false, not_or] at nd d1 d2
  obtain ⟨⟨n1, n2, n3, n4⟩, ⟨n5, n6, n7⟩, ⟨n8, n9⟩, n10, _⟩ := nd
  refine turn_pairs (by simp) (fun i h st b hb => ?_) (fun i h h' st k => ?_) (fun A i s Q E st h => wpAny_pyIter_zip st.1 h) ?_
  · obtain ⟨hz, hTI, ⟨a1, a2, hTO⟩, s1, s2⟩ := st
    have e' : b = z ∨ b = TI ∨ b = TO ∨ b = i1 ∨ b = i2 := by simpa using hb
    rcases e' with rfl | rfl | rfl | rfl | rfl
    · exact ⟨_, hz, fun v q => nomatch q⟩
    · exact ⟨_, hTI, fun v q => nomatch q⟩
    · exact ⟨_, hTO, fun v q => nomatch q⟩
    · obtain ⟨o, e1, _, e2⟩ := Sr.live s1; exact ⟨o, e1, e2⟩
    · obtain ⟨o, e1, _, e2⟩ := Sr.live s2; exact ⟨o, e1, e2⟩
  · obtain ⟨hz, hTI, ⟨a1, a2, hTO⟩, s1, s2⟩ := st
    exact ⟨k z (by simp) _ hz, k TI (by simp) _ hTI, ⟨a1, a2, k TO (by simp) _ hTO⟩, Sr.keep s1 fun o q => k i1 (by simp) o q, Sr.keep s2 fun o q => k i2 (by simp) o q⟩
  · intro X hP hw hK hc i pins s σ H I hf st hg
    subst hP hw hK
    obtain ⟨hz, hTI, hTO, s1, s2⟩ := st
    have ha : S1.at_ X.K H ∧ S2.at_ X.K H := hg.elim (·.1) (·.1)
    obtain ⟨fp1, Pv1, Sn1, D1, o1, m1, f1, y1, x1⟩ := Sr.draws (A := X.A.in1) (I.ok.hd hc) I ha.1 s1
    obtain ⟨fp2, Pv2, Sn2, D2, o2, m2, f2, y2, x2⟩ := Sr.draws (A := X.A.in1) (I.ok.hd hc) I ha.2 s2
    have sep : ∀ b ∈ fp1, b ≠ z ∧ b ≠ TO ∧ b ≠ TI ∧ b ≠ i2 := fun b hb => by
      rcases f1 b hb with rfl | ⟨q, _⟩
      · exact ⟨fun q => n3 q.symm, fun q => n8 q.symm, fun q => n6 q.symm, n10⟩
      · have := d1 b q; exact ⟨this.1, this.2.2.1, this.2.1, this.2.2.2.2⟩
    have sep2 : ∀ b ∈ fp2, b ≠ z ∧ b ≠ TO ∧ b ≠ TI ∧ b ≠ i1 := fun b hb => by
      rcases f2 b hb with rfl | ⟨q, _⟩
      · exact ⟨fun q => n4 q.symm, fun q => n9 q.symm, fun q => n7 q.symm, fun q => n10 q.symm⟩
      · have := d2 b q; exact ⟨this.1, this.2.2.1, this.2.1, this.2.2.2.1⟩
    have SP : ZipSep2 z TI TO i1 i2 fp1 fp2 := ⟨fun q => n1 q.symm, fun q => n2 q.symm, n5, n6, m1, fun q => (sep z q).1 rfl, fun q => (sep TO q).2.1 rfl, n7, m2, fun q => (sep2 z q).1 rfl, fun q => (sep2 TO q).2.1 rfl, fun q => (sep2 i1 q).2.2.2 rfl, fun q => (sep i2 q).2.2.2 rfl⟩
    refine ⟨_, _, _, _, _, _, WalksT.zipD2 SP D1 D2, ⟨hz, hTI, hTO, o1, o2⟩, fun b hb => ?_, fun q => q.2, fun q => q.2, ?_, fun h' q => ⟨q.1, q.2.1, q.2.2.1, x1 _ _ q.2.2.2.1, x2 _ _ q.2.2.2.2⟩⟩
    · have : b = z ∨ b = TO ∨ b = i1 ∨ b = i2 := by simpa using hb
      rcases this with rfl | rfl | rfl | rfl <;> simp
    · rintro vals ⟨u1, u2, h1, h2, rfl⟩
      obtain ⟨v1, e1, r1⟩ := y1 _ _ h1
      obtain ⟨v2, e2, r2⟩ := y2 _ _ h2
      exact ⟨v1, v2, u1, u2, rfl, r1, r2, fun T hT => ⟨T, v1, v2, rfl, hT, rfl, e1, e2⟩⟩
end Dt
end
section
set_option maxRecDepth 100000
set_option maxHeartbeats 4000000
/-! QT: enumerate and zip as walks. -/
namespace Dt
open PySem PySem.Spec L2
open PyProof.Rows hiding St
def Sr.lim : Sr → Prop
  | .l _ xs => xs.length ≤ sizeLine
  | .t _ xs => xs.length ≤ sizeLine
  | .s _ => True
/-- iter of what is walked -/
theorem Sr.begins {S : Sr} {X : Cx} {pins : List (Addr × Obj)} {σ : St} {H : Hp} {s : Shared} {u : Value} (I : Inv X pins σ H s) (ha : S.at_ X.K H) (r : RelV S.of u) :
    ∃ (o : Obj) (Hs : Heap → Prop) (tk : Tok), Begins u o Hs ∧ Hs s.heap ∧ S.lim ∧ (∀ (h : Heap) (a : Addr), h.get? a = some o → S.stt tk a 0 h) ∧ (∀ b ∈ S.ad, b < s.heap.objs.size) := by
  cases S with
  | l a xs =>
    obtain ⟨its, rv, p, hz⟩ := I.list ha
    cases r
    refine ⟨_, _, 0, begins_list a its.toArray, p.isList, hz, fun h b e => ⟨_, e, rfl, rfl⟩, fun b hb => ?_⟩
    obtain ⟨o, e, _⟩ := p.isList
    rw [List.mem_singleton.mp hb]
    exact Heap.lt_size e
  | t a xs =>
    obtain ⟨its, rv, p, hz⟩ := I.tuple ha
    cases r
    have p' : s.heap.IsTuple a its.toArray := p
    refine ⟨_, _, 0, begins_tuple a its.toArray, p', hz, fun h b e => ⟨_, e, rfl, rfl⟩, fun b hb => ?_⟩
    obtain ⟨o, e, _⟩ := p'
    rw [List.mem_singleton.mp hb]
    exact Heap.lt_size e
  | s z =>
    obtain ⟨t, rfl⟩ := r
    exact ⟨_, _, t, begins_text z t, trivial, trivial, fun h b e => ⟨_, e, rfl, rfl⟩, fun b hb => by cases hb⟩
section
variable {X : Cx} {e e2 : Expr} {ta : TA} {p pos tpos : Pos} {elts : List Expr} {kk : Nat}
def iZipS (K : PySem.W.Frag) (ta : TA) : TI := fun σ H R => ta σ H fun vs H1 => ∃ S1 S2 : Sr, vs = [S1.of, S2.of] ∧ S1.at_ K H1 ∧ S2.at_ K H1 ∧ (S1.lim → S2.lim → R (ItZ K S1 S2) H1)
theorem pi_zipS (hg : Gl X "zip") (hm : X.mg "zip" = none) (ha : PA X [e, e2] ta)
    (hs : starEach [e, e2] X.env = (false, eval e X.env) :: starEach [e2] X.env := by rfl) (hpl : (backTo pos (starEach [e2] X.env)).any (·.1) = false := by rfl) : PI X (.Tuple elts kk tpos) (.Call (.Name "zip" p) [e, e2] [] pos) (iZipS X.K ta) := by
  refine ⟨fun pins s σ H R I h => ?_⟩
  refine Call_ (ld_blt I hg hm PyProof.Rows.boot_zip (PyProof.Rows.callWith_type1 (thn (ha.run pos pins s σ H _ I h) fun us s1 ⟨vs, H1, I1, r1, q1⟩ => ?_) hs hpl))
  obtain ⟨S1, S2, rfl, a1, a2, q⟩ := q1
  cases r1 with
  | cons r rr =>
    cases rr with
    | cons r' rr =>
      cases rr
      obtain ⟨o1, P1, t1, B1, p1, l1, w1, d1⟩ := Sr.begins I1 a1 r
      obtain ⟨o2, P2, t2, B2, p2, l2, w2, d2⟩ := Sr.begins I1 a2 r'
      refine zip_begins2 B1 B2 p1 p2 fun h' hz hTI hTO h1 h2 hsz hk => wpAny_pyIter_zip hz ?_
      have I2 : Inv X pins σ H1 { s1 with heap := h' } := I1.kept (t' := s1.toks) hk
      have nd : [s1.heap.objs.size + 4, s1.heap.objs.size + 2, s1.heap.objs.size + 3, s1.heap.objs.size, s1.heap.objs.size + 1].Nodup := by simp
      have nn : ∀ b, b < s1.heap.objs.size → b ∉ [s1.heap.objs.size + 4, s1.heap.objs.size + 2, s1.heap.objs.size + 3, s1.heap.objs.size, s1.heap.objs.size + 1] := fun b hb q => by
        simp only [List.mem_cons, List.not_mem_nil, or_false] at q
        omega
      refine ⟨s1.heap.objs.size + 4, [s1.heap.objs.size + 4, s1.heap.objs.size + 2, s1.heap.objs.size + 3, s1.heap.objs.size, s1.heap.objs.size + 1], _, _, H1, rfl, I2, turn_zipS S1 S2 t1 t2 nd (fun b hb => nn b (d1 b hb)) (fun b hb => nn b (d2 b hb)), ⟨hz, hTI, ⟨_, _, hTO⟩, w1 _ _ h1, w2 _ _ h2⟩, fun c hcm => ?_, q l1 l2⟩
      have hle : s1.heap.objs.size ≤ c := by
        have e' : c = s1.heap.objs.size + 4 ∨ c = s1.heap.objs.size + 2 ∨ c = s1.heap.objs.size + 3 ∨ c = s1.heap.objs.size ∨ c = s1.heap.objs.size + 1 := by simpa using hcm
        rcases e' with rfl | rfl | rfl | rfl | rfl <;> omega
      exact I1.fpOk hle (I1.hok.fresh hle)
/-- enumerate(v): its two new cells -/
theorem meets_enum1 {v : Value} {o : Obj} {Hs : Heap → Prop} (B : Begins v o Hs) : Meets (Builtin.«enumerate.__new__» ⟨[.type "enumerate", v], []⟩) (fun _ R s => Hs s.heap ∧
      R (.ok (.ret (.ref (s.heap.push o).objs.size))) { s with heap := (s.heap.push o).push { cls := .type "enumerate", data := .fields #[.none, .bool false, .ref s.heap.objs.size, rawInt 0, .none, .none] } }) :=
  .of_wp fun prog w A R s h => by
    obtain ⟨hp, gs, dr, tk, os⟩ := s
    obtain ⟨start, h⟩ := h
    have sb := sub_enumerate
    have go1 : ∀ {A1 : Around} {E1 : Value → Shared → Prop} {Q1 : Value → Shared → Prop}, Q1 (.ref hp.objs.size) ⟨hp.push o, gs, dr, tk, os⟩ → wpAny (model prog w) A1 (pyIter v) Q1 E1 ⟨hp, gs, dr, tk, os⟩ := fun q => B.iter prog w _ _ ⟨hp, gs, dr, tk, os⟩ _ start q
    wp_walk using go1
    refine wpAny_stack_any fun st => wpAny_pure ?_
    split
    · rename_i c _ _ _ _ _
      cases (c == Value.type "enumerate") <;> (wp_walk using go1; exact ⟨_, rfl, h⟩)
    · wp_walk using go1
      exact ⟨_, rfl, h⟩
theorem enum1 {prog : Program} {w : World} {A : Around} {E : Value → Shared → Prop} {s : Shared} {v : Value} {o : Obj} {Hs : Heap → Prop} {Q : Value → Shared → Prop} (B : Begins v o Hs) (start : Hs s.heap)
    (h : ∀ h', IsEnum h' (s.heap.objs.size + 1) s.heap.objs.size 0 .none → h'.get? s.heap.objs.size = some o → (∀ b o, s.heap.get? b = some o → h'.get? b = some o) → Q (.ref (s.heap.objs.size + 1)) { s with heap := h' }) :
    wpAny (model prog w) A (call (.type "enumerate") [v]) Q E s := by
  refine callType_new F.called_enumerate (by decide) (F.typeCall_enumerate_1 _) (F.newCall_enumerate_1 _) (fun obj => F.args_object_init_2 obj _) F.entry_enumerate_new (meets_enum1 B) ⟨start, ?_⟩
  have z : (s.heap.push o).objs.size = s.heap.objs.size + 1 := Heap.size_push ..
  generalize hc : ({ cls := .type "enumerate", data := .fields #[.none, .bool false, .ref s.heap.objs.size, rawInt 0, .none, .none] } : Obj) = en
  have en0 : ((s.heap.push o).push en).get? (s.heap.objs.size + 1) = some en := by
    rw [← z]
    exact Heap.get?_push_size _ (by rw [← hc]; rfl)
  show _ ∧ _
  rw [z]
  refine ⟨⟨_, en0, by rw [← hc]⟩, h _ (by rw [← hc] at en0 ⊢; exact en0) (Heap.get?_push_of_some _ (Heap.get?_push_size _ B.free)) fun b o x => Heap.get?_push_of_some _ (Heap.get?_push_of_some _ x)⟩
def iEnumS (K : PySem.W.Frag) (ta : TA) : TI := fun σ H R => ta σ H fun vs H1 => ∃ S : Sr, vs = [S.of] ∧ S.at_ K H1 ∧ (S.lim → R (ItE K S) H1)
theorem pi_enumS (hg : Gl X "enumerate") (hm : X.mg "enumerate" = none) (ha : PA X [e] ta) (hs : starEach [e] X.env = [(false, eval e X.env)] := by rfl) : PI X (.Tuple elts kk tpos) (.Call (.Name "enumerate" p) [e] [] pos) (iEnumS X.K ta) := by
  refine ⟨fun pins s σ H R I h => ?_⟩
  refine Call_ (ld_blt I hg hm boot_enumerate (PyProof.Rows.callWith_type1 (thn (ha.run pos pins s σ H _ I h) fun us s1 ⟨vs, H1, I1, r1, q1⟩ => ?_) hs rfl))
  obtain ⟨S, rfl, a1, q⟩ := q1
  cases r1 with
  | cons r rr =>
    cases rr
    obtain ⟨o1, P1, t1, B1, p1, l1, w1, d1⟩ := Sr.begins I1 a1 r
    refine enum1 B1 p1 fun h' he h1 hk => wpAny_pyIter_enum he ?_
    have I2 : Inv X pins σ H1 { s1 with heap := h' } := I1.kept (t' := s1.toks) hk
    refine ⟨s1.heap.objs.size + 1, [s1.heap.objs.size + 1, s1.heap.objs.size], _, _, H1, rfl, I2, turn_enumS S t1 (Nat.succ_ne_self _), ⟨⟨_, he⟩, w1 _ _ h1⟩, fun b hb => ?_, q l1⟩
    have hle : s1.heap.objs.size ≤ b := by
      have e' : b = s1.heap.objs.size + 1 ∨ b = s1.heap.objs.size := by simpa using hb
      rcases e' with rfl | rfl <;> omega
    exact I1.fpOk hle (I1.hok.fresh hle)
end
/-! ### as data -/
def enumL : Nat → List D → List D
  | _, [] => []
  | i, d :: ds => .tup [.int (i : Nat), d] :: enumL (i + 1) ds
def zipL : List D → List D → List D
  | a :: as, b :: bs => .tup [a, b] :: zipL as bs
  | _, _ => []
theorem enumL_len : ∀ (ds : List D) (i : Nat), (enumL i ds).length = ds.length
  | [], _ => rfl
  | _ :: ds, i => by simp [enumL, enumL_len ds]
theorem enumL_get : ∀ {ds : List D} {i j : Nat} {x : D}, (enumL i ds)[j]? = some x → ∃ d, ds[j]? = some d ∧ x = .tup [.int ((i + j : Nat) : Int), d]
  | [], _, _, _, h => by simp [enumL] at h
  | d :: ds, i, 0, x, h => by simp [enumL] at h; exact ⟨d, rfl, h.symm⟩
  | d :: ds, i, j + 1, x, h => by
    simp only [enumL, List.getElem?_cons_succ] at h
    obtain ⟨d', h1, h2⟩ := enumL_get h
    exact ⟨d', by simpa using h1, by rw [h2, show i + 1 + j = i + (j + 1) by omega]⟩
theorem zipL_len : ∀ (as bs : List D), (zipL as bs).length = min as.length bs.length
  | [], _ => by simp [zipL]
  | _ :: _, [] => by simp [zipL]
  | _ :: as, _ :: bs => by simp [zipL, zipL_len as bs]
theorem zipL_get : ∀ {as bs : List D} {j : Nat} {x : D}, (zipL as bs)[j]? = some x → ∃ a b, as[j]? = some a ∧ bs[j]? = some b ∧ x = .tup [a, b]
  | [], _, _, _, h => by simp [zipL] at h
  | _ :: _, [], _, _, h => by simp [zipL] at h
  | a :: as, b :: bs, 0, x, h => by simp [zipL] at h; exact ⟨a, b, rfl, rfl, h.symm⟩
  | a :: as, b :: bs, j + 1, x, h => by
    simp only [zipL, List.getElem?_cons_succ] at h
    obtain ⟨a', b', h1, h2, h3⟩ := zipL_get h
    exact ⟨a', b', by simpa using h1, by simpa using h2, h3⟩
section
variable {K : PySem.W.Frag} {T : Tab} {exs : Addr → Prop} {H1 : Hp}
/-- what is walked stands for items -/
structure SrOK (K : PySem.W.Frag) (T : Tab) (exs : Addr → Prop) (H1 : Hp) (S : Sr) (ds : List D) : Prop where
  at_ : ∀ H, Keep exs H1 H → S.at_ K H
  rep : RepL K T exs H1 ds S.its
  len : S.lim → ds.length ≤ sizeLine
theorem srok {d : D} {ds : List D} {v : V} (h : itemsOf d = some ds) (r : Rep K T exs H1 d v) : ∃ S : Sr, v = S.of ∧ SrOK K T exs H1 S ds := by
  cases d with
  | lst xs =>
    cases h
    obtain ⟨a, vs, rfl, h0, h1, h2⟩ := r
    exact ⟨.l a vs, rfl, fun H k => SqL.of (k a _ h0 h1 (fun _ z => nomatch z)), h2, fun q => by have q : vs.length ≤ sizeLine := q; have := h2.length; omega⟩
  | tup xs =>
    cases h
    obtain ⟨a, vs, rfl, h0, h1, h2⟩ := r
    exact ⟨.t a vs, rfl, fun H k => SqT.of (k a _ h0 h1 (fun _ z => nomatch z)), h2, fun q => by have q : vs.length ≤ sizeLine := q; have := h2.length; omega⟩
  | str z =>
    have h : (if z.length ≤ 1000000 then some (z.map fun c => D.str [c]) else none) = some ds := h
    by_cases hz : z.length ≤ 1000000
    · rw [if_pos hz] at h
      cases h
      refine ⟨.s (mkS z), r, fun H k => trivial, ?_, fun _ => by rw [List.length_map, sizeLine_eq]; omega⟩
      have : (Sr.s (mkS z)).its = z.map fun c => V.str (mkS [c]) := by simp [Sr.its, mkS]
      rw [this]
      clear this hz r h
      induction z with
      | nil => exact rfl
      | cons c z ih => exact ⟨_, _, rfl, rfl, ih⟩
    · rw [if_neg hz] at h; cases h
  | _ => cases h
theorem itok_enumS {S : Sr} {ds : List D} (o : SrOK K T exs H1 S ds) (l : S.lim) : ItOK K T exs H1 (ItE K S) (enumL 0 ds) := by
  have hl := o.rep.length
  have hlim := o.len l
  refine ⟨by rw [enumL_len]; exact hlim, fun i H hi k => ⟨o.at_ H k, by rw [enumL_len] at hi; omega⟩, fun H k => ⟨o.at_ H k, by rw [enumL_len]; omega⟩, fun i H x H' d hd k y => ?_⟩
  obtain ⟨d', h1, rfl⟩ := enumL_get hd
  obtain ⟨p, v, rfl, hp, rfl, hv⟩ := y
  obtain ⟨v', e1, rv⟩ := o.rep.get h1
  rw [hv] at e1; cases e1
  refine ⟨ext_new hp, fun ex' n1 n2 => ⟨p, [.int (i : Nat), v], rfl, fun q => n2 p q hp, upd_same, _, _, rfl, by rw [Nat.zero_add]; exact rfl, _, _, rfl, rv.monoT fun b ob nb e => ⟨n1 b ob nb e, fun nt => ext_new hp b ob (k b ob nb e nt)⟩, rfl⟩⟩
theorem itok_zipS {S1 S2 : Sr} {as bs : List D} (o1 : SrOK K T exs H1 S1 as) (o2 : SrOK K T exs H1 S2 bs) (l1 : S1.lim) : ItOK K T exs H1 (ItZ K S1 S2) (zipL as bs) := by
  have hl := o1.rep.length
  have hl2 := o2.rep.length
  have hlim := o1.len l1
  refine ⟨by rw [zipL_len]; omega, fun i H hi k => ⟨⟨o1.at_ H k, o2.at_ H k⟩, by rw [zipL_len] at hi; omega⟩, fun H k => ⟨⟨o1.at_ H k, o2.at_ H k⟩, by rw [zipL_len]; omega⟩, fun i H x H' d hd k y => ?_⟩
  obtain ⟨a, b, h1, h2, rfl⟩ := zipL_get hd
  obtain ⟨p, v, w, rfl, hp, rfl, hv, hw⟩ := y
  obtain ⟨v', e1, rv⟩ := o1.rep.get h1
  obtain ⟨w', e2, rw_⟩ := o2.rep.get h2
  rw [hv] at e1; cases e1
  rw [hw] at e2; cases e2
  refine ⟨ext_new hp, fun ex' n1 n2 => ⟨p, [v, w], rfl, fun q => n2 p q hp, upd_same, _, _, rfl, rv.monoT fun b ob nb e => ⟨n1 b ob nb e, fun nt => ext_new hp b ob (k b ob nb e nt)⟩, _, _, rfl, rw_.monoT fun b ob nb e => ⟨n1 b ob nb e, fun nt => ext_new hp b ob (k b ob nb e nt)⟩, rfl⟩⟩
end
def iEnum1 (fs : M (List AV)) : M (List D) := M.bind fs fun as => match as with
  | [.v d] => lift ((itemsOf d).map (enumL 0))
  | _ => M.stuck
def iZip2 (fs : M (List AV)) : M (List D) := M.bind fs fun as => match as with
  | [.v a, .v b] => lift ((itemsOf a).bind fun x => (itemsOf b).map fun y => zipL x y)
  | _ => M.stuck
section
variable {T : Tab} {X : Cx} {a b : Expr} {fs : M (List AV)} {p pos tpos : Pos} {elts : List Expr} {kk : Nat}
theorem qi_enum (hg : Gl X "enumerate") (hm : X.mg "enumerate" = none) (h : QAs T X [a] fs) (hs : starEach [a] X.env = [(false, eval a X.env)] := by rfl) : QI T X (.Tuple elts kk tpos) (.Call (.Name "enumerate" p) [a] [] pos) (iEnum1 fs) := fun pn xe W tk hp => impI (pi_enumS (X := X.tr pn xe) hg hm (h pn xe W tk hp) hs) fun σ H Q ⟨ex, env, q⟩ => by
  refine ⟨ex, env, (trx_bind (relAs X.K T) rmI q).mono fun vs H1 ⟨as, env1, s, r, q⟩ => ?_⟩
  have stuck : ∀ {f : M (List D)}, f = M.stuck → trx X.K T (relI X.K T) ex f env1 W σ H1 Q → False := fun e ⟨_, _, q, _⟩ => by rw [e] at q; cases q
  split at q
  · rename_i d
    cases hi : itemsOf d with
    | none => rw [hi] at q; exact (stuck rfl q).elim
    | some ds =>
      rw [hi] at q
      obtain ⟨g, k⟩ := trx_ret (b := enumL 0 ds) q
      cases r with
      | cons r1 r2 =>
        cases r2
        obtain ⟨S, e, o⟩ := srok hi r1
        subst e
        exact ⟨S, rfl, o.at_ H1 (fun _ _ _ q _ => q), fun l => k _ H1 (Step.refl g) (itok_enumS o l)⟩
  · exact (stuck rfl q).elim
theorem qi_zip (hg : Gl X "zip") (hm : X.mg "zip" = none) (h : QAs T X [a, b] fs) (hs : starEach [a, b] X.env = (false, eval a X.env) :: starEach [b] X.env := by rfl) (hpl : (backTo pos (starEach [b] X.env)).any (·.1) = false := by rfl) : QI T X (.Tuple elts kk tpos) (.Call (.Name "zip" p) [a, b] [] pos) (iZip2 fs) := fun pn xe W tk hp => impI (pi_zipS (X := X.tr pn xe) hg hm (h pn xe W tk hp) hs hpl) fun σ H Q ⟨ex, env, q⟩ => by
  refine ⟨ex, env, (trx_bind (relAs X.K T) rmI q).mono fun vs H1 ⟨as, env1, s, r, q⟩ => ?_⟩
  have stuck : ∀ {f : M (List D)}, f = M.stuck → trx X.K T (relI X.K T) ex f env1 W σ H1 Q → False := fun e ⟨_, _, q, _⟩ => by rw [e] at q; cases q
  split at q
  · rename_i d d2
    cases hi : itemsOf d with
    | none => rw [hi] at q; exact (stuck rfl q).elim
    | some ds =>
      cases hj : itemsOf d2 with
      | none => rw [hi, hj] at q; exact (stuck rfl q).elim
      | some es =>
        rw [hi, hj] at q
        obtain ⟨g, k⟩ := trx_ret (b := zipL ds es) q
        cases r with
        | cons r1 r2 =>
          cases r2 with
          | cons r2 r3 =>
            cases r3
            obtain ⟨S1, e1, o1⟩ := srok hi r1
            obtain ⟨S2, e2, o2⟩ := srok hj r2
            subst e1 e2
            exact ⟨S1, S2, rfl, o1.at_ H1 (fun _ _ _ q _ => q), o2.at_ H1 (fun _ _ _ q _ => q), fun l _ => k _ H1 (Step.refl g) (itok_zipS o1 o2 l)⟩
  · exact (stuck rfl q).elim
end
end Dt
end
section
set_option maxRecDepth 100000
set_option maxHeartbeats 4000000
/-! QV: comprehensions of two clauses. -/
namespace Dt
open PySem PySem.Spec L2
open PyProof.Rows hiding St
/-- a loop of a comprehension; B: what a turn makes of the slots and of the list so far -/
def compG (vs : List Nat) (t : D → Sl → Option Sl) (B : Sl → List D → Option (List D × Sl)) : List D → List D → Sl → Option (List D × Sl)
  | [], acc, env => some (acc, env)
  | d :: ds, acc, env => (t d env).bind fun e1 => (B e1 acc).bind fun p => compG vs t B ds p.1 (wipeE p.2 vs)
/-- test, then element -/
def bOne (c : M Bool) (f : M EV) : Sl → List D → Option (List D × Sl) := fun e1 acc => match c e1 with
  | some (.ok true e2) => match f e2 with
    | some (.ok ev e3) => (frz ev).map fun x => (acc ++ [x], e3)
    | _ => none
  | some (.ok false e2) => some (acc, e2)
  | _ => none
/-- test, then a loop of its own -/
def bTwo (vs1 : List Nat) (c : M Bool) (fi : M (List D)) (t1 : D → Sl → Option Sl) (B : Sl → List D → Option (List D × Sl)) : Sl → List D → Option (List D × Sl) := fun e1 acc => match c e1 with
  | some (.ok true e2) => match fi e2 with
    | some (.ok items e3) => compG vs1 t1 B items acc (wipeE e3 vs1)
    | _ => none
  | some (.ok false e2) => some (acc, e2)
  | _ => none
def eComp2 (vs vs1 : List Nat) (items : M (List D)) (t : D → Sl → Option Sl) (c : M Bool) (fi : M (List D)) (t1 : D → Sl → Option Sl) (c1 : M Bool) (f : M EV) : M EV := M.bind items fun ds => fun env => match compG vs t (bTwo vs1 c fi t1 (bOne c1 f)) ds [] (wipeE env vs) with
  | some (acc, e) => if acc.length ≤ 1000000 then some (.ok (.o (.lst acc)) e) else none
  | none => none
/-- the list made so far never gets shorter -/
def Grows (B : Sl → List D → Option (List D × Sl)) : Prop := ∀ e acc acc' e', B e acc = some (acc', e') → acc.length ≤ acc'.length
theorem compG_grows {vs : List Nat} {t : D → Sl → Option Sl} {B : Sl → List D → Option (List D × Sl)} (g : Grows B) : ∀ {ds acc acc' : List D} {e e' : Sl}, compG vs t B ds acc e = some (acc', e') → acc.length ≤ acc'.length
  | [], acc, acc', e, e', h => by cases h; exact Nat.le_refl _
  | d :: ds, acc, acc', e, e', h => by
    unfold compG at h
    obtain ⟨e1, h1, h⟩ := Option.bind_eq_some_iff.mp h
    obtain ⟨p, h2, h⟩ := Option.bind_eq_some_iff.mp h
    exact Nat.le_trans (g _ _ _ _ h2) (compG_grows g h)
theorem bOne_grows {c : M Bool} {f : M EV} : Grows (bOne c f) := fun e acc acc' e' h => by
  unfold bOne at h
  split at h
  · split at h
    · obtain ⟨x, _, q⟩ := Option.map_eq_some_iff.mp h
      cases q; simp
    · cases h
  · cases h; exact Nat.le_refl _
  · cases h
theorem bTwo_grows {vs1 : List Nat} {c : M Bool} {fi : M (List D)} {t1 : D → Sl → Option Sl} {B : Sl → List D → Option (List D × Sl)} (g : Grows B) : Grows (bTwo vs1 c fi t1 B) := fun e acc acc' e' h => by
  unfold bTwo at h
  split at h
  · split at h
    · exact compG_grows g h
    · cases h
  · cases h; exact Nat.le_refl _
  · cases h
section
variable {K : PySem.W.Frag} {T : Tab}
/-- from one state of the comprehension to a later one: all but its list -/
structure CStep (K : PySem.W.Frag) (T : Tab) (ex : Addr → Prop) (Dd : Addr) (σ : St) (H : Hp) (env : Sl) (H' : Hp) (env' : Sl) : Prop where
  fr : ∀ b o, b ≠ Dd → H b = some o → ¬ Owns σ env b → NT o → H' b = some o
  dm : ∀ b, H b ≠ none → H' b ≠ none
  sb : ∀ (i : Nat) (c : OC), env'[i]? = some (.own c) → ∃ c', env[i]? = some (.own c')
  gd : Good K T (fun b => ex b ∨ b = Dd) σ H' env'
variable {ex : Addr → Prop} {Dd : Addr} {σ : St} {H H' H'' : Hp} {env env' env'' : Sl}
theorem CStep.owns (s : CStep K T ex Dd σ H env H' env') {a : Addr} : Owns σ env' a → Owns σ env a := fun ⟨j, c, f1, f2⟩ => let ⟨c', q⟩ := s.sb j c f1; ⟨j, c', q, f2⟩
theorem CStep.trans (s : CStep K T ex Dd σ H env H' env') (r : CStep K T ex Dd σ H' env' H'' env'') : CStep K T ex Dd σ H env H'' env'' :=
  ⟨fun b o n e w nt => r.fr b o n (s.fr b o n e w nt) (fun z => w (s.owns z)) nt, fun b e => r.dm b (s.dm b e), fun i c e => let ⟨c', q⟩ := r.sb i c e; s.sb i c' q, r.gd⟩
theorem CStep.of (s : Step K T (fun b => ex b ∨ b = Dd) σ H env H' env') : CStep K T ex Dd σ H env H' env' := ⟨fun b o _ e w => s.fr b o e w, s.dm, s.sb, s.gd⟩
theorem CStep.refl (g : Good K T (fun b => ex b ∨ b = Dd) σ H env) : CStep K T ex Dd σ H env H env := ⟨fun _ _ _ e _ _ => e, fun _ e => e, fun i c e => ⟨c, e⟩, g⟩
theorem wipeE_out {j : Nat} : ∀ {vs : List Nat} {env : Sl}, j ∉ vs → (wipeE env vs)[j]? = env[j]?
  | [], _, _ => rfl
  | v :: vs, env, h => by
    simp only [List.mem_cons, not_or] at h
    unfold wipeE
    rw [List.getElem?_set_ne (Ne.symm h.1)]
    exact wipeE_out h.2
theorem wipeE_twice (e0 : Sl) (vs : List Nat) : wipeE (wipeE e0 vs) vs = wipeE e0 vs := by
  refine List.ext_getElem? fun j => ?_
  by_cases hj : j ∈ vs
  · cases q : (wipeE (wipeE e0 vs) vs)[j]? with
    | none => rw [List.getElem?_eq_none_iff, wipeE_len] at q; rw [List.getElem?_eq_none q]
    | some sl =>
      rcases wipeE_get q with z | ⟨z, _⟩
      · subst z
        cases q2 : (wipeE e0 vs)[j]? with
        | none => rw [List.getElem?_eq_none_iff, ← wipeE_len (wipeE e0 vs) vs] at q2; rw [List.getElem?_eq_none q2] at q; cases q
        | some s2 =>
          rcases wipeE_get q2 with z | ⟨z, _⟩
          · rw [z]
          · exact absurd hj z
      · exact absurd hj z
  · exact wipeE_out hj
/-- the turns, whatever a turn does -/
theorem comp_loop {vs : List Nat} {t : D → Sl → Option Sl} {B : Sl → List D → Option (List D × Sl)} {Bd : St → Hp → (Hp → Prop) → Prop} {H0 Hb : Hp} {env0 envF : Sl} {exs : Addr → Prop} {J : It} {items acc0 accF : List D} {vb0 : List V}
    (gr : Grows B) (hB : ∀ σ2 H2 e1 acc vb acc' e3, Good K T (fun b => ex b ∨ b = Dd) σ2 H2 e1 → H2 Dd = some (.lst vb) → RepL K T (fun b => exO ex σ2 e1 b ∨ b = Dd) H2 acc vb → B e1 acc = some (acc', e3) → acc'.length ≤ 1000000 →
      ∀ Nx : Hp → Prop, (∀ H' vb', CStep K T ex Dd σ2 H2 e1 H' e3 → H' Dd = some (.lst vb') → RepL K T (fun b => exO ex σ2 e3 b ∨ b = Dd) H' acc' vb' → Nx H') → Bd σ2 H2 Nx)
    (g0 : Good K T (fun b => ex b ∨ b = Dd) σ H0 env0) (hw : ∃ e0, env0 = wipeE e0 vs) (h0 : H0 Dd = some (.lst vb0)) (r0 : RepL K T (fun b => exO ex σ env0 b ∨ b = Dd) H0 acc0 vb0)
    (it : ItOK K T exs Hb J items) (hk : ∀ b o, ¬ exs b → Hb b = some o → b ≠ Dd ∧ ¬ ex b ∧ ¬ Owns σ env0 b ∧ H0 b = some o) (er : compG vs t B items acc0 env0 = some (accF, envF)) (hF : accF.length ≤ 1000000) {Qd : Hp → Prop}
    (hq : ∀ H' vb, CStep K T ex Dd σ H0 env0 H' envF → H' Dd = some (.lst vb) → RepL K T (fun b => exO ex σ envF b ∨ b = Dd) H' accF vb → Qd H') :
    ∃ Wv : Nat → Nat → Hp → Prop, (∃ m, Wv 0 m H0) ∧ ∀ i m H, Wv i m H →
      (J.stop i H ∧ Qd H) ∨ (J.go i H ∧ ∃ Nx : Hp → Prop, (∀ H', Nx H' → ∃ m', m' < m ∧ Wv (i + 1) m' H') ∧ ∀ x H', J.yld i H x H' → trG K T (but vs) t x (wipe σ vs) H' fun σ2 H2 => wipe σ2 vs = wipe σ vs ∧ Bd σ2 H2 Nx) := by
  let Inv := fun (i : Nat) (Hi : Hp) => ∃ acci envi vacc, compG vs t B (items.drop i) acci envi = some (accF, envF) ∧ CStep K T ex Dd σ H0 env0 Hi envi ∧ Hi Dd = some (.lst vacc) ∧ RepL K T (fun b => exO ex σ envi b ∨ b = Dd) Hi acci vacc ∧ ∃ e0, envi = wipeE e0 vs
  refine ⟨fun i m Hi => m = items.length - i ∧ i ≤ items.length ∧ Inv i Hi, ⟨items.length, by simp, Nat.zero_le _, acc0, env0, vb0, by simpa using er, .refl g0, h0, r0, hw⟩, ?_⟩
  rintro i m Hi ⟨rfl, hi, acci, envi, vacc, e, s, eD, ra, e0, ew⟩
  have keep : Keep exs Hb Hi := fun b o n q => let ⟨h1, _, h3, h4⟩ := hk b o n q; s.fr b o h1 h4 h3
  by_cases hlt : i < items.length
  case neg =>
    have ei : i = items.length := by omega
    subst ei
    rw [List.drop_length] at e
    cases e
    exact .inl ⟨it.stop Hi keep, hq Hi vacc s eD ra⟩
  case pos =>
  refine .inr ⟨it.go i Hi hlt keep, fun H' => ∃ m', m' < items.length - i ∧ m' = items.length - (i + 1) ∧ i + 1 ≤ items.length ∧ Inv (i + 1) H', fun H' ⟨m', h1, h2, h3, h4⟩ => ⟨m', h1, h2, h3, h4⟩, fun x H' y => ?_⟩
  have hd : items.drop i = items[i] :: items.drop (i + 1) := List.drop_eq_getElem_cons hlt
  rw [hd] at e
  unfold compG at e
  obtain ⟨e1, q1, e⟩ := Option.bind_eq_some_iff.mp e
  obtain ⟨⟨acc', e3⟩, q2, e⟩ := Option.bind_eq_some_iff.mp e
  dsimp only at e
  have hlen' : acc'.length ≤ 1000000 := Nat.le_trans (compG_grows gr e) hF
  obtain ⟨ext, rep⟩ := it.yld i Hi x H' items[i] (List.getElem?_eq_getElem hlt) keep y
  have gi := s.gd.ext ext
  have gb : Good K T (fun b => ex b ∨ b = Dd) (wipe σ vs) H' envi := by
    have := gi.wipe (vs := vs) (σ := wipe σ vs) (wipe_length σ vs).symm fun j hj => (wipe_out hj).symm
    rw [ew, wipeE_twice] at this
    rwa [ew]
  have ownw : ∀ {a}, Owns (wipe σ vs) envi a → Owns σ envi a := fun ⟨j, c', f1, f2⟩ => ⟨j, c', f1, (wipe_some f2).1⟩
  have rd : Rep K T (exO (fun b => ex b ∨ b = Dd) (wipe σ vs) envi) H' items[i] x := by
    refine rep _ (fun b o nb q z => ?_) (fun b z => ?_)
    · obtain ⟨h1, h2, h3, _⟩ := hk b o nb q
      rcases z with (z | z) | z
      · exact h2 z
      · exact h1 z
      · exact h3 (s.owns (ownw z))
    · exact s.gd.dm b (z.imp id ownw)
  refine ⟨fun b => ex b ∨ b = Dd, envi, _, e1, gb, rd, q1, fun σ2 H2 s2 => ?_⟩
  have par2 : ∀ j, j ∉ vs → σ2[j]? = (wipe σ vs)[j]? := fun j hj => s2.par j (by unfold but; simp [hj])
  have hw2 : wipe σ2 vs = wipe σ vs := by
    rw [wipe_eq (vs := vs) s2.ln par2]
    exact wipe_eq (wipe_length σ vs) fun j hj => wipe_out hj
  refine ⟨hw2, ?_⟩
  have par3 : ∀ j, j ∉ vs → σ2[j]? = σ[j]? := fun j hj => (par2 j hj).trans (wipe_out hj)
  have ln3 : σ2.length = σ.length := s2.ln.trans (wipe_length σ vs)
  have nD : ¬ Owns (wipe σ vs) envi Dd := fun z => (gb.owned z).2 (.inr rfl)
  have eD2 : H2 Dd = some (.lst vacc) := s2.fr Dd _ (ext Dd _ eD) nD (fun _ z => nomatch z)
  have old2 : ∀ b o, Hi b = some o → ¬ Owns (wipe σ vs) envi b → NT o → H2 b = some o := fun b o q n => s2.fr b o (ext b o q) n
  have own2 : ∀ {a}, Owns σ2 e1 a → Owns (wipe σ vs) envi a ∨ H' a = none := fun z => s2.owns z
  have ra2 : RepL K T (fun b => exO ex σ2 e1 b ∨ b = Dd) H2 acci vacc := ra.monoT fun b o n q => ⟨fun z => by
    rcases z with (z | z) | z
    · exact n (.inl (.inl z))
    · rcases own2 z with z | z
      · exact n (.inl (.inr (ownw z)))
      · rw [ext b o q] at z; cases z
    · exact n (.inr z), old2 b o q fun z => n (.inl (.inr (ownw z)))⟩
  refine hB σ2 H2 e1 acci vacc acc' e3 s2.gd eD2 ra2 q2 hlen' _ fun H3 vb s3 eD3 ra3 => ?_
  have own3 : ∀ {a}, Owns σ2 e3 a → Owns (wipe σ vs) envi a ∨ H' a = none := fun z => own2 (s3.owns z)
  refine ⟨_, by omega, rfl, hlt, acc', _, vb, e, s.trans ⟨fun b o n q w nt => ?_, fun b q => s3.dm b (s2.dm b ?_), fun j c' q => ?_, s3.gd.wipe ln3 par3⟩, eD3, ?_, e3, rfl⟩
  · have h2 := old2 b o q (fun z => w (ownw z)) nt
    refine s3.fr b o n h2 (fun z => ?_) nt
    rcases own2 z with z | z
    · exact w (ownw z)
    · rw [ext b o q] at z; cases z
  · intro z
    cases w : Hi b with
    | none => exact q w
    | some o => rw [ext b o w] at z; cases z
  · rcases wipeE_get q with z | ⟨hj, z⟩
    · cases z
    · obtain ⟨c1, z1⟩ := s3.sb j c' z
      exact s2.sbp j c1 (by unfold but; simp [hj]) z1
  · exact ra3.mono fun b o n q => ⟨fun z => by
      rcases z with (z | z) | z
      · exact n (.inl (.inl z))
      · exact n (.inl (.inr (owns_wipe par3 z)))
      · exact n (.inr z), q⟩
theorem body_one {c : M Bool} {f : M EV} : ∀ σ2 H2 e1 acc vb acc' e3, Good K T (fun b => ex b ∨ b = Dd) σ2 H2 e1 → H2 Dd = some (.lst vb) → RepL K T (fun b => exO ex σ2 e1 b ∨ b = Dd) H2 acc vb → bOne c f e1 acc = some (acc', e3) → acc'.length ≤ 1000000 →
      ∀ Nx : Hp → Prop, (∀ H' vb', CStep K T ex Dd σ2 H2 e1 H' e3 → H' Dd = some (.lst vb') → RepL K T (fun b => exO ex σ2 e3 b ∨ b = Dd) H' acc' vb' → Nx H') →
      tr K T relT c W0 σ2 H2 fun b H3 => if b = true then tr K T (relE K T) f W0 σ2 H3 fun y H4 => ∃ acc, H4 Dd = some (.lst acc) ∧ acc.length < sizeLine ∧ Nx (upd H4 Dd (.lst (acc ++ [y]))) else Nx H3 := by
  intro σ2 H2 e1 acc vb acc' e3 g eD ra e hlen Nx k
  have nD : ∀ {Hx : Hp} {ex1 : Sl}, Good K T (fun b => ex b ∨ b = Dd) σ2 Hx ex1 → ¬ Owns σ2 ex1 Dd := fun gx z => (gx.owned z).2 (.inr rfl)
  unfold bOne at e
  refine ⟨fun b => ex b ∨ b = Dd, e1, g, ?_⟩
  cases q2 : c e1 with
  | none => rw [q2] at e; cases e
  | some rc =>
  rw [q2] at e
  refine ⟨rc, rfl, ?_⟩
  cases rc with
  | exc x e2 => cases e
  | ok k0 e2 =>
  intro k' H3 s3 ek
  have ek : k' = k0 := ek
  subst ek
  have eD3 : H3 Dd = some (.lst vb) := s3.fr Dd _ eD (nD g) (fun _ z => nomatch z)
  have ra3 : RepL K T (fun b => exO ex σ2 e2 b ∨ b = Dd) H3 acc vb := ra.monoT fun b o n q => ⟨fun z => n (by
    rcases z with (z | z) | z
    · exact .inl (.inl z)
    · exact .inl (.inr (s3.owns z))
    · exact .inr z), s3.fr b o q fun z => n (.inl (.inr z))⟩
  cases k' with
  | false =>
    dsimp only at e
    refine iteF ?_
    cases e
    exact k H3 vb (.of s3) eD3 ra3
  | true =>
    dsimp only at e
    refine iteT ⟨fun b => ex b ∨ b = Dd, e2, s3.gd, ?_⟩
    cases q3 : f e2 with
    | none => rw [q3] at e; cases e
    | some rf =>
    rw [q3] at e
    refine ⟨rf, rfl, ?_⟩
    cases rf with
    | exc x e3 => cases e
    | ok ev e4 =>
    intro yv H4 s4 rv
    dsimp only at e
    obtain ⟨xd, q4, e⟩ := Option.map_eq_some_iff.mp e
    cases e
    have rd := RepE.frz s3.gd s4 rv q4
    have eD4 : H4 Dd = some (.lst vb) := s4.fr Dd _ eD3 (nD s3.gd) (fun _ z => nomatch z)
    have ra4 : RepL K T (fun b => exO ex σ2 e3 b ∨ b = Dd) H4 acc vb := ra3.monoT fun b o n q => ⟨fun z => n (by
      rcases z with (z | z) | z
      · exact .inl (.inl z)
      · exact .inl (.inr (s4.owns z))
      · exact .inr z), s4.fr b o q fun z => n (.inl (.inr z))⟩
    have hl := ra4.length
    have sz := sizeLine_eq
    have hl2 : acc.length + 1 ≤ 1000000 := by simpa using hlen
    have rd' : Rep K T (fun b => exO ex σ2 e3 b ∨ b = Dd) H4 xd yv := rd.mono fun b o n q => ⟨fun z => n (by
      rcases z with (z | z) | z
      · exact .inl (.inl z)
      · exact .inr z
      · exact .inl (.inr z)), q⟩
    have s34 := (CStep.of (ex := ex) (Dd := Dd) s3).trans (.of s4)
    refine ⟨vb, eD4, by omega, k _ (vb ++ [yv]) ⟨fun b o n q w nt => ?_, fun b q => ?_, s34.sb, s34.gd.chg (fun b o n q => ?_) (fun b z => ?_) (tabs_upd s34.gd.tb eD4 (fun _ z => nomatch z) (fun _ z => nomatch z))⟩ upd_same ((ra4.append (RepL.one rd')).mono fun b o n q => ⟨n, ?_⟩)⟩
    · rw [upd_ne n]; exact s34.fr b o n q w nt
    · by_cases z : b = Dd
      · subst z; rw [upd_same]; exact fun z => nomatch z
      · rw [upd_ne z]; exact s34.dm b q
    · rw [upd_ne (fun z => n (.inr z))]; exact q
    · by_cases w : b = Dd
      · subst w; rw [upd_same]; exact fun z => nomatch z
      · rw [upd_ne w]; exact s34.gd.dom b z
    · rw [upd_ne (fun z => n (.inr z))]; exact q
theorem CStep.wiped {vs : List Nat} (g : Good K T (fun b => ex b ∨ b = Dd) σ H env) : CStep K T ex Dd σ H env H (wipeE env vs) :=
  ⟨fun _ _ _ e _ _ => e, fun _ e => e, fun i c q => by
    rcases wipeE_get q with z | ⟨_, z⟩
    · cases z
    · exact ⟨c, z⟩, g.wipe rfl fun _ _ => rfl⟩
theorem body_two {vs1 : List Nat} {c c1 : M Bool} {fi : M (List D)} {t1 : D → Sl → Option Sl} {f : M EV} : ∀ σ2 H2 e1 acc vb acc' e3, Good K T (fun b => ex b ∨ b = Dd) σ2 H2 e1 → H2 Dd = some (.lst vb) → RepL K T (fun b => exO ex σ2 e1 b ∨ b = Dd) H2 acc vb → bTwo vs1 c fi t1 (bOne c1 f) e1 acc = some (acc', e3) → acc'.length ≤ 1000000 →
      ∀ Nx : Hp → Prop, (∀ H' vb', CStep K T ex Dd σ2 H2 e1 H' e3 → H' Dd = some (.lst vb') → RepL K T (fun b => exO ex σ2 e3 b ∨ b = Dd) H' acc' vb' → Nx H') →
      tr K T relT c W0 σ2 H2 fun b H3 => if b = true then tr K T (relI K T) fi W0 σ2 H3 fun J1 H4 => ∃ W1 : Nat → Nat → Hp → Prop, (∃ m, W1 0 m H4) ∧ ∀ j k H, W1 j k H →
        (J1.stop j H ∧ Nx H) ∨ (J1.go j H ∧ ∃ Nx1 : Hp → Prop, (∀ H', Nx1 H' → ∃ k', k' < k ∧ W1 (j + 1) k' H') ∧ ∀ x H', J1.yld j H x H' → trG K T (but vs1) t1 x (wipe σ2 vs1) H' fun σ3 H5 => wipe σ3 vs1 = wipe σ2 vs1 ∧
          tr K T relT c1 W0 σ3 H5 fun b H6 => if b = true then tr K T (relE K T) f W0 σ3 H6 fun y H7 => ∃ acc, H7 Dd = some (.lst acc) ∧ acc.length < sizeLine ∧ Nx1 (upd H7 Dd (.lst (acc ++ [y]))) else Nx1 H6) else Nx H3 := by
  intro σ2 H2 e1 acc vb acc' e3 g eD ra e hlen Nx k
  have nD : ∀ {Hx : Hp} {ex1 : Sl}, Good K T (fun b => ex b ∨ b = Dd) σ2 Hx ex1 → ¬ Owns σ2 ex1 Dd := fun gx z => (gx.owned z).2 (.inr rfl)
  unfold bTwo at e
  refine ⟨fun b => ex b ∨ b = Dd, e1, g, ?_⟩
  cases q2 : c e1 with
  | none => rw [q2] at e; cases e
  | some rc =>
  rw [q2] at e
  refine ⟨rc, rfl, ?_⟩
  cases rc with
  | exc x e2 => cases e
  | ok k0 e2 =>
  intro k' H3 s3 ek
  have ek : k' = k0 := ek
  subst ek
  have eD3 : H3 Dd = some (.lst vb) := s3.fr Dd _ eD (nD g) (fun _ z => nomatch z)
  have ra3 : RepL K T (fun b => exO ex σ2 e2 b ∨ b = Dd) H3 acc vb := ra.monoT fun b o n q => ⟨fun z => n (by
    rcases z with (z | z) | z
    · exact .inl (.inl z)
    · exact .inl (.inr (s3.owns z))
    · exact .inr z), s3.fr b o q fun z => n (.inl (.inr z))⟩
  cases k' with
  | false =>
    dsimp only at e
    refine iteF ?_
    cases e
    exact k H3 vb (.of s3) eD3 ra3
  | true =>
    dsimp only at e
    refine iteT ⟨fun b => ex b ∨ b = Dd, e2, s3.gd, ?_⟩
    cases q3 : fi e2 with
    | none => rw [q3] at e; cases e
    | some rf =>
    rw [q3] at e
    refine ⟨rf, rfl, ?_⟩
    cases rf with
    | exc x e4 => cases e
    | ok items e4 =>
    intro J1 H4 s4 it
    dsimp only at e
    have it : ItOK K T (exO (fun b => ex b ∨ b = Dd) σ2 e4) H4 J1 items := it
    have eD4 : H4 Dd = some (.lst vb) := s4.fr Dd _ eD3 (nD s3.gd) (fun _ z => nomatch z)
    have sw := CStep.wiped (vs := vs1) s4.gd
    have ra4 : RepL K T (fun b => exO ex σ2 (wipeE e4 vs1) b ∨ b = Dd) H4 acc vb := ra3.monoT fun b o n q => ⟨fun z => n (by
      rcases z with (z | z) | z
      · exact .inl (.inl z)
      · exact .inl (.inr (s4.owns (sw.owns z)))
      · exact .inr z), s4.fr b o q fun z => n (.inl (.inr z))⟩
    have s14 := ((CStep.of (ex := ex) (Dd := Dd) s3).trans (.of s4)).trans sw
    refine comp_loop (ex := ex) (Dd := Dd) (B := bOne c1 f) bOne_grows body_one sw.gd ⟨e4, rfl⟩ eD4 ra4 it (fun b o n q => ⟨fun z => n (.inl (.inr z)), fun z => n (.inl (.inl z)), fun z => n (.inr (sw.owns z)), q⟩) e hlen fun H' vb' s5 eD5 ra5 => k H' vb' (s14.trans s5) eD5 ra5
end
section
variable {T : Tab} {X : Cx} {elt tg iter tg1 iter1 : Expr} {ifs ifs1 : List Expr} {scope : Scope} {own : List (Str × Nat)} {vs1 : List Nat} {pos : Pos} {fi fi1 : M (List D)} {t t1 : D → Sl → Option Sl} {c c1 : M Bool} {f : M EV}
/-- name = [.. for .. for ..] on one line -/
theorem qs_setComp2 {np : Nat → Bool} {y : Str} {py spos : Pos} (i : Nat) (hc : X.calm = true) (hN : X.N.Nodup) (hi : QI T X tg iter fi) (ok : BlkOk X.N X.env.scope scope own) (hv : ∀ i ∈ vs1, i ∈ own.map (·.2))
    (hg : Blk X scope fun Y => QG T Y (but (own.map (·.2))) tg t) (ht : Blk X scope fun Y => QTs T Y ifs c) (hi1 : Blk X scope fun Y => QI T Y tg1 iter1 fi1) (hg1 : Blk X scope fun Y => QG T Y (but vs1) tg1 t1) (ht1 : Blk X scope fun Y => QTs T Y ifs1 c1) (he : Blk X scope fun Y => QE T Y elt f)
    (hyl : X.env.scope.names.lookup y = some .local := by rfl) (hsw : swapsWith (.ListComp elt [⟨tg, iter, ifs, 0⟩, ⟨tg1, iter1, ifs1, 0⟩] scope pos) (some (.Name y py)) spos.line X.env = pure true := by exact sw_true rfl rfl rfl (by decide +kernel)) (hy : X.N[i]? = some y := by rfl) (hnp : np i = false := by rfl)
    (hs : ∀ x, foldedSetIterable iter X.env x = pure x := by intro _; rfl) (hs1 : ∀ env x, foldedSetIterable iter1 env x = pure x := by intro _ _; rfl) :
    QS T X np (.Assign [.Name y py] (.ListComp elt [⟨tg, iter, ifs, 0⟩, ⟨tg1, iter1, ifs1, 0⟩] scope pos) spos) (sSet i (eComp2 (own.map (·.2)) vs1 fi t c fi1 t1 c1 f)) := fun pn xe W tk hp => by
  refine impS (ps_setLc2 (X := X.tr pn xe) (vs1 := vs1) (g := trG X.K T (but (own.map (·.2))) t) (tt := tr X.K T relT c W0) (wi1 := tr X.K T (relI X.K T) fi1 W0) (g1 := trG X.K T (but vs1) t1) (tt1 := tr X.K T relT c1 W0) (te := tr X.K T (relE X.K T) f W0) hc hN hy hyl hsw (hi pn xe W tk hp) ok hv (fun s H C cl fp => hg s H C cl fp [] fun _ _ => False) (fun s H C cl fp => ht s H C cl fp [] (fun _ _ => False) W0 takes0 .never)
    (fun s H C cl fp => hi1 s H C cl fp [] (fun _ _ => False) W0 takes0 .never) (fun s H C cl fp => hg1 s H C cl fp [] fun _ _ => False) (fun s H C cl fp => ht1 s H C cl fp [] (fun _ _ => False) W0 takes0 .never) (fun s H C cl fp => he s H C cl fp [] (fun _ _ => False) W0 takes0 .never) hs hs1) fun Dn σ H q => ?_
  obtain ⟨ex, env, z⟩ := trS_expr q (relE X.K T)
  have g0 := z.1
  refine ⟨ex, env, (trx_bind (relI X.K T) rmE z).mono fun J H1 ⟨items, env1, s0, it, q⟩ D hD => ?_⟩
  obtain ⟨g1, r, er, o⟩ := q
  dsimp only at er
  cases w : compG (own.map (·.2)) t (bTwo vs1 c fi1 t1 (bOne c1 f)) items [] (wipeE env1 (own.map (·.2))) with
  | none => rw [w] at er; cases er
  | some p =>
    obtain ⟨acc, envF⟩ := p
    rw [w] at er
    dsimp only at er
    by_cases hlen : acc.length ≤ 1000000
    case neg => rw [if_neg hlen] at er; cases er
    case pos =>
    rw [if_pos hlen] at er
    cases er
    have it : ItOK X.K T (exO ex σ env1) H1 J items := it
    have gd1 := s0.gd
    have gw : Good X.K T ex σ H1 (wipeE env1 (own.map (·.2))) := gd1.wipe rfl fun _ _ => rfl
    have gm : Good X.K T (fun b => ex b ∨ b = D) σ (upd H1 D (.lst [])) (wipeE env1 (own.map (·.2))) := gw.more hD (ext_new hD) (by rw [upd_same]; exact fun z => nomatch z)
    have ow : ∀ {a}, Owns σ (wipeE env1 (own.map (·.2))) a → Owns σ env1 a := fun z => owns_wipe (fun _ _ => rfl) z
    refine comp_loop (ex := ex) (Dd := D) (Qd := fun H' => gName i (.ref D) σ H' Dn.nx) (bTwo_grows bOne_grows) body_two gm ⟨env1, rfl⟩ upd_same .nil it (fun b o n q => ⟨fun z => (by subst z; rw [hD] at q; cases q), fun z => n (.inl z), fun z => n (.inr (ow z)), ext_new hD b o q⟩) w hlen fun H' vb s eD ra => ?_
    have st : Step X.K T ex σ H1 env1 H' envF := by
      refine ⟨fun b ob q n => s.fr b ob (fun z => by subst z; rw [hD] at q; cases q) (ext_new hD b ob q) fun z => n (ow z), fun b q => s.dm b fun z => ?_, fun j c' q => ?_, s.gd.less⟩
      · cases w2 : H1 b with
        | none => exact q w2
        | some ob => rw [ext_new hD b ob w2] at z; cases z
      · obtain ⟨c2, z⟩ := s.sb j c' q
        rcases wipeE_get z with z | ⟨_, z⟩
        · cases z
        · exact ⟨c2, z⟩
    obtain ⟨ex2, env2, H02, env3, a, g2, s2, ra2, _, r2, e2, o2⟩ := o (.ref D) H' st ⟨D, rfl, hD, ⟨vb, eD, ra⟩, s.gd⟩
    cases e2
    exact o2 _ H' (Good.store hnp g2 s2 ra2)
end
end Dt
end
section
set_option maxRecDepth 100000
set_option maxHeartbeats 4000000
/-! QO: max(x, default=c); a module's whole number. -/
namespace Dt
open PySem PySem.Spec L2
open PyProof.Rows hiding St
section
variable {T : Tab} {X : Cx} {a b : Expr} {fa fb : M AV} {p pos kpos : Pos}
end
end Dt
end
section
set_option maxRecDepth 100000
set_option maxHeartbeats 4000000
/-! QZ: the law's own head for promises with room for repr (our turn of the library's). -/
namespace Dt
variable {NG : Prop}
open PySem PySem.Spec L2
open PyProof.Rows hiding St
theorem rg_caller {k : Nat} (h : Room k callerA) : RG NG k callerA := ⟨h, .inl rfl⟩
theorem law_callG {P : Program} {w : World} {K : PySem.W.Frag} {mg mb : Str → Option Value} {k : Nat} {fa a : Addr} {sp : Sp} {s₁ : Shared} {vs : List Value} {ns : List Int}
    (KX : K.In s₁.heap) (hns : s₁.heap.Ns mainGlobals mg) (hb : s₁.heap.Ns builtinsNs mb) (hbb : ∀ x : Str, x ≠ "__name__" → mb x = bootBuiltins x) (hlim : s₁.heap.NoLimit) (hg : s₁.gens = #[])
    (ha : s₁.heap.get? a = some { cls := .type "list", data := .seq vs.toArray }) (hi : IntsAre vs ns) (hl : ns.length ≤ sizeLine) (hr : RG NG k callerA)
    (F : ∀ base : Heap, K.In base → base.Ns mainGlobals mg → FnG NG P w K mg base k fa sp)
    (hsp : ∀ H : Hp, Only H → SqL K H a (ns.map V.int) → sp [.ref a] H (fun v _ => v = .bl true) fun _ _ _ => False) :
    codeAny (model P w) callerA (.call (.ref fa) ⟨[.ref a], []⟩) (fun r s' => r = .ok (.ret (.bool true)) ∧ OldK s₁.heap s'.heap ∧ s'.os = s₁.os ∧ AllBare s'.gens) s₁ := by
  have rv := vals_ints hi
  have lenV := hi.length
  -- from an abstract heap in which nothing but the script may be tracked
  have core : ∀ H : Hp, Only H → SqL K H a (ns.map V.int) → HOk P w H s₁.heap → (∀ b, H b ≠ none → b = a) → (H a ≠ none → K.lookup a = none) →
      codeAny (model P w) callerA (.call (.ref fa) ⟨[.ref a], []⟩) (fun r s' => r = .ok (.ret (.bool true)) ∧ OldK s₁.heap s'.heap ∧ s'.os = s₁.os ∧ AllBare s'.gens) s₁ := by
    intro H hO hS hok hA hK
    have base_of : ∀ {b : Addr} {o : Obj}, s₁.heap.get? b = some o → H b = none → (hidT s₁.heap H).get? b = some o := fun e n => hidT_get e n
    have noA : ∀ {b : Addr} {o : Obj} {es : Array DictEntry} {ep : Nat}, s₁.heap.get? b = some o → o.data = .dict es ep → H b = none := fun {b o es ep} e d => by
      cases q : H b with
      | none => rfl
      | some u =>
        have e' : b = a := hA b (by rw [q]; simp)
        subst e'
        rw [ha] at e; cases e
        have d' : Data.seq vs.toArray _ = Data.dict es ep := d
        cases d'
    have nsK : ∀ {b : Addr} {m : Str → Option Value}, s₁.heap.Ns b m → (hidT s₁.heap H).Ns b m := fun {b m} ⟨o, es, ep, e, d, r⟩ => ⟨o, es, ep, base_of e (noA e d), d, r⟩
    have hKb : K.In (hidT s₁.heap H) := fun b o e => base_of (KX b o e) (by
      cases q : H b with
      | none => rfl
      | some u =>
        have e' : b = a := hA b (by rw [q]; simp)
        subst e'
        rw [hK (by rw [q]; simp)] at e; cases e)
    have hM : Mod K mg (hidT s₁.heap H) := ⟨hKb, nsK hns, ⟨mb, nsK hb, hbb⟩, let ⟨mc, h1, h2⟩ := hlim; ⟨mc, nsK h1, h2⟩⟩
    have e0 : Env0 P w K mg (hidT s₁.heap H) callerA [] s₁ H := ⟨rfl, hM, fun b o e => of_hidT e, Nat.le_of_eq (hidT_size _ _), trivial, fun b hb => absurd (show b ∈ ([] : List Addr) from hb) (by simp), hok, .of_eq hg⟩
    refine codeAny_mono (F _ hKb (nsK hns) callerA [] s₁ H [.ref a] [.ref a] _ _ hr e0 (.cons rfl .nil) (hsp H hO hS)) fun r s' h => ?_
    cases r with
    | error e =>
      obtain ⟨_, _, _, _, _, _, _, _, _, _, _, _, z⟩ := h
      exact z.elim
    | ok fl =>
      cases fl with
      | next => exact False.elim h
      | brk => exact False.elim h
      | cont => exact False.elim h
      | ret u =>
        obtain ⟨v, H', os, bare, un, hok', r', q⟩ := h
        have q' : v = .bl true := q
        subst q'
        obtain rfl : u = Value.bool true := r'
        refine ⟨rfl, OldK.of_keep fun b o e => ?_, os, bare⟩
        cases q : H b with
        | none => exact un.keep b o e q (by intro z; exact absurd (show b ∈ ([] : List Addr) from z) (by simp)) (by simp)
        | some u =>
          rcases hO b with z | ⟨ob, xs, z⟩
          · rw [q] at z; cases z
          · have z2 := un.frzs b ob _ z
            obtain ⟨e1, _⟩ := hok b _ z
            obtain ⟨e2, _⟩ := hok' b _ z2
            rw [e] at e1; cases e1
            exact e2
  cases hk : K.lookup a with
  | some o =>
    -- the script is one of the module's own objects
    have e := KX a o hk
    rw [ha] at e
    cases e
    refine core (fun _ => none) (fun _ => .inl rfl) (.inr ⟨_, vs.toArray, _, hk, rfl, rfl, rfl, by rw [List.size_toArray, lenV]; exact hl, by simpa using rv⟩) (fun b u z => by have z' : (none : Option HO) = some u := z; cases z') (fun b z => absurd rfl z) fun z => absurd rfl z
  | none =>
    refine core (fun b => if b = a then some (.frz { cls := .type "list", data := .seq vs.toArray } (.lst (ns.map V.int))) else none) (fun b => ?_) (.inl (.inr ⟨{ cls := .type "list", data := .seq vs.toArray }, if_pos rfl⟩)) (fun b u z => ?_) (fun b z => ?_) fun _ => hk
    · by_cases hb : b = a
      · exact .inr ⟨_, _, if_pos hb⟩
      · exact .inl (if_neg hb)
    · by_cases hb : b = a
      · have z' := (if_pos hb).symm.trans z
        cases z'
        subst hb
        exact ⟨ha, by rw [List.length_map]; exact hl, vs, _, rv, ha⟩
      · have z' := (if_neg hb).symm.trans z
        cases z'
    · by_cases hb : b = a
      · exact hb
      · exact absurd (if_neg hb) z

/-- the law's promise, from its mirror -/
theorem law_sp {K : PySem.W.Frag} {T : Tab} {g : M EV} {H : Hp} {a : Addr} {ns : List Int} (hg : ∃ e, g [.val (.scr ns)] = some (.ok (.v (.bl true)) e)) (hO : Only H) (hS : SqL K H a (ns.map V.int)) (hT : LamX.Tabs T.tb H) : spD K T g [.ref a] H (fun v _ => v = .bl true) fun _ _ _ => False := by
  obtain ⟨e, hg⟩ := hg
  refine ⟨fun _ => False, [.val (.scr ns)], ⟨rfl, fun i d e => ?_, fun i c e => ?_, fun i j a c c' e1 e2 e3 e4 => ?_, fun a h => h.elim, hT⟩, _, hg, fun v H' s rv => rv⟩
  · match i, e with
    | 0, e =>
      cases e
      refine ⟨.ref a, rfl, a, rfl, ?_⟩
      rcases hS with (h | ⟨o, h⟩) | h
      · rcases hO a with z | ⟨o, xs, z⟩ <;> (rw [z] at h; cases h)
      · refine .inl ⟨fun z => ?_, o, h⟩
        rcases z with z | ⟨i, c, e1, e2⟩
        · exact z
        · match i, e1 with
          | 0, e1 => cases e1
          | i + 1, e1 => simp at e1
      · exact .inr h
    | i + 1, e => simp at e
  · match i, e with
    | 0, e => cases e
    | i + 1, e => simp at e
  · match i, e1 with
    | 0, e1 => cases e1
    | i + 1, e1 => simp at e1
theorem walkG {l : PySem.W.OpenLaw} {n k : Nat} {q : Program} {loose : List Str} {XP : (Str → Option Value) → Heap → Prop} {YP : World → Heap → Prop} {d : DefRec} {K : Params → PySem.W.Frag}
    (hn : l.most = some n) (hn2 : n ≤ sizeLine) (hdf : d.params.defaults = []) (hr : Room k callerA) (hY : ∀ (w : World) (h : Heap), YP w h → (K w.params).In h)
    (F : ∀ (w : World) (mg : Str → Option Value) (fa : Addr) (h : Heap), (K w.params).In h → h.Ns mainGlobals mg → mg d.name = some (.ref fa) →
      ∃ (T : Tab) (g : M EV), T.tb = [] ∧ (∀ ns : List Int, ns.length ≤ n → ∃ e, g [.val (.scr ns)] = some (.ok (.v (.bl true)) e)) ∧ ∀ base : Heap, (K w.params).In base → base.Ns mainGlobals mg → FnG NG l.prog w (K w.params) mg base k fa (spD (K w.params) T g)) :
    PySem.W.WalkO q loose XP YP l.row.toRowW d [] (fun f vs => PySem.call f vs) := by
  refine Att.attach_call hn hdf fun w s₀ s₁ mg mb fa o pm cd doc a vs ns G Y ho hd hcd hmg hobj hints hlen hg => ?_
  have KX := hY w _ Y
  obtain ⟨T, g, htb, hgt, hF⟩ := F w mg fa _ KX G.T.g hmg
  exact law_callG KX G.T.g G.T.b G.T.builtins G.T.nolimit hg hobj hints (Nat.le_trans hlen hn2) (rg_caller hr) hF fun H hO hS => law_sp (hgt ns hlen) hO hS (fun p hp => by rw [htb] at hp; cases hp)
end Dt
end
section
set_option maxRecDepth 100000
set_option maxHeartbeats 4000000
/-! QW: targets assigned, -i, tables of one class. -/
namespace Dt
variable {NG : Prop}
open PySem PySem.Spec L2
open PyProof.Rows hiding St

section
variable {T : Tab} {X : Cx} {np : Nat → Bool} {pos : Pos} {tg e : Expr} {f : M EV} {t : D → Sl → Option Sl}
end
/-! ### -i -/
def negD : D → Option EV
  | .int i => some (.v (.int (-i)))
  | _ => none
def eNeg (fa : M AV) : M EV := M.bind fa fun a => fun env => (deref env a).bind fun d => lift (negD d) env
theorem qe_neg {T : Tab} {X : Cx} {a : Expr} {fa : M AV} {pos : Pos} (h : QO T X a fa) : QE T X (.UnaryOp .USub a pos) (eNeg fa) := fun pn xe W tk hp =>
  impE (pe_un (X := X.tr pn xe) un_neg (h pn xe W tk hp)) fun σ H Q ⟨ex, env, q⟩ => ⟨ex, env, (trx_bind (relA X.K T) rmE q).mono fun v H1 ⟨a, env1, s, ra, g, r, er, o⟩ => by
    obtain ⟨d, e1, er⟩ := opt_bind er
    cases d with
    | int i =>
      cases er
      exact ⟨i, deref_ok g ra e1, o _ H1 (Step.refl g) rfl⟩
    | _ => cases er⟩

/-! ### tables of one class -/
def one {α : Type} (t0 : Nat) (g : α) : Nat → Option α := fun t => if t = t0 then some g else none
theorem one_inv {α : Type} {t0 t : Nat} {g g' : α} (h : one t0 g t = some g') : t = t0 ∧ g' = g := by
  unfold one at h
  split at h
  · cases h; exact ⟨by assumption, rfl⟩
  · cases h
section
variable {T : Tab} {X : Cx} {m : Str} {t0 k : Nat} {f p : Addr} {g : M EV}
theorem prop_one (hc : Cls X.K (T.cls t0)) (hp : PropOf X.K (T.cls t0) m p f) (hr : RG NG (k + 1) X.A) (F : FnQ NG T X k f g) : PropsOK NG T X m (one t0 g) :=
  ⟨fun t g' e => by obtain ⟨rfl, rfl⟩ := one_inv e; exact ⟨hc, p, f, k, hp, hr, F⟩⟩
theorem fld_one {K : PySem.W.Frag} {f : Str} {j0 : Nat} (h1 : (FL t0)[j0]? = some f) (hc : Cls K (T.cls t0)) (hn : NoAttr K (T.cls t0) f) : ∀ t j, one t0 j0 t = some j → (FL t)[j]? = some f ∧ Cls K (T.cls t) ∧ NoAttr K (T.cls t) f :=
  fun t j e => by obtain ⟨rfl, rfl⟩ := one_inv e; exact ⟨h1, hc, hn⟩
end
/-! ### built-in classes -/
def isInt : IsT := ⟨fun n => n == 2 || n == 1, fun _ => none⟩
def isBool : IsT := ⟨fun n => n == 1, fun _ => none⟩
def isStr : IsT := ⟨fun n => n == 3, fun _ => none⟩
def isTup : IsT := ⟨fun n => n == 4, fun _ => none⟩
def isLst : IsT := ⟨fun n => n == 5, fun _ => none⟩
def isDic : IsT := ⟨fun n => n == 6, fun _ => none⟩
theorem isok_of {K : PySem.W.Frag} {T : Tab} {I : IsT} {s : String} (h : ∀ n, n < 7 → kitB (kindT n) s = some (I.k n)) (ho : ∀ t, I.o t = none) : IsOK K T I (.type s) := ⟨fun n hn => kit_ty (h n hn), fun t b e => by rw [ho] at e; cases e⟩
theorem isok_str {K : PySem.W.Frag} {T : Tab} : IsOK K T isStr (.type "str") := isok_of (by decide +kernel) fun _ => rfl
/-- a def of the text, with its function object left open -/
structure Fx (K : PySem.W.Frag) (x qual : Str) (st : Stmt) (f : Addr) : Prop where
  kp : PySem.W.keepIn K (.ref f) = true
  ex : ∃ fd, Fun K x qual st f fd
theorem fx_of {K : PySem.W.Frag} {x qual : Str} {st : Stmt} {f : Addr} (h : ∃ (oc : Value) (od an : Option Addr) (sl : Array (Option Value)) (kV dc pm cd ct : Value), K.lookup f = some ⟨oc, od, .func (PySem.W.fnOf x qual (defArgs st) (defBody st) (defScope st) .none kV dc pm an cd ct), sl⟩ ∧ PySem.W.codeIn K cd qual = true)
    (k : PySem.W.keepIn K (.ref f) = true) : ∃ fd, Fun K x qual st f fd := by
  obtain ⟨oc, od, an, sl, kV, dc, pm, cd, ct, l, c⟩ := h
  exact ⟨_, fun_mk l c k⟩
/-- the room of a body -/
theorem RG.u64 {k : Nat} {A : Around} (h : RG NG k A) : A.units + 64 < cLine := by have := h.r.un; omega
theorem RG.u1 {k : Nat} {A : Around} (h : RG NG k A) : A.units + 1 < cLine := by have := h.r.un; omega
end Dt
end
section
set_option maxRecDepth 100000
set_option maxHeartbeats 4000000
/-! R1: several names from as many values, each kept as it is (owned, too). -/
namespace Dt
open PySem PySem.Spec L2
open PyProof.Rows hiding St
def sPar1 (i : Nat) (f : M EV) (g : S) : S := fun env => match f env with
  | some (.ok a e1) => match g e1 with
    | some (.nx e2) => some (.nx (e2.set i (slotOf a)))
    | some (.exc x e2) => some (.exc x e2)
    | _ => none
  | some (.exc x e1) => some (.exc x e1)
  | none => none
def parL : List (Nat × M EV) → S
  | [] => sNil
  | p :: r => sPar1 p.1 p.2 (parL r)
def trAsV (K : PySem.W.Frag) (T : Tab) (W : WX) : List (M EV) → TA
  | [], _, H, Q => Q [] H
  | f :: r, σ, H, Q => tr K T (relE K T) f W σ H fun v H1 => trAsV K T W r σ H1 fun vs H2 => Q (v :: vs) H2
def setAll : St → List Nat → List V → St
  | σ, i :: is, v :: vs => setAll (σ.set i (some v)) is vs
  | σ, _, _ => σ
theorem setAll_comm {i : Nat} {v : V} : ∀ (is : List Nat) (vs : List V) (σ : St), i ∉ is → (setAll σ is vs).set i (some v) = setAll (σ.set i (some v)) is vs
  | [], _, _, _ => by simp [setAll]
  | j :: is, [], _, _ => by simp [setAll]
  | j :: is, w :: vs, σ, h => by
    simp only [List.mem_cons, not_or] at h
    simp only [setAll]
    rw [setAll_comm is vs _ h.2, List.set_comm _ _ (Ne.symm h.1)]
section
variable {K : PySem.W.Frag} {T : Tab} {np : Nat → Bool} {W : WX}
theorem tr_par1 {σ : St} {H : Hp} {D : Ends} {i : Nat} {f : M EV} {g : S} (hi : np i = false) (h : trS K T np (sPar1 i f g) W D σ H) :
    tr K T (relE K T) f W σ H fun v H1 => trS K T np g W { D with nx := fun σ' H' => D.nx (σ'.set i (some v)) H' } σ H1 := by
  obtain ⟨ex, env, gd, r, er, o⟩ := h
  refine ⟨ex, env, gd, ?_⟩
  unfold sPar1 at er
  cases q : f env with
  | none => rw [q] at er; cases er
  | some ra =>
    rw [q] at er
    refine ⟨ra, rfl, ?_⟩
    cases ra with
    | exc x e1 => cases er; exact fun c d H' s rx => o c d σ H' s.s rx
    | ok av e1 =>
      intro v H1 s1 r1
      dsimp only at er
      cases q2 : g e1 with
      | none => rw [q2] at er; cases er
      | some rb =>
        rw [q2] at er
        cases av with
        | v d =>
          refine ⟨ex, e1, s1.gd, rb, q2, ?_⟩
          cases rb with
          | exc x e2 => cases er; exact fun c d σ' H' s rx => o c d σ' H' (s1.s.trans s) rx
          | nx e2 =>
            cases er
            intro σ' H2 t2
            exact o _ _ (Good.storeS (np := np) (ev := .v d) hi (s1.s.trans t2) (t2.rep r1))
          | bk e2 => cases er
          | ct e2 => cases er
          | rt v e2 => cases er
        | o c =>
          obtain ⟨a1, rfl, n1, ro, gx⟩ := r1
          refine ⟨_, e1, gx, rb, q2, ?_⟩
          cases rb with
          | exc x e2 =>
            cases er
            intro cc d σ' H' s rx
            refine o cc d σ' H' (s1.s.trans s.less) ⟨rx.1, rx.2.imp id ?_⟩
            rintro ⟨z, ws, h1, h2, l, rr⟩
            exact ⟨z, ws, h1, h2, l, rr.mono fun b o n e => ⟨fun z => n (z.imp .inl id), e⟩⟩
          | nx e2 =>
            cases er
            intro σ' H2 t2
            have ha1 : H1 a1 ≠ none := gx.dom a1 (.inr rfl)
            have na : ¬ Owns σ e1 a1 := fun z => (gx.owned z).2 (.inr rfl)
            have hk : H2 a1 = H1 a1 := by
              cases q3 : H1 a1 with
              | none => exact absurd q3 ha1
              | some oo => exact t2.fr a1 oo q3 na (ro.nt q3)
            refine o _ _ (Good.storeS (np := np) (v := .ref a1) (ev := .o c) hi (s1.s.trans t2.less) ⟨a1, rfl, fun z => gd.dom a1 z n1, fun z => (t2.gd.owned z).2 (.inr rfl), .inr n1, ro.monoT hk fun b o n e => ⟨fun z => ?_, t2.fr b o e fun z => n (.inl (.inr z))⟩, t2.gd⟩)
            rcases z with (z | z) | z
            · exact n (.inl (.inl z))
            · rcases t2.owns z with z | z
              · exact n (.inl (.inr z))
              · rw [z] at e; cases e
            · exact n (.inr z)
          | bk e2 => cases er
          | ct e2 => cases er
          | rt v e2 => cases er
theorem tr_mono {γ α : Type} {rel : Rl γ α} {f : M α} {σ : St} {H : Hp} {Q Q' : γ → Hp → Prop} (h : tr K T rel f W σ H Q) (k : ∀ v H', Q v H' → Q' v H') : tr K T rel f W σ H Q' := by
  obtain ⟨ex, env, z⟩ := h
  exact ⟨ex, env, z.mono k⟩
theorem trAsV_mono : ∀ (fs : List (M EV)) {σ : St} {H : Hp} {Q Q' : List V → Hp → Prop}, trAsV K T W fs σ H Q → (∀ vs H', Q vs H' → Q' vs H') → trAsV K T W fs σ H Q'
  | [], _, _, _, _, h, k => k _ _ h
  | f :: r, _, _, _, _, h, k => tr_mono h fun _ _ q => trAsV_mono r q fun vs H' q => k _ _ q
theorem tr_parL : ∀ (l : List (Nat × M EV)) {σ : St} {H : Hp} {D : Ends}, (∀ p ∈ l, np p.1 = false) → (l.map (·.1)).Nodup → trS K T np (parL l) W D σ H →
    trAsV K T W (l.map (·.2)) σ H fun vs H2 => vs.length = l.length ∧ ∀ H3, Ext H2 H3 → D.nx (setAll σ (l.map (·.1)) vs) H3
  | [], σ, H, D, _, _, h => by
    obtain ⟨ex, env, gd, r, er, o⟩ := h
    cases er
    refine ⟨rfl, fun H3 k => o σ H3 ?_⟩
    exact (Step.ext gd k).s
  | (i, f) :: r, σ, H, D, hp, hn, h => by
    rw [List.map_cons, List.nodup_cons] at hn
    refine tr_mono (tr_par1 (hp _ (List.mem_cons_self ..)) h) fun v H1 q => ?_
    refine trAsV_mono _ (tr_parL r (fun p hq => hp p (List.mem_cons_of_mem _ hq)) hn.2 q) fun vs H2 ⟨hl, q⟩ => ⟨by simp [hl], fun H3 k => ?_⟩
    have := q H3 k
    dsimp only at this
    rw [setAll_comm _ _ _ hn.1] at this
    exact this
end
section
variable {T : Tab} {X : Cx} {np : Nat → Bool}
/-- values, one behind the other -/
def QVs (T : Tab) (X : Cx) (es : List Expr) (fs : List (M EV)) : Prop := ∀ pn xe W, Takes (X.tr pn xe) W → PassesOwn (model X.prog X.w) X.A X.env xe → PA (X.tr pn xe) es (trAsV X.K T W fs)
theorem qvs_nil : QVs T X [] [] := fun pn xe W tk hp => impA pa_nil fun σ H Q q => q
theorem qvs_cons {e : Expr} {es : List Expr} {f : M EV} {fs : List (M EV)} (h : QE T X e f) (t : QVs T X es fs) (hs : starEach (e :: es) X.env = (false, eval e X.env) :: starEach es X.env := by rfl) : QVs T X (e :: es) (f :: fs) := fun pn xe W tk hp =>
  impA (pa_cons (h pn xe W tk hp) (t pn xe W tk hp) hs) fun σ H Q q => q
def gAll : List Nat → TGs
  | [] => gNil
  | i :: is => gCons (gName i) (gAll is)
theorem gAll_set : ∀ (is : List Nat) (vs : List V) {σ : St} {H : Hp} {Q : St → Hp → Prop}, vs.length = is.length → Q (setAll σ is vs) H → gAll is vs σ H Q
  | [], [], _, _, _, _, q => ⟨rfl, q⟩
  | i :: is, v :: vs, _, _, _, h, q => ⟨v, vs, rfl, gAll_set is vs (by simpa using h) q⟩
  | [], _ :: _, _, _, _, h, _ => by simp at h
  | _ :: _, [], _, _, _, h, _ => by simp at h
def QNs (X : Cx) (tgs : List Expr) (is : List Nat) : Prop := ∀ pn xe, PGs (X.tr pn xe) tgs (gAll is)
theorem qns_nil : QNs X [] [] := fun pn xe => pgs_nil
theorem qns_cons {x : Str} {px : Pos} {tgs : List Expr} {is : List Nat} (i : Nat) (hN : X.N.Nodup) (t : QNs X tgs is) (hi : X.N[i]? = some x := by rfl) (hx : Loc X.env.scope x := by first | exact Or.inl rfl | exact Or.inr rfl) (hf : X.fn x = true ∨ X.env.scope.names.lookup x = some .local := by first | exact .inl rfl | exact .inr rfl)
    (ha : (assignEach (.Name x px :: tgs) X.env).map (·.2) = assign (.Name x px) X.env :: (assignEach tgs X.env).map (·.2) := by rfl) : QNs X (.Name x px :: tgs) (i :: is) := fun pn xe =>
  pgs_cons (pg_name hN hi hx hf) (t pn xe) ha
theorem qs_parT {es tgs : List Expr} {kt k2 : Nat} {pt pt2 pos : Pos} (l : List (Nat × M EV)) {is : List Nat} {fs : List (M EV)} (hc : X.calm = true) (ha : QVs T X es fs) (hg : QNs X tgs is) (hf : l.map (·.2) = fs := by rfl) (hi : l.map (·.1) = is := by rfl) (hl : l.length ≤ 100 := by decide) (hnd : (l.map (·.1)).Nodup := by decide) (hnp : ∀ p ∈ l, np p.1 = false := by simp; try decide)
    (hs : swapsWithSole [.Tuple tgs kt pt] (.Tuple es k2 pt2) pos.line X.env = pure false := by rfl) (hw : swappedStores [.Tuple tgs kt pt] (.Tuple es k2 pt2) X.env = pure none := by rfl)
    (h1 : (assignEach [.Tuple tgs kt pt] X.env).map (·.2) = [assign (.Tuple tgs kt pt) X.env] := by rfl) (hn : (assignEach tgs X.env).length = is.length := by rfl) (hst : (assignEach tgs X.env).findIdx? (·.1) = none := by rfl) :
    QS T X np (.Assign [.Tuple tgs kt pt] (.Tuple es k2 pt2) pos) (parL l) := fun pn xe W tk hp => by
  subst hf; subst hi
  refine impS (ps_asg (X := X.tr pn xe) (pe_tup (ha pn xe W tk hp)) (pg_tup (X := X.tr pn xe) hc (hg pn xe) hn hst) hs hw h1) fun D σ H q => ?_
  refine trAsV_mono _ (tr_parL l hnp hnd q) fun vs H2 ⟨hv, q⟩ => ⟨by simp only [sizeLine]; omega, fun p hp => ⟨p, vs, rfl, ?_, by simp [hv], gAll_set _ _ (by simp [hv]) (q _ (ext_new hp))⟩⟩
  exact .of upd_same
end
end Dt
end
section
set_option maxRecDepth 100000
set_option maxHeartbeats 4000000
/-! R2: a key in a dict; a name's augmented assignment. -/
namespace Dt
variable {NG : Prop}
open PySem PySem.Spec L2
open PyProof.Rows hiding St
def dinD (n : Bool) : D → D → Option EV := fun x y => match y with
  | .dic ks vs => (keyD x).map fun k => vB (n ^^ ks.any fun a => decide (a = k))
  | _ => none
theorem valV_zip {k : Key} : ∀ {ks : List Key} {vs : List V}, ks.length = vs.length → (valV (ks.zip vs) k).isSome = ks.any fun a => decide (a = k)
  | [], [], _ => by simp [valV]
  | a :: ks, v :: vs, h => by
    have ih := valV_zip (k := k) (ks := ks) (vs := vs) (by simpa using h)
    unfold valV at ih ⊢
    rw [List.zip_cons_cons, List.find?_cons]
    by_cases e : a = k
    · simp [e]
    · simp only [e, decide_false, List.any_cons, Bool.false_or]
      exact ih
  | [], _ :: _, h => by simp at h
  | _ :: _, [], h => by simp at h
theorem key_v {K : PySem.W.Frag} {T : Tab} {ex : Addr → Prop} {H : Hp} {d : D} {v : V} {k : Key} (e : keyD d = some k) (r : Rd1 K T ex H d v) : v = kV k := by
  cases d with
  | int i => cases e; exact r
  | str s => cases e; exact r
  | _ => cases e
section
variable {T : Tab} {X : Cx}
theorem din_get {K : PySem.W.Frag} {n : Bool} {x y : V} {H : Hp} {Q : VK} (h : rQ K T (dinD n) x y H Q) : ∃ a k o, y = .ref a ∧ x = kV k ∧ DGet H a x o ∧ Q (.bl (n ^^ o.isSome)) H := by
  obtain ⟨ex, d1, d2, ev, dm, r1, r2, e, k⟩ := h
  unfold dinD at e
  split at e
  · obtain ⟨key, e1, rfl⟩ := Option.map_eq_some_iff.mp e
    obtain ⟨a, vs, rfl, h1, h2, h3⟩ := r2
    have := key_v e1 r1
    subst this
    refine ⟨a, key, _, rfl, rfl, DGet.k h1, k _ H ext_refl ?_⟩
    show V.bl _ = V.bl _
    rw [valV_zip h2]
  · cases e
theorem op_din (hu : X.A.units + 1 < cLine) : OpR X (compareOp .In) (rQ X.K T (dinD false)) := fun pins s σ H x y v u Q I rx ry h => by
  obtain ⟨a, k, o, rfl, rfl, g, q⟩ := din_get h
  obtain rfl : u = Value.ref a := ry
  exact d_in hu I g rx fun s3 I3 => ⟨.bl o.isSome, H, I3, rfl, by simpa using q⟩
end
def inX := orD inD (orD (inP false) (dinD false))
def ninX := orD ninD (orD (inP true) (dinD true))
section
variable {T : Tab} {X : Cx}
theorem op_dnin (hu : X.A.units + 1 < cLine) : OpR X (compareOp .NotIn) (rQ X.K T (dinD true)) := fun pins s σ H x y v u Q I rx ry h => by
  obtain ⟨a, k, o, rfl, rfl, g, q⟩ := din_get h
  obtain rfl : u = Value.ref a := ry
  exact d_notIn hu I g rx fun s3 I3 => ⟨.bl (!o.isSome), H, I3, rfl, by simpa using q⟩
/-- nested data in a list -/
theorem inP_ok {n : Bool} {x y : V} {H : Hp} {Q : VK} (h : rQ X.K T (inP n) x y H Q) : ∃ d ds, Dp X.K H x d ∧ Dp X.K H y (.list ds) ∧ SeqAt.shaped d = true ∧ SeqAt.shaped (.list ds) = true ∧ Q (.bl (n ^^ ds.any fun z => PyData.eqv z d)) H := by
  obtain ⟨ex, d1, d2, ev, dm, r1, r2, e, k⟩ := h
  unfold inP at e
  split at e
  · split at e
    · split at e
      · rename_i hs
        cases e
        rename_i p qs e1 e2
        exact ⟨p, qs, r1.dp e1, Rd1.dp (d := .lst _) r2 (by simp [toP, e2]), hs.1, hs.2, k _ H ext_refl rfl⟩
      · cases e
    · cases e
  · cases e
theorem op_inP (hu : X.A.units + 65 < cLine) : OpR X (compareOp .In) (rQ X.K T (inP false)) := op_of (op_inD hu) fun x y H Q h => by
  obtain ⟨d, ds, h1, h2, h3, h4, q⟩ := inP_ok h
  exact ⟨d, ds, h1, h2, h3, h4, by simpa using q⟩
theorem op_ninP (hu : X.A.units + 65 < cLine) : OpR X (compareOp .NotIn) (rQ X.K T (inP true)) := op_of (op_notInD hu) fun x y H Q h => by
  obtain ⟨d, ds, h1, h2, h3, h4, q⟩ := inP_ok h
  exact ⟨d, ds, h1, h2, h3, h4, by simpa using q⟩
theorem op_inX (hu : X.A.units + 65 < cLine) : OpR X (compareOp .In) (rQ X.K T inX) := op_or op_inQ (op_or (op_inP hu) (op_din (by omega)))
theorem op_ninX (hu : X.A.units + 65 < cLine) : OpR X (compareOp .NotIn) (rQ X.K T ninX) := op_or op_notInQ (op_or (op_ninP hu) (op_dnin (by omega)))
end
theorem RG.u65 {k : Nat} {A : Around} (h : RG NG k A) : A.units + 65 < cLine := by have := h.r.un; omega
end Dt
end
section
set_option maxRecDepth 100000
set_option maxHeartbeats 4000000
/-! R3: a staticmethod called by its class; isinstance against the package's own class; a name's augmented assignment. -/
namespace Dt
variable {NG : Prop}
open PySem PySem.Spec L2
open PyProof.Rows hiding St
/-- C.m is a staticmethod: its record at p, its def at g -/
structure SMet (K : PySem.W.Frag) (C : Addr) (mc : Value) (m : Str) (p g : Addr) : Prop where
  at_ : PySem.W.findCls K (.ref C) mc m = some (.get (.builtin "staticmethod.__get__") (.ref p) .none (.ref C))
  rc : ∃ rest, PySem.W.recIn K p "staticmethod" = some (.ref g :: rest)
  kp : PySem.W.keepIn K (.ref g) = true
section
variable {X : Cx} {k : Nat} {C p g0 : Addr} {mc : Value} {sp : Sp} {o e : Expr} {es : List Expr} {m : Str} {pos apos : Pos} {ta : TE} {t : TA} {pl : Sem Bool} {W : WX}
end
section
variable {T : Tab} {X : Cx} {k : Nat} {C pr g0 : Addr} {mc : Value} {g : M EV} {x m : Str} {p apos pos : Pos} {e : Expr} {es : List Expr} {fs : M (List AV)} {pl : Sem Bool}
end
/-! ### isinstance(x, Board) -/
def isObj (ok : Nat → Option Bool) : IsT := ⟨fun _ => false, ok⟩
theorem isok_obj {K : PySem.W.Frag} {T : Tab} {ok : Nat → Option Bool} {C : Addr} (hk : ∀ n, n < 7 → PySem.W.kitOne K (.type (kindT n)) (.ref C) = some false)
    (ho : ∀ t b, ok t = some b → PySem.W.kitOne K (.ref (T.cls t)) (.ref C) = some b ∧ Cls K (T.cls t) ∧ PySem.W.findIn K (.ref (T.cls t)) "__class__" = some (some (.builtin "object.__class__")) ∧
      PySem.W.specialIn K (.builtin "object.__class__") "__get__" = some (some (.builtin "getset_descriptor.__get__")) ∧ PySem.W.takesIn K (.builtin "object.__class__") = some true ∧ PySem.W.mroIn K (T.cls t) (.type "object") = some true) : IsOK K T (isObj ok) (.ref C) := ⟨hk, ho⟩
theorem kit7 {K : PySem.W.Frag} {C : Addr} (h0 : PySem.W.kitOne K (.type "NoneType") (.ref C) = some false) (h1 : PySem.W.kitOne K (.type "bool") (.ref C) = some false) (h2 : PySem.W.kitOne K (.type "int") (.ref C) = some false) (h3 : PySem.W.kitOne K (.type "str") (.ref C) = some false) (h4 : PySem.W.kitOne K (.type "tuple") (.ref C) = some false) (h5 : PySem.W.kitOne K (.type "list") (.ref C) = some false) (h6 : PySem.W.kitOne K (.type "dict") (.ref C) = some false) : ∀ n, n < 7 → PySem.W.kitOne K (.type (kindT n)) (.ref C) = some false := fun n hn => by
  match n, hn with
  | 0, _ => exact h0
  | 1, _ => exact h1
  | 2, _ => exact h2
  | 3, _ => exact h3
  | 4, _ => exact h4
  | 5, _ => exact h5
  | 6, _ => exact h6
def is_Board : IsT := isObj (one 0 true)
theorem one_inv2 {α : Type} {t0 t : Nat} {g b : α} (h : one t0 g t = some b) : t = t0 ∧ b = g := by
  unfold one at h
  split at h
  · cases h; exact ⟨by assumption, rfl⟩
  · cases h
end Dt
end
section
set_option maxRecDepth 100000
set_option maxHeartbeats 4000000
/-! R4: tuple * 1, list.count of texts, texts by <= and >=. -/
namespace Dt
open PySem PySem.Spec L2
open PyProof.Rows hiding St
/-! ### texts compared -/
def leS : D → D → Option EV := fun x y => match x, y with
  | .str a, .str b => some (vB (!decide (b < a)))
  | _, _ => none
def geS : D → D → Option EV := fun x y => match x, y with
  | .str a, .str b => some (vB (!decide (a < b)))
  | _, _ => none
def leD := orD leI leS
def geD := orD geI geS
section
variable {T : Tab} {X : Cx}
theorem op_leS : OpR X (compareOp .LtE) (rQ X.K T leS) := op_of op_le_str fun x y H Q ⟨ex, d1, d2, ev, dm, r1, r2, e, k⟩ => by
  unfold leS at e
  split at e
  · rename_i a b
    cases e
    cases (show x = V.str (mkS a) from r1)
    cases (show y = V.str (mkS b) from r2)
    refine ⟨_, _, rfl, rfl, k _ H ext_refl ?_⟩
    show V.bl _ = V.bl _
    rw [mkS_cps, mkS_cps]
  · cases e
theorem op_leQ : OpR X (compareOp .LtE) (rQ X.K T leD) := op_or op_leI op_leS
end
/-! ### tuple * 1 -/
theorem tuple_mulW1 (l : Addr) (items : Array Value) (n : Nat) (dd : Option Addr) (sl : Array (Option Value)) (u : Tok) (c1 : (items.isEmpty || (1 : Int) == 1) = true) :
    Meets (Builtin.«tuple.__mul__» ⟨[.ref l, .int 1 u], []⟩) (fun _ R s => s.heap.get? l = some { cls := .type "tuple", dict := dd, data := .seq items n, slots := sl } ∧
      R (.ok (.ret (Value.ref l))) { s with heap := s.heap, toks := s.toks }) :=
  .of_wp fun prog w A R s h => by
    obtain ⟨hp, g, d, tk, os⟩ := s
    obtain ⟨hl, h⟩ := h
    have f1 := AutoSeq1.idx_int
    wp_walk using wpAny_loadPart' hl
    repeat (first
      | (refine wpAny_ite_false (decide_eq_false (by decide)) ?_; wp_walk using wpAny_loadPart' hl)
      | (refine wpAny_ite_true (by rw [c1]; rfl) ?_; wp_walk using wpAny_loadPart' hl))
    exact ⟨_, rfl, h⟩
def rRepT1 (K : PySem.W.Frag) : R2 := fun x y H Q => ∃ l xs, x = .ref l ∧ y = .int 1 ∧ SqT K H l xs ∧ Q (.ref l) H
theorem op_repT1 {X : Cx} : OpR X (binaryOp .Mult) (rRepT1 X.K) := by
  intro pins s σ H x y v u Q I rx ry h
  obtain ⟨l, xs, rfl, rfl, hT, q⟩ := h
  cases rx
  obtain ⟨t, rfl⟩ := ry
  obtain ⟨its, r, ⟨⟨cls, dd, data, sl⟩, ho, hc, n, hd⟩, hs⟩ := I.tuple hT
  simp only at hc hd
  subst hc hd
  refine wpAny_binaryOp_repeat_ref (T := "tuple") (U := "int") (by decide) ⟨_, ho, rfl⟩ (fun s' => typeIs_int s' 1 t) noFill_tuple_mul F.fills_int_mul F.slot_int_rmul repeat_tuple F.slot_int_index.lookup
    (call_meets F.slot_int_rmul (typeIs_int s 1 t) F.entry_int_rmul (F.args_int_rmul_2 _ _) (int_rmul_tuple 1 t l its.toArray n dd sl)
      ⟨ho, rfl, ⟨_, ho, rfl⟩, call_meets F.slot_tuple_mul ⟨_, ho, rfl⟩ F.entry_tuple_mul (F.args_tuple_mul_2 _ _) (tuple_mulW1 l its.toArray n dd sl t (by simp)) ⟨ho, ?_⟩⟩)
  exact ⟨.ref l, H, I, rfl, q⟩
def mulT1 : D → D → Option EV := fun x y => match x, y with
  | .tup xs, .int n => if n = 1 then some (.v (.tup xs)) else none
  | _, _ => none
section
variable {T : Tab} {X : Cx}
theorem op_mulT1 : OpR X (binaryOp .Mult) (rQ X.K T mulT1) := op_of op_repT1 fun x y H Q ⟨ex, d1, d2, ev, dm, r1, r2, e, k⟩ => by
  unfold mulT1 at e
  split at e
  · split at e
    · rename_i xs n h
      cases e
      subst h
      obtain ⟨a, vs, rfl, hn, h1, h2⟩ := r1
      exact ⟨a, vs, rfl, r2, .of h1, k _ H ext_refl ⟨a, vs, rfl, hn, h1, h2⟩⟩
    · cases e
  · cases e
end
def mulX := orD mulD mulT1
section
variable {T : Tab} {X : Cx}
theorem op_mulX : OpR X (binaryOp .Mult) (rQ X.K T mulX) := op_or op_mulQ op_mulT1
end
def lcountD : List D → Option EV
  | [.lst xs, .str b] => (strsOf xs).map fun ys => vI (ys.count b : Nat)
  | _ => none
section
variable {T : Tab} {X : Cx} {o e : Expr} {pos apos : Pos} {fs : M (List AV)} {fo : M AV}
end
end Dt
end
section
set_option maxRecDepth 100000
set_option maxHeartbeats 4000000
/-! R5: repr of any plain data. -/
namespace Dt
open PySem PySem.Spec L2
open PyProof.Rows hiding St
def reprX : List D → Option EV
  | [d] => (toP d).bind fun p => if p.showable = true ∧ p.hasDict = false ∧ p.shown.length ≤ big ∧ p.depth ≤ 60 then some (.v (.str (shownS p))) else none
  | _ => none
theorem cr_reprX {X : Cx} {T : Tab} (hgd : X.A.guards = some []) (hu : X.A.units + 64 < cLine) : CallR X (.builtin "repr") (rB X.K T reprX) := by
  intro pins s σ H xs us Q I rvs ⟨ex, ds, ev, dm, r1, e, k⟩
  unfold reprX at e
  split at e
  · rename_i d
    obtain ⟨p, hp, e⟩ := opt_bind e
    split at e
    · rename_i hh
      obtain ⟨h1, h2, h3, h4⟩ := hh
      cases e
      obtain ⟨v, rfl, rd⟩ := one_of r1
      obtain ⟨u, rfl, rv⟩ := vals1 rvs
      have fin : Q (.str p.shown) H := k _ H ext_refl (by show V.str _ = V.str (mkS (shownS p)); unfold shownS; rw [mkS_tl])
      have refd : ∀ a, v = .ref a → wpAny (model X.prog X.w) X.A (call (.builtin "repr") [u]) (EP X pins σ Q) X.xe s := fun a ea => by
        subst ea
        obtain rfl : u = Value.ref a := rv
        obtain ⟨as, rr⟩ := Dp.reads I p _ _ (rd.dp hp) (show RelV (V.ref a) (Value.ref a) from rfl)
        exact repr_of_reads' rr h1 (fun z => by rw [h2] at z; cases z) hgd (by omega) (fun _ _ z => z) (fun h' u' tk hk => ⟨.str p.shown, H, I.kept (t' := tk) hk, ⟨_, rfl⟩, fin⟩) (Nat.le_trans h3 big_line)
      cases d with
      | non =>
        cases hp
        cases (show v = _ from rd)
        cases (show u = .none from rv)
        exact PySem.P.repr_of_none ⟨.str _, H, I.tok _, ⟨_, rfl⟩, fin⟩
      | bl b =>
        cases hp
        cases (show v = _ from rd)
        cases (show u = .bool b from rv)
        exact PySem.P.repr_of_bool ⟨.str _, H, I.tok _, ⟨_, rfl⟩, fin⟩
      | int i =>
        cases hp
        cases (show v = _ from rd)
        obtain ⟨t, rfl⟩ := rv
        exact PySem.P.repr_of_int (of_decide_eq_true h1) ⟨.str _, H, I.tok _, ⟨_, rfl⟩, fin⟩
      | str z =>
        cases hp
        cases (show v = _ from rd)
        obtain ⟨t, rfl⟩ := rv
        exact PySem.P.repr_of_str ⟨.str _, H, I.tok _, ⟨_, rfl⟩, fin⟩ (Nat.le_trans h3 big_line)
      | lst z => obtain ⟨a, _, ea, _⟩ := rd; exact refd a ea
      | tup z => obtain ⟨a, _, ea, _⟩ := rd; exact refd a ea
      | dic a b => cases hp
      | obj a b => cases hp
      | raw a => cases hp
      | scr a => cases hp
      | clo f us ds => cases hp
    · cases e
  · cases e
/-! ### what may be shown -/
def Shw (d : D) (w k : Nat) : Prop := ∃ p, toP d = some p ∧ p.canLay0 = true ∧ p.showable = true ∧ p.hasDict = false ∧ p.leavesShort 20 = true ∧ p.weight ≤ w ∧ p.depth ≤ k
def ShwL (ds : List D) (w k : Nat) : Prop := ∃ ps, toPL ds = some ps ∧ PyData.canLayAll0 ps = true ∧ PyData.showableAll ps = true ∧ PyData.hasDictAll ps = false ∧ PyData.leavesShortAll 20 ps = true ∧ PyData.weightAll ps ≤ w ∧ PyData.depthAll ps ≤ k
theorem Shw.mono {d : D} {w w' k k' : Nat} (h : Shw d w k) (h1 : w ≤ w') (h2 : k ≤ k') : Shw d w' k' := by
  obtain ⟨p, a, b0, b, c, e, f, g⟩ := h
  exact ⟨p, a, b0, b, c, e, by omega, by omega⟩
theorem ShwL.mono {d : List D} {w w' k k' : Nat} (h : ShwL d w k) (h1 : w ≤ w') (h2 : k ≤ k') : ShwL d w' k' := by
  obtain ⟨p, a, b0, b, c, e, f, g⟩ := h
  exact ⟨p, a, b0, b, c, e, by omega, by omega⟩
theorem shw_int {i : Int} (h : -1000000000000 ≤ i ∧ i ≤ 1000000000000) : Shw (.int i) 64 0 := by
  have h0 : i.natAbs < 10 ^ 13 := by omega
  have h1 : i.natAbs.log2 < 63 := by
    by_cases z : i.natAbs = 0
    · rw [z]; decide
    · exact (Nat.log2_lt z).mpr (by omega)
  refine ⟨.int i, rfl, rfl, ?_, rfl, ?_, ?_, by simp [PyData.depth]⟩
  · exact decide_eq_true (by omega)
  · refine decide_eq_true ?_
    have := int_text_length_le10 (a := i) (k := 13) (by decide) h0
    show (Str.ofString (toString i)).length ≤ 20
    rw [PySem.ofString_length]
    omega
  · simp only [PyData.weight]
    split <;> omega
theorem shw_str {s : List Nat} (h : ∀ c ∈ s, c < 1114112) : Shw (.str s) s.length 0 := by
  refine ⟨.str (mkS s), rfl, ?_, rfl, rfl, ?_, ?_, by simp [PyData.depth]⟩
  · simp only [PyData.canLay0, PyData.strOk, mkS, Array.all_eq_true]
    intro i hi
    exact decide_eq_true (h _ (by simp))
  · simp only [PyData.leavesShort, mkS_cps]
    exact List.all_eq_true.mpr fun c hc => decide_eq_true (by have := h c hc; omega)
  · simp [PyData.weight, mkS]
theorem shwL_nil : ShwL [] 0 0 := ⟨[], rfl, rfl, rfl, rfl, rfl, by simp [PyData.weightAll], by simp [PyData.depthAll]⟩
theorem shwL_cons {d : D} {ds : List D} {w w' k k' : Nat} (h : Shw d w k) (t : ShwL ds w' k') : ShwL (d :: ds) (w + 1 + w') (max k k') := by
  obtain ⟨p, h1, h0, h2, h3, h4, h5, h6⟩ := h
  obtain ⟨ps, t1, t0, t2, t3, t4, t5, t6⟩ := t
  refine ⟨p :: ps, by simp [toPL, h1, t1], ?_, ?_, ?_, ?_, ?_, ?_⟩
  · simp only [PyData.canLayAll0, h0, t0]; rfl
  · simp only [PyData.showableAll, h2, t2]; rfl
  · simp only [PyData.hasDictAll, h3, t3]; rfl
  · simp only [PyData.leavesShortAll, h4, t4]; rfl
  · simp only [PyData.weightAll]; omega
  · simp only [PyData.depthAll]; omega
theorem shwL_map {α : Type} {f : α → D} {w k : Nat} : ∀ {l : List α}, (∀ a ∈ l, Shw (f a) w k) → ShwL (l.map f) (l.length * (w + 1)) k
  | [], _ => shwL_nil.mono (by simp) (by omega)
  | a :: l, h => (shwL_cons (h a (List.mem_cons_self ..)) (shwL_map fun a ha => h a (List.mem_cons_of_mem _ ha))).mono (by simp only [List.length_cons, Nat.succ_mul]; omega) (by omega)
theorem shw_lst {ds : List D} {w k : Nat} (h : ShwL ds w k) : Shw (.lst ds) w (k + 1) := by
  obtain ⟨ps, t1, t0, t2, t3, t4, t5, t6⟩ := h
  exact ⟨.list ps, by simp [toP, t1], by simpa [PyData.canLay0] using t0, by simpa [PyData.showable] using t2, by simpa [PyData.hasDict] using t3, by simpa [PyData.leavesShort] using t4, by simpa [PyData.weight] using t5, by simpa [PyData.depth] using t6⟩
theorem shw_tup {ds : List D} {w k : Nat} (h : ShwL ds w k) : Shw (.tup ds) w (k + 1) := by
  obtain ⟨ps, t1, t0, t2, t3, t4, t5, t6⟩ := h
  exact ⟨.tuple ps, by simp [toP, t1], by simpa [PyData.canLay0] using t0, by simpa [PyData.showable] using t2, by simpa [PyData.hasDict] using t3, by simpa [PyData.leavesShort] using t4, by simpa [PyData.weight] using t5, by simpa [PyData.depth] using t6⟩
/-- what repr gives -/
def shwT (d : D) : List Nat := match toP d with
  | some p => shownS p
  | none => []
theorem repr_shw {d : D} {w k : Nat} (h : Shw d w k) (hw : w ≤ 40000) (hk : k ≤ 60) : reprX [d] = some (.v (.str (shwT d))) := by
  obtain ⟨p, h1, h0, h2, h3, h4, h5, h6⟩ := h
  have := PyData.shown_le 20 (by omega) p h4
  simp only [reprX, shwT, h1, Option.bind]
  rw [if_pos ⟨h2, h3, by unfold big; omega, by omega⟩]
/-! ### nested data compared -/
def pOf (d : D) : PyData := (toP d).getD .none
theorem eqP_shw {n : Bool} {d e : D} {w k w' k' : Nat} (h : Shw d w k) (h' : Shw e w' k') (hk : k ≤ 60) (hk' : k' ≤ 60) : eqP n d e = some (vB (n ^^ PyData.eqv (pOf d) (pOf e))) := by
  obtain ⟨p, h1, h0, h2, h3, h4, h5, h6⟩ := h
  obtain ⟨q, g1, g0, g2, g3, g4, g5, g6⟩ := h'
  simp only [eqP, pOf, h1, g1, Option.getD]
  rw [if_pos ⟨by unfold SeqAt.shaped; rw [h0, decide_eq_true (by omega)]; rfl, by unfold SeqAt.shaped; rw [g0, decide_eq_true (by omega)]; rfl⟩]
theorem eqD_P {d e : D} (h : scalD d e = false) : eqD d e = eqP false d e := by
  show (match eqS d e with | some r => some r | none => eqP false d e) = _
  rw [show eqS d e = none from if_neg (by rw [h]; decide)]
theorem neD_P {d e : D} (h : scalD d e = false) : neD d e = eqP true d e := by
  show (match neS d e with | some r => some r | none => eqP true d e) = _
  rw [show neS d e = none from if_neg (by rw [h]; decide)]
@[simp] theorem pOf_int (i : Int) : pOf (.int i) = .int i := rfl
@[simp] theorem pOf_str (s : List Nat) : pOf (.str s) = .str (mkS s) := rfl
theorem toPL_pOf : ∀ {ds : List D} {ps : List PyData}, toPL ds = some ps → ps = ds.map pOf
  | [], ps, h => by cases h; rfl
  | d :: ds, ps, h => by
    unfold toPL at h
    obtain ⟨p, h1, h⟩ := opt_bind h
    obtain ⟨qs, h2, rfl⟩ := Option.map_eq_some_iff.mp h
    rw [toPL_pOf h2]
    simp [pOf, h1]
theorem pOf_lst {ds : List D} {w k : Nat} (h : ShwL ds w k) : pOf (.lst ds) = .list (ds.map pOf) := by
  obtain ⟨ps, h1, _⟩ := h
  have := toPL_pOf h1
  unfold pOf
  simp only [toP, h1, Option.map, Option.getD]
  rw [this]; rfl
theorem pOf_tup {ds : List D} {w k : Nat} (h : ShwL ds w k) : pOf (.tup ds) = .tuple (ds.map pOf) := by
  obtain ⟨ps, h1, _⟩ := h
  have := toPL_pOf h1
  unfold pOf
  simp only [toP, h1, Option.map, Option.getD]
  rw [this]; rfl
theorem eqvAll_nil : ∀ ps : List PyData, PyData.eqvAll ps [] = ps.isEmpty
  | [] => rfl
  | _ :: _ => rfl
end Dt
end
section
set_option maxRecDepth 100000
set_option maxHeartbeats 4000000
/-! R6: e[::-1]; repr of data that has dicts. -/
namespace Dt
open PySem PySem.Spec L2
open PyProof.Rows hiding St
section
variable {prog : Program} {w : World} {A : Around} {E : Value → Shared → Prop} {s : Shared}
end
section
variable {X : Cx} {T : Tab}
theorem RepL.reverse {K : PySem.W.Frag} {ex : Addr → Prop} {H : Hp} : ∀ {ds : List D} {vs : List V}, RepL K T ex H ds vs → RepL K T ex H ds.reverse vs.reverse
  | [], vs, e => by cases (show vs = [] from e); exact .nil
  | d :: ds, _, ⟨v, r, e, h1, h2⟩ => by
    subst e
    rw [List.reverse_cons, List.reverse_cons]
    exact (RepL.reverse h2).append (.one h1)
end

/-! ### repr of data that has dicts (and no lists) -/
def keyP : Key → PyData
  | .inl i => .int i
  | .inr x => .str x
mutual
def toQ : D → Option PyData
  | .non => some .none
  | .bl b => some (.bool b)
  | .int i => some (.int i)
  | .str s => some (.str (mkS s))
  | .tup xs => (toQL xs).map .tuple
  | .dic ks xs => if ks.length = xs.length then (toQL xs).map fun ps => .dict ((ks.map keyP).zip ps) else none
  | _ => none
def toQL : List D → Option (List PyData)
  | [] => some []
  | d :: ds => (toQ d).bind fun p => (toQL ds).map (p :: ·)
end
theorem toQL_len : ∀ {ds : List D} {ps : List PyData}, toQL ds = some ps → ds.length = ps.length
  | [], _, e => by cases e; rfl
  | d :: ds, _, e => by
    unfold toQL at e
    obtain ⟨p, e1, e⟩ := opt_bind e
    obtain ⟨qs, e2, rfl⟩ := Option.map_eq_some_iff.mp e
    simp [toQL_len e2]
section
variable {X : Cx} {T : Tab} {pins : List (Addr × Obj)} {σ : L2.St} {H : Hp} {s : Shared} {ex : Addr → Prop}
theorem pairs_keys {h : Heap} : ∀ {ks : List Key} {vs : List V} {kvs : List (Key × Value)} {es : List DictEntry}, ks.length = vs.length → KV (ks.zip vs) kvs → Pairs (mixKind X.prog X.w) es kvs → ReadsAll h (es.map (·.key)) (ks.map keyP) [] ∧ Vals vs (es.map (·.val))
  | [], [], _, _, _, .nil, .nil => ⟨.nil, .nil⟩
  | k :: ks, v :: vs, _, _, hl, .cons h1 t, .cons h2 h3 h4 => by
    obtain ⟨q1, q2⟩ := pairs_keys (h := h) (by simpa using hl) t h4
    refine ⟨?_, ?_⟩
    · refine ReadsAll.cons (as := []) (bs := []) ?_ q1
      rcases keyIs_shape (show keyIs _ _ = true from h2) with ⟨i, u, e1, e2⟩ | ⟨x, u, e1, e2⟩
      · show Reads h (DictEntry.key _) (keyP k) []
        rw [e2, show k = Sum.inl i from h1.1.trans e1]; exact .int i u
      · show Reads h (DictEntry.key _) (keyP k) []
        rw [e2, show k = Sum.inr x from h1.1.trans e1]; exact .str x u
    · refine .cons ?_ q2
      show L2.RelV v (DictEntry.val _)
      rw [h3]
      exact h1.2
theorem toQ_reads (I : Inv X pins σ H s) : (∀ d : D, ∀ v u p, toQ d = some p → Rep X.K T ex H d v → RelV v u → ∃ as, Reads s.heap u p as ∧ sysModules ∉ as) ∧ ∀ ds : List D, ∀ vs us ps, toQL ds = some ps → RepL X.K T ex H ds vs → Vals vs us → ∃ as, ReadsAll s.heap us ps as ∧ sysModules ∉ as := by
  have dicR : ∀ (ks : List Key) (xs : List D), (∀ vs us ps, toQL xs = some ps → RepL X.K T ex H xs vs → Vals vs us → ∃ as, ReadsAll s.heap us ps as ∧ sysModules ∉ as) → ∀ a vs p, toQ (.dic ks xs) = some p → H a = some (.dK (ks.zip vs)) → ks.length = vs.length → RepL X.K T ex H xs vs → ∃ as, Reads s.heap (.ref a) p as ∧ sysModules ∉ as := by
    intro ks xs ih a vs p e h1 hl h2
    unfold toQ at e
    split at e
    · rename_i hkl
      obtain ⟨ps, e1, rfl⟩ := Option.map_eq_some_iff.mp e
      obtain ⟨z, hd, kvs, rel, o, es, ep, ho, hx, hdat, _, prs, _⟩ := dk_of I.hok h1
      obtain ⟨q1, q2⟩ := pairs_keys (X := X) (h := s.heap) hl rel prs
      obtain ⟨bs, q3, q4⟩ := ih _ _ _ e1 h2 q2
      have hpl := toQL_len e1
      have z1 : ((ks.map keyP).zip ps).map (·.1) = ks.map keyP := List.map_fst_zip (by simp; omega)
      have z2 : ((ks.map keyP).zip ps).map (·.2) = ps := List.map_snd_zip (by simp; omega)
      refine ⟨a :: [] ++ bs, .dict ho hx.1 hdat (by rw [z1]; exact q1) (by rw [z2]; exact q3), ?_⟩
      intro hm
      rcases List.mem_cons.mp hm with hm | hm
      · exact absurd hd (by rw [← hm]; simp)
      · exact q4 (by simpa using hm)
    · cases e
  refine D.ind ?_ ?_ ?_ ?_ ?_ ?_ ?_ ?_ ?_ ?_ ?_ ?_ ?_
  · intro v u p e r ru; unfold toQ at e; cases e; cases (show v = V.non from r); cases (show u = Value.none from ru); exact ⟨_, .none, by simp⟩
  · intro b v u p e r ru; unfold toQ at e; cases e; cases (show v = V.bl b from r); cases (show u = Value.bool b from ru); exact ⟨_, .bool b, by simp⟩
  · intro i v u p e r ru; unfold toQ at e; cases e; cases (show v = V.int i from r); obtain ⟨t, rfl⟩ := ru; exact ⟨_, .int i t, by simp⟩
  · intro z v u p e r ru; unfold toQ at e; cases e; cases (show v = V.str (mkS z) from r); obtain ⟨t, rfl⟩ := ru; exact ⟨_, .str _ t, by simp⟩
  · intro xs ih v u p e r ru
    unfold toQ at e
    obtain ⟨ps, e1, rfl⟩ := Option.map_eq_some_iff.mp e
    obtain ⟨a, vs, rfl, _, h1, h2⟩ := r
    obtain rfl : u = Value.ref a := ru
    obtain ⟨its, rv, ⟨o, ho, hc, n, hd⟩, _⟩ := I.tuple (.of h1)
    obtain ⟨as, q1, q2⟩ := ih _ _ _ e1 h2 rv
    exact ⟨as, .tuple ho hc hd q1, q2⟩
  · intro xs ih v u p e r ru; unfold toQ at e; cases e
  · intro ks xs ih v u p e r ru
    obtain ⟨a, vs, rfl, _, h1, hl, h2⟩ := r
    obtain rfl : u = Value.ref a := ru
    exact dicR ks xs ih a vs p e h1 hl h2
  · intro t xs ih v u p e r ru; unfold toQ at e; cases e
  · intro w v u p e r ru; unfold toQ at e; cases e
  · intro ns v u p e r ru; unfold toQ at e; cases e
  · intro f us ds ih v u p e r ru; unfold toQ at e; cases e
  · intro vs us ps e r ru; unfold toQL at e; cases e; cases (show vs = [] from r); cases ru; exact ⟨_, .nil, by simp⟩
  · intro d ds i1 i2 vs us ps e r ru
    unfold toQL at e
    obtain ⟨p, e1, e⟩ := opt_bind e
    obtain ⟨qs, e2, rfl⟩ := Option.map_eq_some_iff.mp e
    obtain ⟨v, r', rfl, h1, h2⟩ := r
    cases ru with
    | cons ru1 ru2 =>
      obtain ⟨as, a1, a2⟩ := i1 _ _ _ e1 h1 ru1
      obtain ⟨bs, b1, b2⟩ := i2 _ _ _ e2 h2 ru2
      exact ⟨_, .cons a1 b1, fun hm => (List.mem_append.mp hm).elim a2 b2⟩
theorem rd1_reads (I : Inv X pins σ H s) {d : D} {v : V} {u : Value} {p : PyData} (e : toQ d = some p) (r : Rd1 X.K T ex H d v) (ru : RelV v u) : ∃ as, Reads s.heap u p as ∧ sysModules ∉ as := by
  cases d with
  | dic ks xs =>
    obtain ⟨a, vs, rfl, h1, hl, h2⟩ := r
    obtain rfl : u = Value.ref a := ru
    have : Rep X.K T ex H (.dic ks xs) (.ref a) ∨ ex a := by
      by_cases z : ex a
      · exact .inr z
      · exact .inl ⟨a, vs, rfl, z, h1, hl, h2⟩
    rcases this with q | q
    · exact (toQ_reads (T := T) (ex := ex) I).1 _ _ _ _ e q rfl
    · unfold toQ at e
      split at e
      · rename_i hkl
        obtain ⟨ps, e1, rfl⟩ := Option.map_eq_some_iff.mp e
        obtain ⟨z, hd, kvs, rel, o, es, ep, ho, hx, hdat, _, prs, _⟩ := dk_of I.hok h1
        obtain ⟨q1, q2⟩ := pairs_keys (X := X) (h := s.heap) hl rel prs
        obtain ⟨bs, q3, q4⟩ := (toQ_reads (T := T) (ex := ex) I).2 _ _ _ _ e1 h2 q2
        have hpl := toQL_len e1
        have z1 : ((ks.map keyP).zip ps).map (·.1) = ks.map keyP := List.map_fst_zip (by simp; omega)
        have z2 : ((ks.map keyP).zip ps).map (·.2) = ps := List.map_snd_zip (by simp; omega)
        refine ⟨a :: [] ++ bs, .dict ho hx.1 hdat (by rw [z1]; exact q1) (by rw [z2]; exact q3), ?_⟩
        intro hm
        rcases List.mem_cons.mp hm with hm | hm
        · exact absurd hd (by rw [← hm]; simp)
        · exact q4 (by simpa using hm)
      · cases e
  | lst xs => unfold toQ at e; cases e
  | _ => exact (toQ_reads (T := T) (ex := ex) I).1 _ _ _ _ e r ru
end
def reprQ : List D → Option EV
  | [d] => (toQ d).bind fun p => if p.showable = true ∧ p.hasDict = true ∧ p.shown.length ≤ big ∧ p.depth ≤ 60 then some (.v (.str (shownS p))) else none
  | _ => none
theorem cr_reprQ {X : Cx} {T : Tab} (hgd : X.A.guards = some []) (hu : X.A.units + 64 < cLine) : CallR X (.builtin "repr") (rB X.K T reprQ) := by
  intro pins s σ H xs us Q I rvs ⟨ex, ds, ev, dm, r1, e, k⟩
  unfold reprQ at e
  split at e
  · rename_i d
    obtain ⟨p, hp, e⟩ := opt_bind e
    split at e
    · rename_i hh
      obtain ⟨h1, h2, h3, h4⟩ := hh
      cases e
      obtain ⟨v, rfl, rd⟩ := one_of r1
      obtain ⟨u, rfl, rv⟩ := vals1 rvs
      have fin : Q (.str p.shown) H := k _ H ext_refl (by show V.str _ = V.str (mkS (shownS p)); unfold shownS; rw [mkS_tl])
      obtain ⟨as, rr, nsy⟩ := rd1_reads I hp rd rv
      have refd : ∀ a, u = .ref a → wpAny (model X.prog X.w) X.A (call (.builtin "repr") [u]) (EP X pins σ Q) X.xe s := fun a ea => by
        subst ea
        exact repr_of_reads' rr h1 (fun _ => nsy) hgd (by omega) (fun _ _ z => z) (fun h' u' tk hk => ⟨.str p.shown, H, I.kept (t' := tk) hk, ⟨_, rfl⟩, fin⟩) (Nat.le_trans h3 big_line)
      cases rr with
      | none => exact absurd h2 (by decide)
      | bool b => exact absurd h2 (by simp [PyData.hasDict])
      | int i t => exact absurd h2 (by simp [PyData.hasDict])
      | str x t => exact absurd h2 (by simp [PyData.hasDict])
      | list a b c d => exact refd _ rfl
      | tuple a b c d => exact refd _ rfl
      | dict a b c d e => exact refd _ rfl
    · cases e
  · cases e
def reprY : List D → Option EV := fun ds => match reprX ds with
  | some r => some r
  | none => reprQ ds
theorem cr_reprY {X : Cx} {T : Tab} (hgd : X.A.guards = some []) (hu : X.A.units + 64 < cLine) : CallR X (.builtin "repr") (rB X.K T reprY) := by
  intro pins s σ H xs us Q I rvs ⟨ex, ds, ev, dm, r1, e, k⟩
  unfold reprY at e
  cases q : reprX ds with
  | some r => rw [q] at e; cases e; exact cr_reprX hgd hu pins s σ H xs us Q I rvs ⟨ex, ds, ev, dm, r1, q, k⟩
  | none => rw [q] at e; exact cr_reprQ hgd hu pins s σ H xs us Q I rvs ⟨ex, ds, ev, dm, r1, e, k⟩
/-! ### what may be shown, with dicts -/
def ShQ (d : D) (w k : Nat) : Prop := ∃ p, toQ d = some p ∧ p.showable = true ∧ p.leavesShort 20 = true ∧ p.weight ≤ w ∧ p.depth ≤ k
def ShQL (ds : List D) (w k : Nat) : Prop := ∃ ps, toQL ds = some ps ∧ PyData.showableAll ps = true ∧ PyData.leavesShortAll 20 ps = true ∧ PyData.weightAll ps ≤ w ∧ PyData.depthAll ps ≤ k
theorem ShQ.mono {d : D} {w w' k k' : Nat} (h : ShQ d w k) (h1 : w ≤ w') (h2 : k ≤ k') : ShQ d w' k' := by
  obtain ⟨p, a, b, e, f, g⟩ := h
  exact ⟨p, a, b, e, by omega, by omega⟩
theorem ShQL.mono {d : List D} {w w' k k' : Nat} (h : ShQL d w k) (h1 : w ≤ w') (h2 : k ≤ k') : ShQL d w' k' := by
  obtain ⟨p, a, b, e, f, g⟩ := h
  exact ⟨p, a, b, e, by omega, by omega⟩
theorem reprY_X {ds : List D} {r : EV} (h : reprX ds = some r) : reprY ds = some r := by unfold reprY; rw [h]
theorem reprY_shw {d : D} {w k : Nat} (h : Shw d w k) (hw : w ≤ 40000) (hk : k ≤ 60) : reprY [d] = some (.v (.str (shwT d))) := reprY_X (repr_shw h hw hk)
mutual
theorem toQ_P : ∀ (d : D) (p : PyData), toQ d = some p → p.hasDict = false → toP d = some p
  | .non, p, e, _ => by unfold toQ at e; cases e; rfl
  | .bl b, p, e, _ => by unfold toQ at e; cases e; rfl
  | .int b, p, e, _ => by unfold toQ at e; cases e; rfl
  | .str b, p, e, _ => by unfold toQ at e; cases e; rfl
  | .tup xs, p, e, h => by
    unfold toQ at e
    obtain ⟨ps, e1, rfl⟩ := Option.map_eq_some_iff.mp e
    simp only [PyData.hasDict] at h
    unfold toP
    rw [toQL_P xs ps e1 h]; rfl
  | .lst xs, p, e, _ => by unfold toQ at e; cases e
  | .dic ks xs, p, e, h => by
    unfold toQ at e
    split at e
    · obtain ⟨ps, e1, rfl⟩ := Option.map_eq_some_iff.mp e
      simp only [PyData.hasDict] at h
      cases h
    · cases e
  | .obj t fs, p, e, _ => by unfold toQ at e; cases e
  | .raw v, p, e, _ => by unfold toQ at e; cases e
  | .scr v, p, e, _ => by unfold toQ at e; cases e
  | .clo _ _ _, p, e, _ => by unfold toQ at e; cases e
theorem toQL_P : ∀ (ds : List D) (ps : List PyData), toQL ds = some ps → PyData.hasDictAll ps = false → toPL ds = some ps
  | [], ps, e, _ => by unfold toQL at e; cases e; rfl
  | d :: ds, ps, e, h => by
    unfold toQL at e
    obtain ⟨p, e1, e⟩ := opt_bind e
    obtain ⟨qs, e2, rfl⟩ := Option.map_eq_some_iff.mp e
    simp only [PyData.hasDictAll, Bool.or_eq_false_iff] at h
    unfold toPL
    rw [toQ_P d p e1 h.1, toQL_P ds qs e2 h.2]; rfl
end
end Dt
end
section
set_option maxRecDepth 100000
set_option maxHeartbeats 4000000
/-! R7: if (x := e) is not None, a op b op c op d, x *= e. -/
namespace Dt
open PySem PySem.Spec L2
open PyProof.Rows hiding St
section
variable {T : Tab} {X : Cx} {np : Nat → Bool} {pos : Pos} {e : Expr} {f : M EV} {p q : S}
end
section
variable {K : PySem.W.Frag} {T : Tab} {ex : Addr → Prop} {σ : St} {H H' : Hp} {env : Sl} {W : WX} {Q : VK}
end
section
variable {T : Tab} {X : Cx} {pos : Pos} {a b c d : Expr} {fa fb fc fd : M AV} {o o' o2 : CmpOp} {op op' op2 : D → D → Option EV}
end
end Dt
end
section
set_option maxRecDepth 100000
set_option maxHeartbeats 4000000
/-! R8: try .. except X as e; isinstance(e, C). -/
namespace Dt
open PySem PySem.Spec L2
open PyProof.Rows hiding St
section
variable {K : PySem.W.Frag} {T : Tab} {np : Nat → Bool} {ex : Addr → Prop} {env env' : Sl} {σ σ' : St} {H H' : Hp} {i : Nat}
end
section
variable {T : Tab} {X : Cx} {np : Nat → Bool} {pos pos' np' : Pos}
end
end Dt
end
section
set_option maxRecDepth 100000
set_option maxHeartbeats 4000000
/-! R9: sorted tuples of ints, of any lengths, the first one empty. -/
namespace Dt
open PySem PySem.Spec L2
open PyProof.Rows hiding St

section
variable {prog : Program} {w : World} {A : Around} {E : Value → Shared → Prop} {s : Shared}
end

section
variable {X : Cx} {T : Tab} {pins : List (Addr × Obj)} {σ : St} {H : Hp} {s : Shared} {ex : Addr → Prop}
end
end Dt
end
section
set_option maxRecDepth 100000
set_option maxHeartbeats 2000000
/-! GF: a for in a generator's body. -/
namespace PySem
open Sem (wp)
section
variable {M : Model} {A : Around} {R : GenEnd} {Y : Protocol} {n : Nat} {s₀ : Shared} {c : Code} {fs : List Frame} {s : Shared} {env : Env}
  {K : Flow → Sem Fin} {H : Value → Sem Fin} {gd : Bool → Bool} {lv : List Value → List Value}
theorem seg_For {target iter : Expr} {body orelse : List Stmt} {pos : Pos}
    (h : wpAny M (A.over c fs) (eval iter env) (fun x s₁ => wpAny M (A.over c fs) (pyIter x) (fun it s₂ =>
      ∀ p, Seg M A R Y n s₀ (.forLoop target it body orelse env) (M.den (.forLoop target it body orelse env))
        (.ret (fun r => ((match r with | .ok f => (.pure f : Sem Flow) | .error e => .raise e).onRaise fun (x : Value) => do
          if (← field x 1) == Value.none then unsupported "frame.own-activation:exception-without-traceback"
          setFlight x env.frame).wrap K H gd lv) none (gd false) (lv []) c p [] :: fs) s₂)
      (fun x s' => Seg M A R Y n s₀ c (H x) fs s') s₁) (fun x s' => Seg M A R Y n s₀ c (H x) fs s') s)
    (hs : ∀ x, foldedSetIterable iter env x = pure x) :
    Seg M A R Y n s₀ c ((exec (.For target iter body orelse pos) env).wrap K H gd lv) fs s := by
  rw [exec_For]
  refine seg_bind_wrap (wpAny_standAt ?_)
  refine seg_bind_wrap (wpAny_mono h (fun x s₁ h₁ => ?_) fun _ _ q => q)
  refine seg_bind_wrap (wpAny_of_eq (hs x) ?_)
  refine seg_bind_wrap (wpAny_standAt ?_)
  refine seg_bind_wrap (wpAny_holding (wpAny_mono h₁ (fun it s₂ h₂ => ?_) fun _ _ q => q))
  exact seg_call h₂
end
section
variable {prog : Program} {w : World} {A : Around} {R : GenEnd} {Y : Protocol} {n : Nat} {s₀ : Shared} {fs : List Frame} {s : Shared} {env : Env}
theorem seg_forLoop {target : Expr} {it : Value} {body orelse : List Stmt}
    (h : wpAny (model prog w) (A.over (.forLoop target it body orelse env) fs) (pyNext it) (fun r s₁ => match r with
        | none => Seg (model prog w) A R Y n s₀ (.forLoop target it body orelse env) (.pure (.again (.block orelse env))) fs s₁
        | some v => wpAny (model prog w) (A.over (.forLoop target it body orelse env) fs) (letOwnedTupleGo target it v) (fun _ s₂ =>
            wpAny (model prog w) (A.over (.forLoop target it body orelse env) fs) (assign target env v) (fun _ s₃ =>
              Seg (model prog w) A R Y n s₀ (.forLoop target it body orelse env) ((execs body env).wrap (fun f => match f with
                | .next | .cont => .pure (.again (.forLoop target it body orelse env))
                | .brk => .pure (.done .next)
                | .ret v => .pure (.done (.ret v))) (fun e => (do noteFrame e env; theTreesLotGoes e : Sem Unit).wrap (fun _ => .raise e) .raise id id) id id) fs s₃)
              (fun x s' => Seg (model prog w) A R Y n s₀ (.forLoop target it body orelse env) ((do noteFrame x env; theTreesLotGoes x : Sem Unit).wrap (fun _ => .raise x) .raise id id) fs s') s₂)
            (fun x s' => Seg (model prog w) A R Y n s₀ (.forLoop target it body orelse env) ((do noteFrame x env; theTreesLotGoes x : Sem Unit).wrap (fun _ => .raise x) .raise id id) fs s') s₁)
      (fun x s' => Seg (model prog w) A R Y n s₀ (.forLoop target it body orelse env) ((do noteFrame x env; theTreesLotGoes x : Sem Unit).wrap (fun _ => .raise x) .raise id id) fs s') s) :
    Seg (model prog w) A R Y n s₀ (.forLoop target it body orelse env) ((model prog w).den (.forLoop target it body orelse env)) fs s := by
  show Seg _ A R Y n s₀ _ ((forTurn target it body orelse env).onRaise (fun x => do noteFrame x env; theTreesLotGoes x)) fs s
  unfold forTurn
  rw [Sem.onRaise_eq_wrap]
  refine seg_bind_wrap (wpAny_standAt ?_)
  refine seg_bind_wrap (wpAny_onRaise (wpAny_mono h (fun r s₁ h₁ => ?_) fun x s' hx => ?_))
  · cases r with
    | none => exact h₁
    | some v =>
      refine seg_bind_wrap (wpAny_mono h₁ (fun _ s₂ h₂ => ?_) fun x s' hx => ?_)
      · refine seg_bind_wrap (wpAny_mono h₂ (fun _ s₃ h₃ => ?_) fun x s' hx => ?_)
        · rw [Sem.bind_eq_wrap', Sem.wrap_wrap]
          rw [Sem.wrap_congr (execs body env) _ _ (K' := fun f => match f with
            | .next | .cont => .pure (.again (.forLoop target it body orelse env))
            | .brk => .pure (.done .next)
            | .ret v => .pure (.done (.ret v))) (H' := (fun e => (do noteFrame e env; theTreesLotGoes e : Sem Unit).wrap (fun _ => .raise e) .raise id id))
            (fun f => by cases f <;> rfl)
            (fun e => by first | exact Sem.bind_eq_wrap _ _ | (show (do noteFrame e env; theTreesLotGoes e : Sem Unit).bind (fun _ => .raise e) = _; rw [Sem.bind_eq_wrap]))]
          exact h₃
        · first
          | (rw [← Sem.bind_eq_wrap] at hx; exact hx)
          | (show Seg _ A R Y n s₀ _ ((do noteFrame x env; theTreesLotGoes x : Sem Unit).bind fun _ => .raise x) fs s'; rw [Sem.bind_eq_wrap]; exact hx)
      · first
          | (rw [← Sem.bind_eq_wrap] at hx; exact hx)
          | (show Seg _ A R Y n s₀ _ ((do noteFrame x env; theTreesLotGoes x : Sem Unit).bind fun _ => .raise x) fs s'; rw [Sem.bind_eq_wrap]; exact hx)
  · refine wpAny_standAt ?_
    first
          | (rw [← Sem.bind_eq_wrap] at hx; exact hx)
          | (show Seg _ A R Y n s₀ _ ((do noteFrame x env; theTreesLotGoes x : Sem Unit).bind fun _ => .raise x) fs s'; rw [Sem.bind_eq_wrap]; exact hx)
end
end PySem
namespace L2
open PySem PySem.Spec PyProof.Rows GenW
section
variable {X : Cx} {tg : Expr}
def tGFor (wi : TI) (g : TG) (tb : TGn) : TGn := fun D ys σ H => wi σ H fun J H1 => ∃ W : Nat → Nat → List V → St → Hp → Prop, (∃ m, W 0 m ys σ H1) ∧ ∀ i m ys σ H, W i m ys σ H →
  (J.stop i H ∧ D.nx ys σ H) ∨ (J.go i H ∧ ∃ N : List V → St → Hp → Prop, (∀ ys' σ' H', N ys' σ' H' → ∃ m', m' < m ∧ W (i + 1) m' ys' σ' H') ∧ ∀ x H', J.yld i H x H' → g x σ H' fun σ2 H2 => tb { D with nx := N, ct := N, bk := D.nx } ys σ2 H2)
theorem gs_for {iter : Expr} {body : List Stmt} {wi : TI} {g : TG} {tb : TGn} {pos : Pos} (hp : PassesOwn (model X.prog X.w) X.A X.env X.xe) (hc : X.calm = true) (hi : PI X tg iter wi) (hg : PG X tg g) (hb : GSs X body tb)
    (hs : ∀ x, foldedSetIterable iter X.env x = pure x := by intro _; rfl) : GS X (.For tg iter body [] pos) (tGFor wi g tb) := by
  refine ⟨fun A S ip R n ys s₀ c fs K J gd lv s σ H D gc hn k hI ht => ?_⟩
  obtain ⟨acc, cc, r, I⟩ := hI
  refine seg_For ?_ hs
  rw [gc.over]
  refine wpAny_mono (hi.run _ s σ H _ I ht) (fun v s1 h1 => ?_) fun x s' hx => k.exc _ s₀ x s' hx
  refine wpAny_mono h1 (fun itv s2 h2 => ?_) fun x s' hx => k.exc _ s₀ x s' hx
  obtain ⟨it, fp, tn, Jt, H2, e, I2, T, st2, f2, W, ⟨m0, w0⟩, turn⟩ := h2
  subst e
  intro p
  have stat : ∀ {acc : Array Value} {cc : Nat} {H' : Hp}, (∀ b ∈ fp, H' b = none) → ∀ b ∈ fp, FpOk X ((S, lstObj acc cc) :: ip) H' b := fun {acc' cc' H'} hn b hb => by
    obtain ⟨_, a1, a2, a3, a4, a5⟩ := f2 b hb
    refine ⟨hn b hb, a1, a2, a3, a4, fun p hp => ?_⟩
    rcases List.mem_append.mp hp with z | z
    · exact a5 p (List.mem_append_left _ z)
    · rcases List.mem_cons.mp z with y | y
      · rw [y]; exact a5 (S, lstObj acc cc) (List.mem_append_right _ (List.mem_cons_self ..))
      · exact a5 p (List.mem_append_right _ (List.mem_cons_of_mem _ y))
  have gl := fun (kk : Result → Sem PySem.Fin) => gc_loop (k := kk) (c' := .forLoop tg (.ref it) body [] X.env) (l := lv []) (kp := []) (p := p) gc rfl rfl
  have loop : ∀ (m i n : Nat) (ys : List V) (s₀ s : Shared) (σ : St) (H : Hp), n + ys.length = sizeLine → W i m ys σ H → GI X S ip ys σ H s → tn i s.heap → (∀ b ∈ fp, H b = none) →
      Seg (model X.prog X.w) A R (GY X S) n s₀ (.forLoop tg (.ref it) body [] X.env) ((model X.prog X.w).den (.forLoop tg (.ref it) body [] X.env))
        (.ret (fun r => ((match r with | .ok f => (.pure f : Sem Flow) | .error e => .raise e).onRaise (cameBack X.env)).wrap K J gd lv) none (gd false) (lv []) c p [] :: fs) s := by
    intro m
    induction m using Nat.strongRecOn with
    | ind m ih =>
      intro i n ys s₀ s σ H hn w hI st3 fr3
      have ee : ∀ (n : Nat) (s₀ : Shared) (x : Value) (s' : Shared), X.xe x s' → Seg (model X.prog X.w) A R (GY X S) n s₀ (.forLoop tg (.ref it) body [] X.env)
          ((do noteFrame x X.env; theTreesLotGoes x : Sem Unit).wrap (fun _ => .raise x) .raise id id)
          (.ret (fun r => ((match r with | .ok f => (.pure f : Sem Flow) | .error e => .raise e).onRaise (cameBack X.env)).wrap K J gd lv) none (gd false) (lv []) c p [] :: fs) s' := fun n s₀ x s' hx => by
        refine seg_wrap ?_
        rw [(gl _).over]
        refine wpAny_bind (wpAny_mono (hp x s' hx) (fun _ s'' hcb => wpAny_theTreesLotGoes ?_) fun y s'' hcb => ?_)
        · exact seg_leaf (.error x) (seg_cameBack gc k hcb)
        · exact seg_leaf (.error y) (seg_cameBack gc k hcb)
      refine seg_forLoop ?_
      rw [(gl _).over]
      obtain ⟨acc, cc, r, I⟩ := hI
      rcases turn i m ys σ H w with ⟨stop, qn⟩ | ⟨go, N, hN, step⟩
      · refine wpAny_mono (T.done X rfl rfl rfl hc i _ s σ H X.xe I (stat fr3) st3 stop) (fun rr s4 ⟨hr, I4⟩ => ?_) fun x s' hx => ee n s₀ x s' hx
        subst hr
        refine seg_again rfl ?_
        exact seg_leaf (.ok .next) (k.ok n ys s₀ s4 .next hn ⟨σ, H, ⟨acc, cc, r, I4⟩, qn⟩)
      · refine wpAny_mono (T.item X rfl rfl rfl hc i _ s σ H X.xe I (stat fr3) st3 go) (fun rr s4 ⟨u, hr, h4⟩ => ?_) fun x s' hx => ee n s₀ x s' hx
        subst hr
        refine wpAny_mono h4 (fun _ s5 ⟨x, H5, I5, r5, y5, st5, fr5⟩ => ?_) fun x s' hx => ee n s₀ x s' hx
        have I5' := I5.pinned (stat fr5) (T.obj _ _ st5)
        refine wpAny_mono (hg.run _ s5 σ H5 x u _ I5' r5 (step x H5 y5)) (fun _ s6 ⟨σ6, H6, I6, q6⟩ => ?_) fun x s' hx => ee n s₀ x s' hx
        have gip : GC X S (ip ++ pinsAt fp s5.heap) A (.forLoop tg (.ref it) body [] X.env) (.ret (fun r => ((match r with | .ok f => (.pure f : Sem Flow) | .error e => .raise e).onRaise (cameBack X.env)).wrap K J gd lv) none (gd false) (lv []) c p [] :: fs) id :=
          ⟨gc.pn, fun q hq => by
            rcases List.mem_append.mp hq with z | z
            · exact gc.ip q z
            · obtain ⟨hb, _⟩ := of_pinsAt z
              exact fun e => (f2 q.1 hb).2.2.2.2.2 (S, _) (List.mem_append_right _ (List.mem_cons_self ..)) e.symm, gc.apart, (gl _).over, (gl _).split, (gl _).guard, rfl⟩
        have pinOf : ∀ {acc7 : Array Value} {c7 : Nat} {σ7 : St} {H7 : Hp} {s7 : Shared}, Inv X ((S, lstObj acc7 c7) :: (ip ++ pinsAt fp s5.heap)) σ7 H7 s7 → Inv X ((S, lstObj acc7 c7) :: ip) σ7 H7 s7 ∧ tn (i + 1) s7.heap ∧ ∀ b ∈ fp, H7 b = none := fun {acc7 c7 σ7 H7 s7} I7 => by
          have I7' : Inv X (((S, lstObj acc7 c7) :: ip) ++ pinsAt fp s5.heap) σ7 H7 s7 := I7
          refine ⟨I7'.unpinned, T.keep _ _ _ st5 fun b hb o e => (I7'.pin (b, o) (List.mem_append_right _ (List.mem_append_right _ (mem_pinsAt hb e)))).1, fun b hb => ?_⟩
          obtain ⟨o, e, d⟩ := T.obj _ _ st5 b hb
          exact (I7'.pin (b, o) (List.mem_append_right _ (List.mem_append_right _ (mem_pinsAt hb e)))).2.1
        refine hb.run A S (ip ++ pinsAt fp s5.heap) R n ys s₀ _ _ _ _ id id s6 σ6 H6 { D with nx := N, ct := N, bk := D.nx } gip hn ⟨fun n' ys' s₀' s7 f hn' hs => ?_, fun n' s₀' x s7 hx => ee n' s₀' x s7 hx⟩ ⟨acc, cc, r, I6⟩ q6
        cases f with
        | next =>
          obtain ⟨σ7, H7, ⟨acc7, c7, r7, I7⟩, n7⟩ := hs
          obtain ⟨m', hm, w7⟩ := hN ys' σ7 H7 n7
          obtain ⟨J1, J2, J3⟩ := pinOf I7
          exact seg_again rfl (ih m' hm (i + 1) n' ys' s₀' s7 σ7 H7 hn' w7 ⟨acc7, c7, r7, J1⟩ J2 J3)
        | cont =>
          obtain ⟨σ7, H7, ⟨acc7, c7, r7, I7⟩, n7⟩ := hs
          obtain ⟨m', hm, w7⟩ := hN ys' σ7 H7 n7
          obtain ⟨J1, J2, J3⟩ := pinOf I7
          exact seg_again rfl (ih m' hm (i + 1) n' ys' s₀' s7 σ7 H7 hn' w7 ⟨acc7, c7, r7, J1⟩ J2 J3)
        | brk =>
          obtain ⟨σ7, H7, ⟨acc7, c7, r7, I7⟩, q7⟩ := hs
          exact seg_leaf (.ok .next) (k.ok n' ys' s₀' s7 .next hn' ⟨σ7, H7, ⟨acc7, c7, r7, (pinOf I7).1⟩, q7⟩)
        | ret v =>
          obtain ⟨x7, σ7, H7, ⟨acc7, c7, r7, I7⟩, rv7, q7⟩ := hs
          exact seg_leaf (.ok (.ret v)) (k.ok n' ys' s₀' s7 (.ret v) hn' ⟨x7, σ7, H7, ⟨acc7, c7, r7, (pinOf I7).1⟩, rv7, q7⟩)
  exact loop m0 0 n ys s₀ s2 σ H2 hn w0 ⟨acc, cc, r, I2⟩ st2 fun b hb => (f2 b hb).1
end
end L2
end
section
set_option maxRecDepth 100000
set_option maxHeartbeats 4000000
/-! RA: generator defs `pre; for x in it: yield x`; list(f(..)). -/
namespace Dt
open PySem PySem.Spec L2
open PyProof.Rows hiding St
variable {NG : Prop}
/-- all that is handed out -/
def relG (K : PySem.W.Frag) (T : Tab) : Rl (List V) (List D) := fun ex σ env' _ H' vs ds => RepL K T (exO ex σ env') H' ds vs
/-- such a def at its arguments -/
def genF (n np : Nat) (pre : S) (it : M (List D)) : M (List D) := fun args =>
  if args.length = np then match pre (args ++ List.replicate (n - np) .emp) with
    | some (.nx e1) => match it e1 with
      | some (.ok ds e2) => some (.ok ds (e2.take np))
      | _ => none
    | _ => none
  else none
def spG (K : PySem.W.Frag) (T : Tab) (g : M (List D)) : SpG := fun vs H Q _ => tr K T (relG K T) g (fun _ _ _ _ => False) (vs.map some) H Q
theorem gen_len {K : PySem.W.Frag} {T : Tab} {n np : Nat} {pre : S} {it : M (List D)} {vs : List V} {H : Hp} {Q : List V → Hp → Prop} {E : XK} (h : spG K T (genF n np pre it) vs H Q E) : vs.length = np := by
  obtain ⟨ex, env, g, r, e, _⟩ := h
  unfold genF at e
  by_cases hl : env.length = np
  · have := g.len; rw [List.length_map] at this; omega
  · rw [if_neg hl] at e; cases e
section
variable {K : PySem.W.Frag} {T : Tab} {np : Nat → Bool} {ex : Addr → Prop} {env env' : Sl} {σ σ' : St} {H H' : Hp}
theorem keepRep (s : SStep K T np ex σ H env σ' H' env') : ∀ a o, ¬ exO ex σ env a → H a = some o → ¬ exO ex σ' env' a ∧ (NT o → H' a = some o) := fun a o n e =>
  ⟨fun z => z.elim (fun z => n (.inl z)) fun z => (s.owns z).elim (fun z => n (.inr z)) (fun z => by rw [z] at e; cases e), s.fr a o e fun z => n (.inr z)⟩
end
/-- the body, at one state -/
theorem gen_body {X : Cx} {T : Tab} {N ps : List Str} {pre : Stmt} {tg iter y : Expr} {bp : S} {it : M (List D)} {i : Nat} {W : WX} {vs : List V} {H : Hp} {Q : List V → Hp → Prop} {E : XK} {pos yp ypos : Pos} {DE : GEnds}
    (hps : ps.length ≤ N.length) (hi : ps.length ≤ i) (hiN : i < N.length) (hp : PassesOwn (model X.prog X.w) X.A X.env X.xe) (hc : X.calm = true)
    (q1 : PS X pre (trS X.K T (lt ps.length) bp W)) (q2 : PI X tg iter (tr X.K T (relI X.K T) it W)) (q3 : PG X tg (trG X.K T (lt ps.length) (gN i))) (q4 : PE X y (tr X.K T (relE X.K T) (eName i) W))
    (hco : X.env.scope.isCoroutine = false) (hin : interactive X.env = false) (hf : ∀ x, foldedSetIterable iter X.env x = pure x)
    (hD : ∀ ys σ H', Q ys H' → DE.nx ys σ H')
    (h : spG X.K T (genF N.length ps.length bp it) vs H Q E) :
    ∃ t, GSs X [pre, .For tg iter [.Expr (.Yield (some y) yp) ypos] [] pos] t ∧ t DE [] (start N vs) H := by
  refine ⟨_, gss_cons (gs_ps q1) (gss_cons (gs_for hp hc q2 q3 (gss_cons (gs_yield q4 hco hin) gss_nil) hf) gss_nil), ?_⟩
  obtain ⟨ex, args, g, r, e, o⟩ := h
  unfold genF at e
  by_cases hl : args.length = ps.length
  · rw [if_pos hl] at e
    refine ⟨ex, _, start_good hl hps g, ?_⟩
    cases w : bp (args ++ List.replicate (N.length - ps.length) .emp) with
    | none => rw [w] at e; cases e
    | some rb =>
      rw [w] at e
      cases rb with
      | nx e1 =>
        dsimp only at e
        refine ⟨_, rfl, fun σ1 H1 s1 => ?_⟩
        cases w2 : it e1 with
        | none => rw [w2] at e; cases e
        | some ri =>
          rw [w2] at e
          cases ri with
          | exc x e2 => cases e
          | ok ds e2 =>
            cases e
            refine ⟨ex, e1, s1.gd, _, w2, fun J H2 s2 itk => ?_⟩
            have itk : ItOK X.K T (exO ex σ1 e2) H2 J ds := itk
            have s12 : SStep X.K T (lt ps.length) ex _ H _ σ1 H2 e2 := s1.trans s2.s
            have hlen : e2.length = N.length := by
              have h1 := s12.gd.len
              have h2 := s12.ln
              have h3 := g.len
              have h4 : (L2.start N vs).length = N.length := by
                simp only [L2.start, List.length_append, List.length_map, List.length_replicate] at h3 ⊢
                omega
              omega
            refine ⟨fun j m ys σi Hi => m = ds.length - j ∧ j ≤ ds.length ∧ ∃ envi, SStep X.K T (lt ps.length) ex σ1 H2 e2 σi Hi envi ∧ envi.length = N.length ∧ envi.take ps.length = e2.take ps.length ∧ RepL X.K T (exO ex σi envi) Hi (ds.take j) ys, ⟨ds.length, rfl, Nat.zero_le _, e2, SStep.refl s2.gd, hlen, rfl, rfl⟩, ?_⟩
            rintro j m ys σi Hi ⟨rfl, hj, envi, s, hle, htk, hys⟩
            have keep : Keep (exO ex σ1 e2) H2 Hi := fun b o n q => s.fr b o q fun z => n (.inr z)
            have hyl := hys.length
            rw [List.length_take, Nat.min_eq_left hj] at hyl
            by_cases hlt : j < ds.length
            · refine .inr ⟨itk.go j Hi hlt keep, fun ys' σ' H' => ∃ m', m' < ds.length - j ∧ m' = ds.length - (j + 1) ∧ j + 1 ≤ ds.length ∧ ∃ envi, SStep X.K T (lt ps.length) ex σ1 H2 e2 σ' H' envi ∧ envi.length = N.length ∧ envi.take ps.length = e2.take ps.length ∧ RepL X.K T (exO ex σ' envi) H' (ds.take (j + 1)) ys', fun ys' σ' H' ⟨m', h1, h2, h3, h4⟩ => ⟨m', h1, h2, h3, h4⟩, fun x H' yy => ?_⟩
              obtain ⟨ext, rep⟩ := itk.yld j Hi x H' ds[j] (List.getElem?_eq_getElem hlt) keep yy
              have gi := s.gd.ext ext
              have se : SStep X.K T (lt ps.length) ex σi Hi envi σi H' envi := (Step.ext s.gd ext).s
              have rd : Rep X.K T (exO ex σi envi) H' ds[j] x := rep _ (fun b o nb q z => by
                rcases z with z | z
                · exact nb (.inl z)
                · rcases s.owns z with z | z
                  · exact nb (.inr z)
                  · rw [z] at q; cases q) s.gd.dm
              refine ⟨ex, envi, _, _, gi, rd, rfl, fun σ2 H3 s3 => ?_⟩
              have hset : (envi.set i (.val ds[j]))[i]? = some (.val ds[j]) := List.getElem?_set_self (by omega)
              refine ⟨by have := itk.len; omega, ex, _, s3.gd, .ok (.v ds[j]) (envi.set i (.val ds[j])), by unfold eName; rw [hset], fun v H4 s4 rv => ?_⟩
              have sA := se.trans s3
              have sB : SStep X.K T (lt ps.length) ex σ2 H3 (envi.set i (.val ds[j])) σ2 H4 (envi.set i (.val ds[j])) := s4.s
              have sC := sA.trans sB
              refine ⟨ds.length - (j + 1), by omega, rfl, hlt, envi.set i (.val ds[j]), s.trans sC, by rw [List.length_set]; exact hle, by rw [List.take_set_of_le hi]; exact htk, ?_⟩
              rw [List.take_succ, List.getElem?_eq_getElem hlt]
              have old : RepL X.K T (exO ex σ2 (envi.set i (.val ds[j]))) H4 (ds.take j) ys := hys.monoT (keepRep sC)
              have app : ∀ {as : List D} {us : List V}, RepL X.K T (exO ex σ2 (envi.set i (.val ds[j]))) H4 as us → RepL X.K T (exO ex σ2 (envi.set i (.val ds[j]))) H4 (as ++ [ds[j]]) (us ++ [v]) := by
                intro as
                induction as with
                | nil => intro us h; cases (show us = [] from h); exact .one rv
                | cons a as ih =>
                  rintro us ⟨u, t, rfl, h1, h2⟩
                  exact ⟨u, t ++ [v], rfl, h1, ih h2⟩
              exact app old
            · have ei : j = ds.length := by omega
              subst ei
              rw [List.take_length] at hys
              refine .inl ⟨itk.stop Hi keep, hD _ _ _ ?_⟩
              obtain ⟨st, exb, _⟩ := end_step hl hps g (s12.trans s)
              rw [htk] at st exb
              exact o ys Hi st (hys.mono fun a o n e => ⟨fun z => n (exb a z), e⟩)
      | bk _ => cases e
      | ct _ => cases e
      | rt _ _ => cases e
      | exc _ _ => cases e
  · rw [if_neg hl] at e; cases e
/-- the def's promise -/
theorem Fun.gen {P : Program} {w : World} {K : PySem.W.Frag} {mg : Str → Option Value} {base : Heap} {T : Tab} {x qual : Str} {st : Stmt} {f : Addr} {fd : FuncData} {N ps : List Str} {k i : Nat} {bp : S} {it : M (List D)} {pre : Stmt} {tg iter y : Expr} {pos yp ypos : Pos}
    (F : Fun K x qual st f fd) (Sc : GScope N ps (defScope st)) (hps : ps.length ≤ i) (hiN : i < N.length) (hb : defBody st = [pre, .For tg iter [.Expr (.Yield (some y) yp) ypos] [] pos])
    (hq : ∀ (cdv : Value) (A : Around) (outer : List Env) (s : Shared) (H : Hp) (E : XK) (pn : List (Addr × Obj)), RG True k (A.deeper (envOfC qual (defScope st) s.heap.objs.size f cdv)) →
      QS T (gcxOf P w K mg base N qual (defScope st) f cdv A outer s H E pn) (lt ps.length) pre bp ∧ QI T (gcxOf P w K mg base N qual (defScope st) f cdv A outer s H E pn) tg iter it ∧
      QG T (gcxOf P w K mg base N qual (defScope st) f cdv A outer s H E pn) (lt ps.length) tg (gN i) ∧ QE T (gcxOf P w K mg base N qual (defScope st) f cdv A outer s H E pn) y (eName i))
    (hf : ∀ env x, foldedSetIterable iter env x = pure x := by intro _ _; rfl) (hin : ∀ (a f : Addr) (cd : Value), interactive (envOfC qual (defScope st) a f cd) = false := by intro _ _ _; rfl) : GFn P w K mg base (k + 1) f fd ps (spG K T (genF N.length ps.length bp it)) := by
  obtain ⟨oc, od, kV, doc, pm, an, cdv, ct, osl, rfl, lk, hcd⟩ := F.ex
  refine gfn_of (N := N) lk hcd Sc (fun vs H Q E h => gen_len h) fun A outer s H vs Q E pn hr h => ?_
  obtain ⟨a1, a2, a3, a4⟩ := hq cdv A outer s H E pn ⟨hr, .inr trivial⟩
  have hpl : ps.length ≤ N.length := by omega
  rw [hb]
  exact gen_body (X := gcxOf P w K mg base N qual (defScope st) f cdv A outer s H E pn) (W := fun c d _ H => E c d H) hpl hps hiN owns_gcx rfl (a1 _ _ _ takes_gcx owns_gcx) (a2 _ _ _ takes_gcx owns_gcx) (a3 _ _) (a4 _ _ _ takes_gcx owns_gcx) Sc.co (hin _ _ _) (fun x => hf _ x) (fun _ _ _ q => q) h
def GenOk (P : Program) (w : World) (K : PySem.W.Frag) (mg : Str → Option Value) (base : Heap) (T : Tab) (k : Nat) (f : Addr) (ps : List Str) (g : M (List D)) : Prop := ∃ fd, GFn P w K mg base k f fd ps (spG K T g) ∧ Binds K fd ps []
/-- list(f(..)) -/
def gL (g : M (List D)) : M EV := fun args => match g args with
  | some (.ok ds e) => some (.ok (.o (.lst ds)) e)
  | _ => none
section
variable {T : Tab} {X : Cx} {W : WX} {σ : St} {H : Hp} {Q : VK}
theorem tr_listG {K : PySem.W.Frag} {g : M (List D)} {fs : M (List AV)} (h : tr K T (relE K T) (eCall (gL g) fs) W σ H Q) : tListG (tCallG (spG K T g) [] (fun _ _ _ => False) (tr K T (relAs K T) fs W)) σ H Q := by
  obtain ⟨ex, env, z⟩ := tr_call h
  refine ⟨ex, env, z.mono fun vs H1 ⟨ex2, args, gd, r, e, o⟩ => ?_⟩
  rw [List.append_nil]
  unfold gL at e
  cases w : g args with
  | none => rw [w] at e; cases e
  | some rg =>
    rw [w] at e
    cases rg with
    | exc x e2 => cases e
    | ok ds e2 =>
      cases e
      exact ⟨ex2, args, gd, _, w, fun vs' H2 st rl p hp => o (.ref p) (upd H2 p (.lst vs')) (st.trans (Step.ext st.gd (ext_new hp))) ⟨p, rfl, none_back st.dm hp, rep_newL hp rl, st.gd.more hp (ext_new hp) (by rw [upd_same]; exact fun z => nomatch z)⟩⟩
theorem qe_listG {nm x : Str} {k : Nat} {f : Addr} {ps : List Str} {g : M (List D)} {e : Expr} {es : List Expr} {fs : M (List AV)} {p p2 pos pos2 : Pos} (GF : GenOk X.prog X.w X.K X.mg X.base T k f ps g) (hr : RG NG (k + 3) X.A)
    (hg : Gl X x) (hm : X.mg x = some (.ref f)) (hk : PySem.W.keepIn X.K (.ref f) = true) (ha : QAs T X (e :: es) fs) (hgl : Gl X nm) (hml : X.mg nm = none) (hv : bootBuiltins nm = some (.type "list"))
    (hdb : (x == ("__debug__" : Str)) = false := by decide) (he : starEach (e :: es) X.env = (false, eval e X.env) :: starEach es X.env := by rfl) (hpl : (backTo pos2 (starEach es X.env)).any (·.1) = false := by rfl)
    (hnm : nm ≠ "__name__" := by decide) (hdn : (nm == ("__debug__" : Str)) = false := by decide) (he2 : starEach [.Call (.Name x p2) (e :: es) [] pos2] X.env = (false, eval (.Call (.Name x p2) (e :: es) [] pos2) X.env) :: starEach [] X.env := by rfl) :
    QE T X (.Call (.Name nm p) [.Call (.Name x p2) (e :: es) [] pos2] [] pos) (eCall (gL g) fs) := fun pn xe W tk hp => by
  obtain ⟨fd, GF, hb⟩ := GF
  exact impE (pe_listG (X := X.tr pn xe) (k := k) (E := fun _ _ _ => False) (pgen_call (X := X.tr pn xe) GF (hr.mono (by omega)).r hg hm hk hb .nil (ha pn xe W tk hp) hdb he hpl)
    (fun pins σ H s e s' I c => by obtain ⟨_, _, _, _, _, _, _, _, _, _, _, _, hW⟩ := c; exact hW.elim) (fun _ _ _ h => h.elim) hr.r hgl hml hv hnm hdn he2) fun σ H Q q => tr_listG q
end
end Dt
end
section
set_option maxRecDepth 100000
set_option maxHeartbeats 4000000
/-! RB: lists of truths: count, index; the suite of k24's _law_said. -/
namespace Dt
open PySem PySem.Spec L2
open PyProof.Rows hiding St
variable {NG : Prop}
section
variable {T : Tab} {X : Cx} {o e : Expr} {pos apos : Pos} {fs : M (List AV)} {fo : M AV}
end
section
variable {T : Tab} {X : Cx} {np : Nat → Bool} {pos pos' : Pos}
end
/-! ### the rules at one context -/
section
variable {T : Tab} {X : Cx} {np : Nat → Bool} {W : WX} {e : Expr} {es : List Expr} {pos pos' : Pos}
end
def two (t1 t2 : Nat) : Nat → Option Bool := fun t => if t = t1 then some true else if t = t2 then some true else none
section
variable {T : Tab} {X : Cx}
end
end Dt
end
section
set_option maxRecDepth 100000
set_option maxHeartbeats 4000000
/-! RC: str.replace of written texts: judgements behind a token that is out. -/
namespace Dt
open PySem PySem.Spec L2 CwR
open PyProof.Rows hiding St
variable {NG : Prop}
section
variable (T : Tab) (X : Cx)
def QET (e : Expr) (f : M EV) : Prop := ∀ pn xe W, Takes (X.tr pn xe) W → PassesOwn (model X.prog X.w) X.A X.env xe → PET (X.tr pn xe) e (tr X.K T (relE X.K T) f W)
def QOT (e : Expr) (f : M AV) : Prop := ∀ pn xe W, Takes (X.tr pn xe) W → PassesOwn (model X.prog X.w) X.A X.env xe → PET (X.tr pn xe) e (tr X.K T (relA X.K T) f W)
def QST (np : Nat → Bool) (st : Stmt) (f : S) : Prop := ∀ pn xe W, Takes (X.tr pn xe) W → PassesOwn (model X.prog X.w) X.A X.env xe → PST (X.tr pn xe) st (trS X.K T np f W)
def QSsT (np : Nat → Bool) (st : List Stmt) (f : S) : Prop := ∀ pn xe W, Takes (X.tr pn xe) W → PassesOwn (model X.prog X.w) X.A X.env xe → PSsT (X.tr pn xe) st (trS X.K T np f W)
end
section
variable {K : PySem.W.Frag} {T : Tab} {W : WX} {σ : St} {H : Hp} {Q : VK}
end
section
variable {T : Tab} {X : Cx} {np : Nat → Bool} {pos : Pos} {e e' : Expr} {es : List Expr} {f : M EV} {fa fb : M AV} {g : M (List AV)} {st : Stmt} {rest : List Stmt} {p q : S}
theorem QET.of (h : QE T X e f) : QET T X e f := fun pn xe W tk hp => PET.of (h pn xe W tk hp)
theorem QOT.of (h : QO T X e fa) : QOT T X e fa := fun pn xe W tk hp => PET.of (h pn xe W tk hp)
theorem QST.of (h : QS T X np st p) : QST T X np st p := fun pn xe W tk hp => PST.of (h pn xe W tk hp)
theorem QSsT.of (h : QSs T X np rest p) : QSsT T X np rest p := fun pn xe W tk hp => PSsT.of (h pn xe W tk hp)
section
variable {y z : Str} {j k : Nat} {c0 c1 apos : Pos} (ly lz : List Nat)
end
end
section
variable {P : Program} {w : World} {K : PySem.W.Frag} {mg : Str → Option Value} {base : Heap} {T : Tab}
end
end Dt
end
section
set_option maxRecDepth 100000
set_option maxHeartbeats 4000000
/-! RD: sorted(set(t)) of an ascending tuple of ints. -/
namespace Dt
open PySem PySem.Spec L2
open PyProof.Rows hiding St
section
variable {X : Cx}
end
section
variable {T : Tab} {X : Cx} {a : Expr} {fa : M AV} {p p2 q pos : Pos}
end
end Dt
end
section
set_option maxRecDepth 100000
set_option maxHeartbeats 4000000
/-! RE: list(text). -/
namespace Dt
open PySem PySem.Spec L2
open PyProof.Rows hiding St
end Dt
end
section
set_option maxRecDepth 100000
set_option maxHeartbeats 4000000
/-! RF: several except clauses; o + e, o an own object. -/
namespace Dt
open PySem PySem.Spec L2
open PyProof.Rows hiding St
variable {NG : Prop}
/-! ### several clauses -/
def tgs (l : List (Nat × Bool)) : Nat → Option Bool := fun t => l.lookup t
def pickH (x : ExD) (e : Sl) : List ((Nat → Option Bool) × S) → Option SR
  | [] => some (.exc x e)
  | (sb, fs) :: r => match sb x.t with
    | some true => match fs e with
      | some (.exc _ _) => none
      | r => r
    | some false => pickH x e r
    | none => none
def tsOf (K : PySem.W.Frag) (T : Tab) (np : Nat → Bool) : List ((Nat → Option Bool) × S) → List Value → List (Value × (Addr → Value → Option Addr → TS))
  | p :: l, c :: cs => (c, fun _ _ _ => trS K T np p.2 W0) :: tsOf K T np l cs
  | _, _ => []
inductive QHds (T : Tab) (X : Cx) (np : Nat → Bool) : List ExceptHandler → List ((Nat → Option Bool) × S) → List Value → Prop
  | nil : QHds T X np [] [] []
  | cons {cn : Str} {c : Value} {sb : Nat → Option Bool} {fs : S} {b₀ : Stmt} {suite : List Stmt} {np' pos' : Pos} {hds : List ExceptHandler} {l : List ((Nat → Option Bool) × S)} {cs : List Value} (hc : Names X cn c)
      (hsb : ∀ t b, sb t = some b → PySem.W.exmOne X.K (.ref (T.cls t)) c = some b) (hsu : ∀ (a : Addr) (oe : Obj) (pn : List (Addr × Obj)), QSs T (X.suite a ((a, oe) :: pn)) np (b₀ :: suite) fs) (r : QHds T X np hds l cs) :
      QHds T X np (.ExceptHandler (some (.Name cn np')) none (b₀ :: suite) pos' :: hds) ((sb, fs) :: l) (c :: cs)
section
variable {T : Tab} {X : Cx} {np : Nat → Bool} {pos : Pos}
theorem QHds.ok {hds : List ExceptHandler} {l : List ((Nat → Option Bool) × S)} {cs : List Value} (h : QHds T X np hds l cs) (pn : List (Addr × Obj)) (xe : Value → Shared → Prop) : HdsOk (X.tr pn xe) hds (tsOf X.K T np l cs) := by
  induction h with
  | nil => exact .nil
  | cons hc hsb hsu r ih => exact .cons hc (fun a oe cls d pn' _ _ => hsu a oe pn' _ _ W0 takes0 .never) ih
theorem QHds.many {ex : Addr → Prop} {σ : St} {H : Hp} {env : Sl} {W : WX} {D : Ends} {x : ExD} {cls : Value} {dd : Option Addr} {hds : List ExceptHandler} {l : List ((Nat → Option Bool) × S)} {cs : List Value} (h : QHds T X np hds l cs) (ec : cls = .ref (T.cls x.t)) (g : Good X.K T ex σ H env)
    {r : SR} (er : pickH x env l = some r) (o : OutS X.K T np ex env W σ H D r) (hx : ∀ z e, r = .exc z e → W cls dd σ H) : wMany X.K W D (tsOf X.K T np l cs) cls dd σ H := by
  induction h with
  | nil =>
    cases er
    exact hx _ _ rfl
  | @cons cn c sb fs b₀ suite np' pos' hds l cs hc hsb hsu rr ih =>
    unfold pickH at er
    cases w : sb x.t with
    | none => rw [w] at er; cases er
    | some b =>
      rw [w] at er
      refine ⟨b, by rw [ec]; exact hsb _ _ w, fun hb a ha => ?_, fun hb => ?_⟩
      · subst hb
        dsimp only at er
        split at er
        · cases er
        · rename_i hne
          refine ⟨ex, env, g, r, er, ?_⟩
          cases r with
          | exc z2 e2 => exact absurd er (hne z2 e2)
          | _ => exact o
      · subst hb
        exact ih er
end
/-! ### o + e -/
section
variable {prog : Program} {w : World} {A : Around} {E : Value → Shared → Prop} {s : Shared} {K : PySem.W.Frag} {x C L f : Addr} {h₀ : Heap} {m : Str → Option Value} {ox : Obj} {od : Option Obj} {Ty : String}
open PySem.W in
end
/-- what of the text own + value asks -/
structure AddK (K : PySem.W.Frag) (C : Addr) : Prop where
  rc : ∃ rc, PySem.W.findIn K (.ref C) "__radd__" = some rc ∧ (rc = none ∨ ∃ g : Addr, rc = some (.ref g))
  kn : ∀ n, n < 7 → ∃ fo ro, PySem.W.findIn K (.type (kindT n)) "__add__" = some fo ∧ PySem.W.findIn K (.type (kindT n)) "__radd__" = some ro ∧ PySem.W.subIn K (.type (kindT n)) (.ref C) = some false
section
variable {T : Tab} {X : Cx} {a b : Expr} {pos : Pos} {fa fb : M AV} {mt : Nat → Option (M EV)} {t0 : Nat} {ks : Bool}
end
end Dt
end
section
set_option maxRecDepth 100000
set_option maxHeartbeats 4000000
/-! RG: a lambda without parameters handed to a def of the text (that calls it); tables of code objects in the end. -/
namespace Dt
open PySem PySem.Spec L2
open PyProof.Rows hiding St

/-! ### heaps that keep all but tables -/
section
variable {K : PySem.W.Frag} {T : Tab} {ex : Addr → Prop} {σ : St} {H H' : Hp} {env : Sl}
end

section
variable {K : PySem.W.Frag} {T : Tab} {ex ex' : Addr → Prop} {σ : St} {H H' : Hp} {env : Sl}
end

/-! ### the lambda's outcome, as the callee sees it -/
inductive LO where
  | ok (ev : EV) | exc (x : ExD)
open Classical in
section
open LamX
variable {X : Cx} {pins : List (Addr × Obj)} {σ : St} {H : Hp} {s : Shared}
end

/-! ### x(lambda: body) -/
section
open LamX
variable {NG : Prop} {T : Tab} {X : Cx} {x a : Str} {st : Stmt} {g c P : Addr} {fd : FuncData} {Ng : List Str} {k : Nat} {gB : D → LO → S} {res : LO → Option LO} {m : M EV} {params : Arguments} {body : Expr} {scope : Scope} {p lpos pos : Pos}
end

end Dt
end
section
set_option maxRecDepth 100000
set_option maxHeartbeats 4000000
/-! RH: a def that calls what it got within try .. except X as e: return A if isinstance(e, C) and isinstance(e, ValueError) else B. -/
namespace Dt
open PySem PySem.Spec L2
open PyProof.Rows hiding St
section
variable {T : Tab} {X : Cx} {np : Nat → Bool} {pos pos' : Pos}
end
/-! ### the rules at one context -/
section
variable {T : Tab} {X : Cx} {np : Nat → Bool} {W : WX} {e c a b : Expr} {rest : List Expr} {pos : Pos}
end
end Dt
end
section
set_option maxRecDepth 100000
set_option maxHeartbeats 4000000
/-! RI: generator defs whose first statement may raise; list(f(..)) of them. -/
namespace Dt
open PySem PySem.Spec L2
open PyProof.Rows hiding St
variable {NG : Prop}
section
variable {T : Tab} {X : Cx}
end
end Dt
end
section
set_option maxRecDepth 100000
set_option maxHeartbeats 4000000
/-! RJ: sets of texts that can be walked; set(list of texts), sorted of it (our turn of the library's proofs for ints and truth values). -/
namespace DtT
open PySem PySem.Spec PyProof.Rows L2
def keyS (e : Int × Value) : Str := match e.2 with | .str k _ => k | _ => Str.empty
def GoodS (w : World) (e : Int × Value) : Prop := ∃ k tk, e.2 = Value.str k tk ∧ e.1 = hashStr w k
/-- the set of texts at a: S its members, n their number; its table rises and can be walked -/
def SetS (w : World) (h : Heap) (a : Addr) (S : Str → Bool) (n : Nat) : Prop :=
  ∃ o es ep t, h.get? a = some o ∧ o.ExactSet ∧ o.data = .set es ep t ∧ (∀ e ∈ es.toList, GoodS w e) ∧ (es.toList.map keyS).Nodup ∧ (∀ k, S k = true ↔ k ∈ es.toList.map keyS) ∧
    es.size < scanBound ∧ t.fits es.size = true ∧ es.size = n ∧ Ris t.place.toList ∧ (w.params.followText "set-order" = true ∨ t.led = true)

section
variable {P : Program} {w : World} {h h' : Heap} {a : Addr} {S : Str → Bool} {n : Nat}

theorem SetS.at (R : SetS w h a S n) (k : ∀ o, h.get? a = some o → h'.get? a = some o) : SetS w h' a S n := by
  obtain ⟨o, es, ep, t, ho, r⟩ := R
  exact ⟨o, es, ep, t, k o ho, r⟩
theorem SetS.lt (R : SetS w h a S n) : a < h.objs.size := by
  obtain ⟨o, es, ep, t, ho, r⟩ := R
  exact Heap.lt_size ho
end

section
variable {P : Program} {w : World} {A : Around} {E : Value → Shared → Prop} {s : Shared} {a : Addr} {S : Str → Bool} {n : Nat}

section
variable {P : Program} {w : World} {A : Around} {E : Value → Shared → Prop} {s : Shared}
end
section
variable {P : Program} {w : World} {A : Around} {E : Value → Shared → Prop} {s : Shared}
end
end
end DtT
end
section
set_option maxRecDepth 100000
set_option maxHeartbeats 4000000
/-! RJ2: sorted(set(list of texts)). -/
namespace Dt
open PySem PySem.Spec L2
open PyProof.Rows hiding St
open PySem.W (EachIs AllAlike Sortable dataLe SortsAt dataKind sortVals alike sortingHeap_old sortVals_data sortVals_length each_map list_sort_vals)
section
variable {X : Cx} {T : Tab} {pins : List (Addr × Obj)} {σ : St} {H : Hp} {s : Shared} {Q : VK} {ex : Addr → Prop}
end

section
open PySem.W
end
section
variable {T : Tab} {X : Cx} {a : Expr} {fa : M AV} {p p2 q pos : Pos}
end
end Dt
end
section
set_option maxRecDepth 100000
set_option maxHeartbeats 2000000
/-! GA: a run that does not wake the generators that sleep at its start leaves them as they are (they may be poisoned for the proof). -/
namespace GenZ
open PySem
open Sem (wp)

/-- asleep, never to be woken -/
def pz : GenState → GenState
  | .suspended _ l c p fs cl => .suspended (fun _ => .unsupported "asleep") l c p fs cl
  | x => x
def isS : GenState → Bool
  | .suspended .. => true
  | _ => false
theorem pz_bare (x : GenState) : (pz x).bare = x.bare := by cases x <;> rfl
theorem pz_isS (x : GenState) : isS (pz x) = isS x := by cases x <;> rfl
def Sl (G : Array GenState) (i : Nat) : Prop := ∃ y, G[i]? = some y ∧ isS y = true
/-- at place i: the sleeper of G, otherwise A's -/
def pick (y : Option GenState) (x : GenState) : GenState := match y with
  | some y => if isS y = true then y else x
  | none => x
def mend (G A : Array GenState) : Array GenState := A.mapIdx fun i x => pick G[i]? x
theorem mend_get (G A : Array GenState) (i : Nat) : (mend G A)[i]? = A[i]?.map (pick G[i]?) := by simp [mend]
/-- no frame of a sleeper -/
def NoF (G : Array GenState) (fs : List Frame) : Prop := ∀ F ∈ fs, ∀ j k l c p, F = .gen j k l c p → ¬ Sl G j
theorem NoF.nil {G : Array GenState} : NoF G [] := fun F hF => by simp at hF
theorem NoF.app {G : Array GenState} {fs fs' : List Frame} (h : NoF G fs) (h' : NoF G fs') : NoF G (fs ++ fs') := fun F hF => (List.mem_append.mp hF).elim (h F) (h' F)
theorem NoF.ret {G : Array GenState} {k h g l c p kp} : NoF G [.ret k h g l c p kp] := fun F hF => by
  rw [List.mem_singleton.mp hF]; intro j k l c p e; cases e
theorem NoF.sub {G : Array GenState} {fs fs' : List Frame} (h : NoF G fs) (k : ∀ F ∈ fs', F ∈ fs) : NoF G fs' := fun F hF => h F (k F hF)
structure OkG (G A : Array GenState) : Prop where
  sz : G.size ≤ A.size
  at_ : ∀ (i : Nat) (y : GenState), G[i]? = some y → isS y = true → A[i]? = some (pz y)
  fr : ∀ (i : Nat) k l c p fs cl, ¬ Sl G i → A[i]? = some (.suspended k l c p fs cl) → NoF G fs
theorem OkG.no {G A : Array GenState} {g : Nat} {x : GenState} (o : OkG G A) (h : A[g]? = some x) (hx : isS x = false) : ¬ Sl G g := fun ⟨y, e, z⟩ => by
  have := o.at_ g y e z
  rw [h] at this
  cases this
  rw [pz_isS, z] at hx; cases hx
theorem OkG.set {G A : Array GenState} {g : Nat} (o : OkG G A) (h : ¬ Sl G g) (x : GenState) (hx : ∀ k l c p fs cl, x = .suspended k l c p fs cl → NoF G fs) : OkG G (A.setIfInBounds g x) where
  sz := by rw [Array.size_setIfInBounds]; exact o.sz
  at_ := fun i y e z => by
    rw [Array.getElem?_setIfInBounds, if_neg (fun q => h (by rw [q]; exact ⟨y, e, z⟩))]
    exact o.at_ i y e z
  fr := fun i k l c p fs cl n e => by
    rw [Array.getElem?_setIfInBounds] at e
    by_cases q : g = i
    · rw [if_pos q] at e
      split at e
      · exact hx k l c p fs cl (Option.some.inj e)
      · cases e
    · rw [if_neg q] at e
      exact o.fr i k l c p fs cl n e
theorem OkG.push {G A : Array GenState} (o : OkG G A) (c : Code) : OkG G (A.push (.fresh c)) where
  sz := by rw [Array.size_push]; have := o.sz; omega
  at_ := fun i y e z => by
    have hi : i < G.size := (Array.getElem?_eq_some_iff.mp e).1
    have := o.sz
    rw [Array.getElem?_push, if_neg (by omega)]
    exact o.at_ i y e z
  fr := fun i k l c p fs cl n e => by
    rw [Array.getElem?_push] at e
    split at e
    · cases e
    · exact o.fr i k l c p fs cl n e
theorem OkG.start (G : Array GenState) : OkG G (G.map pz) where
  sz := by simp
  at_ := fun i y e _ => by rw [Array.getElem?_map, e]; rfl
  fr := fun i k l c p fs cl n e => by
    rw [Array.getElem?_map] at e
    cases q : G[i]? with
    | none => rw [q] at e; cases e
    | some y =>
      rw [q] at e
      refine absurd ⟨y, q, ?_⟩ n
      cases y <;> first | rfl | cases e
theorem OkG.bare {G A : Array GenState} (hG : ∀ x ∈ G, x.bare = true) (hA : ∀ x ∈ A, x.bare = true) : ∀ x ∈ mend G A, x.bare = true := fun x hx => by
  obtain ⟨i, hi, rfl⟩ := Array.mem_iff_getElem.mp hx
  have e := Array.getElem?_eq_getElem hi
  rw [mend_get] at e
  cases q : A[i]? with
  | none => rw [q] at e; cases e
  | some y =>
    rw [q] at e
    have e : pick G[i]? y = (mend G A)[i] := Option.some.inj e
    rw [← e]
    have hy := hA y (Array.mem_of_getElem? q)
    unfold pick
    cases w : G[i]? with
    | none => exact hy
    | some z =>
      dsimp only
      split
      · exact hG z (Array.mem_of_getElem? w)
      · exact hy
/-- the sleepers stand -/
theorem OkG.keeps {G A : Array GenState} (o : OkG G A) {i : Nat} {y : GenState} (h : G[i]? = some y) (hy : isS y = true) : (mend G A)[i]? = some y := by
  rw [mend_get, o.at_ i y h hy, h]
  show some (pick (some y) (pz y)) = _
  unfold pick
  dsimp only
  rw [if_pos hy]

theorem NoF.gs {G : Array GenState} {e : End} (h : ∀ v g l k c p fs', e = .susp v g l k c p fs' → NoF G fs') : ∀ k l c p fs cl, e.genState = .suspended k l c p fs cl → NoF G fs := by
  intro k l c p fs cl q
  cases e with
  | ret r => cases q
  | susp v g l' k' c' p' fs' =>
    have q : GenState.suspended k' l' c' p' fs' _ = .suspended k l c p fs cl := q
    injection q with _ _ _ _ q5 _
    subst q5
    exact h _ _ _ _ _ _ _ rfl

/-- all that sleeps, poisoned -/
def asleep (s : Shared) : Shared := { s with gens := s.gens.map pz }
theorem asleep_bare {s : Shared} (h : ∀ x ∈ s.gens, x.bare = true) : ∀ x ∈ (asleep s).gens, x.bare = true := fun x hx => by
  have hx : x ∈ s.gens.map pz := hx
  obtain ⟨y, hy, rfl⟩ := Array.mem_map.mp hx
  rw [pz_bare]; exact h y hy
end GenZ
end
section
set_option maxRecDepth 100000
set_option maxHeartbeats 2000000
/-! GB: one waking of a generator: a run up to its next yield, with any wish of its end. -/
namespace GenZ
open PySem
open Sem (wp)
def Seg1 (M : Model) (A : Around) (Φ : End → Shared → Prop) (c : Code) (t : Sem PySem.Fin) (fs : List Frame) (s : Shared) : Prop :=
  ∀ Γ p, Γ.code = c → Γ.Woken A → ∃ e s', Runs M Γ p t fs s e s' ∧ Φ e s'
section
variable {M : Model} {A : Around} {Φ : End → Shared → Prop} {c : Code} {fs : List Frame} {s : Shared}
variable {env : Env} {K : Flow → Sem PySem.Fin} {H : Value → Sem PySem.Fin} {gd : Bool → Bool} {lv : List Value → List Value}
/-- what a sleeper goes on with -/
def GoesOn (M : Model) (c : Code) (t : Sem PySem.Fin) (fs : List Frame) (k : Resume → Sem PySem.Fin) : Prop := ∀ (A : Around) (Φ : End → Shared → Prop) (s : Shared), Seg1 M A Φ c t fs s → Seg1 M A Φ c (k (.send .none)) fs s
end
section
variable {prog : Program} {w : World} {A : Around} {Φ : End → Shared → Prop} {fs : List Frame} {s : Shared} {env : Env}
end
end GenZ
end
section
set_option maxRecDepth 100000
set_option maxHeartbeats 2000000
/-! GC: a generator that is walked while other code runs between its turns: its context at a waking (over the heap cut at its frame), and back. -/
namespace L2
open PySem PySem.Spec PyProof.Rows GenW GenZ

/-! ### the heap below an address -/
def trunc (h : Heap) (n : Nat) : Heap := ⟨h.objs.extract 0 n, h.life⟩
def truncS (s : Shared) (n : Nat) : Shared := { s with heap := trunc s.heap n }

/-- a generator def of the form pre; for x in iter: yield x -/
structure GD where
  N : List Str
  qual : Str
  scope : Scope
  f : Addr
  cd : Value
  pre : List Stmt
  x : Str
  i : Nat
  px : Pos
  py : Pos
  iter : Expr
  pos : Pos
  yp : Pos
  yq : Pos
abbrev GD.env (d : GD) (L : Addr) : Env := envOfC d.qual d.scope L d.f d.cd
abbrev GD.tg (d : GD) : Expr := .Name d.x d.px
abbrev GD.yb (d : GD) : List Stmt := [.Expr (.Yield (some (.Name d.x d.py)) d.yp) d.yq]
abbrev GD.body (d : GD) : List Stmt := d.pre ++ [.For d.tg d.iter d.yb [] d.pos]
abbrev GD.loop (d : GD) (L it : Addr) : Code := .forLoop d.tg (.ref it) d.yb [] (d.env L)
structure GD.Ok (d : GD) : Prop where
  kind : d.scope.kind = .function
  co : d.scope.isCoroutine = false
  gen : d.scope.isGenerator = true
  names : ∀ y ∈ d.scope.names, y.2 ≠ .cell ∧ y.2 ≠ .free
  nd : d.N.Nodup
  ix : d.N[d.i]? = some d.x
  xl : d.scope.names.lookup d.x = some .local
  inter : ∀ L, interactive (d.env L) = false
  fold : ∀ env x, foldedSetIterable d.iter env x = pure x
  dbg : (d.x == ("__debug__" : Str)) = false
  cdt : (d.x == ("__classdict__" : Str)) = false
/-- the context of the generator's body, woken by code of X at the state s: what stands below its frame L is the caller's -/
def GD.cx (d : GD) (X : Cx) (s : Shared) (H : Hp) (L : Addr) : Cx :=
  { prog := X.prog, w := X.w, K := X.K, mg := X.mg, base := X.base, A := X.A.in1.deeper (d.env L), N := d.N, s_0 := truncS s L, H_0 := H, env := d.env L, outer := X.stack, stack := d.env L :: X.stack, ex := [], calm := true, fn := fun _ => true, pn := [], xe := fun _ _ => False }
theorem no_cells {names : List (Str × NameKind)} : ∀ {n : Nat} {acc : List (Str × Addr)}, (∀ y ∈ names, y.2 ≠ .cell ∧ y.2 ≠ .free) → cellsFrom n names acc = acc := by
  induction names with
  | nil => intro n acc _; rfl
  | cons y r ih =>
    intro n acc h
    obtain ⟨nm, k⟩ := y
    unfold cellsFrom
    have hk : ¬ (k == NameKind.cell) = true := fun z => (h (nm, k) List.mem_cons_self).1 (beq_iff_eq.mp z)
    rw [if_neg hk]
    exact ih fun y hy => h y (List.mem_cons_of_mem _ hy)
theorem GD.Ok.cells {d : GD} (o : d.Ok) (L : Addr) : (d.env L).cells = [] := no_cells o.names
/-- the frame's names stand as σ tells -/
def LocG (d : GD) (L : Addr) (σ : St) (h : Heap) : Prop := ∃ m, h.Ns L m ∧ ∀ (i : Nat) (y : Str) (v : V), d.N[i]? = some y → σ[i]? = some (some v) → Vis d.scope y → ∃ u, RelV v u ∧ Look (d.env L) h m y u
/-- the walking code's context, once for all -/
structure Cons (X : Cx) (L : Addr) : Prop where
  bsz : X.base.objs.size ≤ L
  fr : ∀ b ∈ frs X.stack, b < L
  cl : ∀ y c, X.env.cells.lookup y = some c → c < L
  hd : X.A.handled = none
/-- another state of the table of generators -/
theorem Inv.gens {X : Cx} {pins : List (Addr × Obj)} {σ : St} {H : Hp} {s : Shared} {G : Array GenState} (I : Inv X pins σ H s) (hG : AllBare G) : Inv X pins σ H { s with gens := G } :=
  ⟨I.ok, I.os, hG, I.base, I.loc, I.cell, I.free, I.freeC, I.pin, I.hok, I.len⟩
end L2
end
section
set_option maxRecDepth 100000
set_option maxHeartbeats 2000000
/-! GE: the turns of a generator of the form pre; for x in iter: yield x. -/
namespace L2
open PySem PySem.Spec PyProof.Rows GenW GenZ

/-- what lies under the generator's loop -/
structure FsOk (P : Program) (w : World) (d : GD) (L it : Addr) (fs : List Frame) : Prop where
  over : ∀ A : Around, A.over (d.loop L it) fs = A.deeper (d.env L)
  split : splitAtGen fs = none
  guard : fs.any Frame.guarded = false
  fin : ∀ (A : Around) (Φ : End → Shared → Prop) (c : Code) (s : Shared), Φ (.ret (.ok (.ret .none))) s → Seg1 (model P w) A Φ c (leafOf (.ok .next)) fs s

/-- asleep behind a yield of its loop -/
structure Slp (X : Cx) (d : GD) (L a : Addr) (g : Nat) (it : Addr) (s : Shared) : Prop where
  gen : ∃ k l p fs, s.gens[g]? = some (.suspended k l (d.loop L it) p fs false) ∧ FsOk X.prog X.w d L it fs ∧ GoesOn (model X.prog X.w) (d.loop L it) (.pure (.again (d.loop L it))) fs k
  isg : s.heap.IsGen a g
  ns : ∃ m, s.heap.Ns L m
end L2
end
section
set_option maxRecDepth 100000
set_option maxHeartbeats 2000000
/-! GH: for and list comprehensions over a generator that a call just made. -/
namespace L2
open PySem PySem.Spec PyProof.Rows GenW GenZ

/-- a promise: the arguments, the heap at the first waking, what is wanted of the generator's own iterator and the heap then -/
abbrev SpW := List V → Hp → (It → Hp → Prop) → Prop
structure WFn (P : Program) (w : World) (K : PySem.W.Frag) (mg : Str → Option Value) (base : Heap) (k : Nat) (f : Addr) (fd : FuncData) (ps : List Str) (d : GD) (sp : SpW) : Prop where
  ok : d.Ok
  len : ∀ vs H R, sp vs H R → vs.length = ps.length
  npl : ps.length ≤ d.N.length
  make : ∀ (A : Around) (outer : List Env) (s : Shared) (H : Hp) (args : Args) (us : List Value) (vs : List V), Room k A → Env0 P w K mg base A outer s H → BindsTo s fd args (ps.zip us) → Vals vs us → vs.length = ps.length →
    codeAny (model P w) A (.call (.ref f) args) (fun r s' => ∃ (a : Addr) (g : Nat), r = .ok (.ret (.ref a)) ∧ s.heap.objs.size < a ∧ s'.heap.IsGen a g ∧ s'.gens[g]? = some (.fresh (.func d.body (d.env s.heap.objs.size))) ∧ s'.os = s.os ∧ AllBare s'.gens ∧
      (∀ b o, s.heap.get? b = some o → s'.heap.get? b = some o) ∧ LocG d s.heap.objs.size (start d.N vs) s'.heap) s
  body : ∀ (X : Cx) (s' : Shared) (H : Hp) (L : Addr), X.prog = P → X.w = w → X.K = K → X.mg = mg → X.base = base → Room k (X.A.in1.deeper (d.env L)) → L ≤ s'.heap.objs.size → ∀ vs R, sp vs H R →
    ∃ tpre wi, PSs (d.cx X s' H L) d.pre tpre ∧ PI (d.cx X s' H L) d.tg d.iter wi ∧ tpre { nx := fun σ1 H1 => wi σ1 H1 R, rt := fun _ _ => False } (start d.N vs) H

theorem Inv.asleep {X : Cx} {pins : List (Addr × Obj)} {σ : St} {H : Hp} {s : Shared} (I : Inv X pins σ H s) : Inv X pins σ H (GenZ.asleep s) := I.gens (asleep_bare I.bare)
theorem Slp.on {X : Cx} {d : GD} {L a it : Addr} {g : Nat} {s : Shared} (S : Slp X d L a g it s) {s' : Shared} (hg : ∀ (y : GenState), s.gens[g]? = some y → isS y = true → s'.gens[g]? = some y) (kL : ∀ ob, s.heap.get? L = some ob → s'.heap.get? L = some ob) (ka : ∀ ob, s.heap.get? a = some ob → s'.heap.get? a = some ob) : Slp X d L a g it s' := by
  obtain ⟨⟨k, l, p, fs, e, F, go⟩, ⟨o, nm, qn, e1, e2⟩, m, hn⟩ := S
  exact ⟨⟨k, l, p, fs, hg _ e rfl, F, go⟩, ⟨o, nm, qn, ka _ e1, e2⟩, m, hn.at kL⟩
theorem Slp.obj {X : Cx} {d : GD} {L a it : Addr} {g : Nat} {s : Shared} (S : Slp X d L a g it s) : (∃ o, s.heap.get? L = some o ∧ ∀ v, o.data ≠ .cell v) ∧ ∃ o, s.heap.get? a = some o ∧ ∀ v, o.data ≠ .cell v := by
  obtain ⟨_, ⟨o, nm, qn, e1, _, e3, _⟩, m, ⟨oL, es, ep, l1, l2, _⟩⟩ := S
  exact ⟨⟨oL, l1, fun v z => by rw [l2] at z; cases z⟩, o, e1, fun v z => by rw [e3] at z; cases z⟩
/-- the same generator in a context that differs in what is no matter -/
theorem Slp.cx {X Y : Cx} {d : GD} {L a it : Addr} {g : Nat} {s : Shared} (S : Slp X d L a g it s) (h1 : X.prog = Y.prog) (h2 : X.w = Y.w) : Slp Y d L a g it s := by
  obtain ⟨⟨k, l, p, fs, e, F, go⟩, b, c⟩ := S
  rw [h1, h2] at F go
  exact ⟨⟨k, l, p, fs, e, F, go⟩, b, c⟩

section
variable {X : Cx}
theorem Inv.cons {pins : List (Addr × Obj)} {σ : St} {H : Hp} {s : Shared} (I : Inv X pins σ H s) (hc : X.calm = true) : Cons X s.heap.objs.size where
  bsz := Nat.le_trans I.ok.bsz I.sz
  fr := fun b hb => by
    obtain ⟨_, o, ho, _⟩ := I.stack.mem hb
    exact Heap.lt_size ho
  cl := fun y c e => by
    obtain ⟨v, o, ho, _⟩ := I.cell y c e
    exact Heap.lt_size ho
  hd := I.ok.hd hc
end
end L2
end
section
set_option maxRecDepth 100000
set_option maxHeartbeats 2000000
/-! GJ: list comprehensions over a generator that a call just made. -/
namespace L2
open PySem PySem.Spec PyProof.Rows GenW GenZ
section
variable {X : Cx}
variable {k : Nat} {f : Addr} {fd : FuncData} {ps : List Str} {d : GD} {sp : SpW} {x : Str} {p apos : Pos} {e : Expr} {es : List Expr} {ta : TA} {elt tg : Expr} {ifs : List Expr} {scope : Scope} {own : List (Str × Nat)} {pos : Pos} {g : TG} {tt : TT} {te : TE}
end
end L2
end
section
set_option maxRecDepth 100000
set_option maxHeartbeats 4000000
/-! RK: for and list comprehensions over a generator def's call. -/
namespace Dt
open PySem PySem.Spec L2
open PyProof.Rows hiding St
variable {NG : Prop}
section
variable {K : PySem.W.Frag} {T : Tab} {ex : Addr → Prop} {σ : St} {H : Hp} {env : Sl} {W : WX} {R : It → Hp → Prop}
end
section
variable {T : Tab} {X : Cx} {np : Nat → Bool} {k : Nat} {f : Addr} {g : M (List D)} {x : Str} {p pos pos2 : Pos} {e : Expr} {es : List Expr} {fs : M (List AV)} {tg : Expr} {body : List Stmt} {t : D → Sl → Option Sl} {b : S}
end
end Dt
end
section
set_option maxRecDepth 100000
set_option maxHeartbeats 4000000
/-! RK2: list comprehensions over a generator def's call. -/
namespace Dt
open PySem PySem.Spec L2
open PyProof.Rows hiding St
variable {NG : Prop}
section
variable {T : Tab} {X : Cx} {elt tg iter : Expr} {ifs : List Expr} {scope : Scope} {own : List (Str × Nat)} {pos : Pos} {fi : M (List D)} {t : D → Sl → Option Sl} {c : M Bool} {f : M EV}
variable {k : Nat} {fa : Addr} {g : M (List D)} {x : Str} {p apos : Pos} {e : Expr} {es : List Expr} {fs : M (List AV)}
end
end Dt
end
section
set_option maxRecDepth 100000
set_option maxHeartbeats 4000000
/-! RM: a dict display of three constant texts. -/
namespace Dt
open PySem PySem.Spec L2
open PyProof.Rows hiding St
section
variable {T : Tab} {X : Cx}
end
section
variable {T : Tab} {X : Cx} {a b : Expr} {pos : Pos} {fa fb : M AV}
end
end Dt
end
section
set_option maxRecDepth 100000
set_option maxHeartbeats 4000000
/-! RN: generator defs with several statements ahead of their loop, in list(..); a raise that is never reached; name *= int; min(list, default=None). -/
namespace L2
open PySem PySem.Spec PyProof.Rows GenW GenZ
end L2
namespace Dt
open PySem PySem.Spec L2
open PyProof.Rows hiding St
variable {NG : Prop}
section
variable {T : Tab} {X : Cx} {np : Nat → Bool} {st : Stmt}
end
section
variable {T : Tab} {X : Cx} {a b : Expr} {fa fb : M AV} {p pos kpos : Pos}
end
end Dt
end
section
set_option maxRecDepth 100000
set_option maxHeartbeats 4000000
/-! RP: o.f among the targets of an assignment; a call of an instance. -/
namespace Dt
open PySem PySem.Spec L2
open PyProof.Rows hiding St
variable {NG : Prop}
section
variable {T : Tab} {X : Cx} {np : Nat → Bool}
end
/-! ### o(e, ..) -/
section
variable {X : Cx} {W : WX} {fe e : Expr} {es : List Expr} {ta : TE} {t : TA} {pos : Pos}
end
structure CallOK (NG : Prop) (T : Tab) (X : Cx) (mt : Nat → Option (M EV)) : Prop where
  of : ∀ t g, mt t = some g → ∃ f k, StX.CallO X.K (T.cls t) f ∧ RG NG k X.A ∧ FnQ NG T X k f g
section
variable {T : Tab} {X : Cx} {fe e : Expr} {es : List Expr} {pos : Pos} {fa : M AV} {fs : M (List AV)} {mt : Nat → Option (M EV)} {t0 k : Nat} {f : Addr} {g : M EV}
end
/-! ### list(range(a, b)) -/
section
variable {T : Tab} {X : Cx} {a b : Expr} {p p2 q pos : Pos} {fa fb : M AV}
end
end Dt
end
section
set_option maxRecDepth 100000
set_option maxHeartbeats 4000000
/-! RQ: a def that calls what it got: try: return [st, a()] / except X: return [s] / .. -/
namespace Dt
open PySem PySem.Spec L2
open PyProof.Rows hiding St
end Dt
end
section
set_option maxRecDepth 100000
set_option maxHeartbeats 4000000
/-! RS: methods that say super(): their context, the call super().m(..) at the head of a body. -/
namespace Dt
open PySem PySem.Spec L2
open PyProof.Rows hiding St
open ClX (base_none met_new callwith_cm pin_at unpin)
variable {NG : Prop}
structure SScope (N P : List Str) (sc : Scope) : Prop where
  kind : sc.kind = .function
  co : sc.isCoroutine = false
  gen : sc.isGenerator = false
  nd : N.Nodup
  pre : N.take P.length = P
  par : ∀ x ∈ P, sc.names.lookup x = some .local
  nocell : ∀ y ∈ sc.names, y.2 ≠ .cell
  free : ∀ y ∈ sc.names, y.2 = .free → y.1 = "__class__"
  cls : sc.names.lookup ("__class__" : Str) = some .free
  sup : sc.names.lookup ("super" : Str) = some .globalImplicit
/-- the context of such a body -/
def cxS (P : Program) (w : World) (K : PySem.W.Frag) (mg : Str → Option Value) (base : Heap) (N : List Str) (qual : Str) (scope : Scope) (f : Addr) (cd : Value) (cc : Addr) (A : Around) (outer : List Env) (s : Shared) (H : Hp) (E : XK) : Cx where
  prog := P
  w := w
  K := K
  mg := mg
  base := base
  A := A.deeper (PySem.W.ksEnv qual scope s.heap.objs.size f cd cc)
  N := N
  s_0 := s
  H_0 := H
  env := PySem.W.ksEnv qual scope s.heap.objs.size f cd cc
  outer := outer
  stack := PySem.W.ksEnv qual scope s.heap.objs.size f cd cc :: outer
  ex := []
  calm := true
  fn := fun x => x != "__class__"
  pn := []
  xe := fun e s' => wpAny (model P w) (A.deeper (PySem.W.ksEnv qual scope s.heap.objs.size f cd cc)) (leaving (PySem.W.ksEnv qual scope s.heap.objs.size f cd cc) e) (fun _ s'' => L2.CX P w outer H s E e s'') (fun e' s'' => L2.CX P w outer H s E e' s'') s'
theorem lookup_zip : ∀ {ps : List Str} {us : List Value} {i : Nat} {x : Str} {u : Value}, ps.Nodup → ps[i]? = some x → us[i]? = some u → ps.length = us.length → (ps.zip us).reverse.lookup x = some u := by
  intro ps us i x u nd h1 h2 hl
  have key : ∀ {l : List (Str × Value)}, (l.map (·.1)).Nodup → (x, u) ∈ l → l.lookup x = some u := by
    intro l
    induction l with
    | nil => intro _ h; cases h
    | cons a l ih =>
      intro n h
      obtain ⟨y, v⟩ := a
      rw [List.map_cons, List.nodup_cons] at n
      rw [List.lookup_cons]
      rcases List.mem_cons.mp h with e | h
      · cases e; simp
      · have hne : x ≠ y := fun z => n.1 (List.mem_map.mpr ⟨(x, u), h, z⟩)
        have hb : (x == y) = false := by simp [hne]
        rw [hb]
        exact ih n.2 h
  refine key ?_ (List.mem_reverse.mpr ?_)
  · rw [List.map_reverse, List.map_fst_zip (by omega)]
    exact List.pairwise_reverse.mpr (nd.imp Ne.symm)
  · have : (ps.zip us)[i]? = some (x, u) := by rw [List.getElem?_zip_eq_some]; exact ⟨h1, h2⟩
    exact List.mem_of_getElem? this
theorem inv_startS {P : Program} {w : World} {K : PySem.W.Frag} {mg : Str → Option Value} {base : Heap} {N ps : List Str} {qual : Str} {scope : Scope} {f cc : Addr} {cd : Value} {A : Around} {outer : List Env} {s : Shared} {h1 : Heap} {tk : Nat} {H : Hp} {E : XK} {us : List Value} {vs : List V} {v0 : Option Value} {oc : Obj}
    (S : SScope N ps scope) (hd : A.handled = none) (e0 : Env0 P w K mg base A outer s H) (hl : vs.length = ps.length) (r : Vals vs us) (lcc : K.lookup cc = some oc) (dcc : oc.data = .cell v0)
    (hns : h1.Ns s.heap.objs.size (fun x => (ps.zip us).reverse.lookup x)) (hk : ∀ b o, s.heap.get? b = some o → h1.get? b = some o) :
    Inv (cxS P w K mg base N qual scope f cd cc A outer s H E) [] (L2.start N vs) H { s with heap := h1, toks := tk } := by
  have hpl : ps.length ≤ N.length := by have := congrArg List.length S.pre; rw [List.length_take] at this; omega
  have noA : ∀ b : Addr, b ∉ (cxS P w K mg base N qual scope f cd cc A outer s H E).ex := fun b z => absurd (show b ∈ ([] : List Addr) from z) (by simp)
  have bcc : base.get? cc = some oc := e0.mod.kin _ _ lcc
  have lk : ∀ {x : Str} {c : Addr}, ([("__class__", cc)] : List (Str × Addr)).lookup x = some c → x = "__class__" ∧ c = cc := fun {x c} h => by
    rw [List.lookup_cons] at h
    split at h
    · rename_i q; exact ⟨eq_of_beq q, (Option.some.inj h).symm⟩
    · cases h
  refine ⟨⟨e0.mod, S.kind, rfl, rfl, Nat.le_refl _, fun y z c h1 h2 => (lk h1).1.trans (lk h2).1.symm, fun y hy => ?_, fun y c hf h => ?_, fun _ => hd, Around.frames_deeper e0.frames, .inr ⟨rfl, rfl⟩, fun b z => absurd z (noA b), e0.bs, e0.bsz, fun b _ _ => noA b, fun b z => absurd z (noA b), e0.funs, e0.frf⟩,
    rfl, e0.bare, Un.kept hk, ⟨_, hns, fun i y v h1 h2 h3 => ?_⟩, fun y c h => ?_, e0.hok.fresh (Nat.le_refl _), fun y c h => ?_, fun p hp => absurd (show p ∈ ([] : List (Addr × Obj)) from hp) (by simp), e0.hok.kept hk, ?_⟩
  · have hy : scope.names.lookup y = some .cell ∨ scope.names.lookup y = some .free := hy
    rcases hy with hy | hy
    · exact absurd rfl (S.nocell _ (PySem.mem_of_lookup hy))
    · have := S.free _ (PySem.mem_of_lookup hy) rfl
      have this : y = "__class__" := this
      subst this
      exact ⟨cc, rfl⟩
  · rw [(lk h).1] at hf
    cases hf
  · have hi : i < vs.length := by
      unfold L2.start at h2
      by_cases hi : i < vs.length
      · exact hi
      · rw [List.getElem?_append_right (by simpa using hi)] at h2
        rw [List.getElem?_replicate] at h2
        split at h2 <;> cases h2
    have ha : vs[i]? = some v := by
      unfold L2.start at h2
      rw [List.getElem?_append_left (by simpa using hi), List.getElem?_map] at h2
      cases e : vs[i]? with
      | none => rw [e] at h2; cases h2
      | some a => rw [e] at h2; cases h2; rfl
    obtain ⟨u, hu, rv⟩ := r.get ha
    have hp : ps[i]? = some y := by
      rw [← S.pre, List.getElem?_take_of_lt (by omega)]; exact h1
    have ndP : ps.Nodup := by rw [← S.pre]; exact S.nd.sublist (List.take_sublist _ _)
    exact ⟨u, rv, .inl ⟨S.par y (List.mem_of_getElem? hp), lookup_zip ndP hp hu (by rw [← r.length, hl])⟩⟩
  · rw [(lk h).2]
    exact ⟨v0, oc, hk _ _ ((e0.bs _ _ bcc).1), dcc⟩
  · rw [(lk h).2]
    exact (e0.bs _ _ bcc).2
  · unfold L2.start
    show _ = N.length
    rw [List.length_append, List.length_map, List.length_replicate]
    omega

/-! ### judgements at the def's own code -/
structure PEA (X : Cx) (b0 : List Stmt) (e : Expr) (t : TE) : Prop where
  run : ∀ (pins : List (Addr × Obj)) (s : Shared) (σ : St) (H : Hp) (Q : VK), Inv X pins σ H s → t σ H Q → _root_.PySem.wpAt (model X.prog X.w) X.A (.func b0 X.env) (eval e X.env) (EP X pins σ Q) X.xe s
structure PSA (X : Cx) (b0 : List Stmt) (st : Stmt) (t : TS) : Prop where
  run : ∀ (pins : List (Addr × Obj)) (s : Shared) (σ : St) (H : Hp) (D : Ends), Inv X pins σ H s → t D σ H → _root_.PySem.wpAt (model X.prog X.w) X.A (.func b0 X.env) (exec st X.env) (SP X pins D) X.xe s
structure PSsA (X : Cx) (b0 : List Stmt) (st : List Stmt) (t : TS) : Prop where
  run : ∀ (pins : List (Addr × Obj)) (s : Shared) (σ : St) (H : Hp) (D : Ends), Inv X pins σ H s → t D σ H → _root_.PySem.wpAt (model X.prog X.w) X.A (.func b0 X.env) (execs st X.env) (SP X pins D) X.xe s
section
variable {X : Cx} {b0 : List Stmt} {e : Expr} {st : Stmt} {rest : List Stmt} {pos : Pos} {te : TE} {t u : TS}
end

/-! ### super().m(e, ..) -/
/-- what of the program is asked -/
structure SupP (P : Program) (file : Str) : Prop where
  file : ((P.main.file : Str) == file) = true
  top : (P.main.scope.names.lookup ("super" : Str)).isSome = false
/-- the def that says it -/
structure SupF (X : Cx) (N0 : Str) (D : Addr) : Prop where
  ex : ∃ (f cda cc : Addr) (fd : FuncData) (oc ccl cl : Value) (od cdd cld : Option Addr) (osl ccs csl : Array (Option Value)) (ar : Arg) (vs : Array Value) (file : Str) (tf : Tok) (cdD : ClassData),
    X.env.func = some f ∧ X.env.code = .ref cda ∧ X.K.lookup f = some ⟨oc, od, .func fd, osl⟩ ∧ (fd.params.posonlyargs ++ fd.params.args).head? = some ar ∧ ar.arg = N0 ∧ X.K.lookup cda = some ⟨ccl, cdd, .fields vs, ccs⟩ ∧ vs[2]? = some (.str file tf) ∧ SupP X.prog file ∧
      X.env.cells.lookup ("__class__" : Str) = some cc ∧ X.K.lookup cc = some ⟨cl, cld, .cell (some (.ref D)), csl⟩ ∧ PySem.W.clsIn X.K D = some cdD
  ks : X.env.kindOf "super" = some .globalImplicit
  kc : X.env.kindOf "__class__" = some .free
  n0 : X.N[0]? = some N0
  ka : X.env.scope.names.lookup N0 = some .local
  mg : X.mg "super" = none
  st : PySem.W.nsIn X.K cStatics "thirdparty.any" = some none
/-- what of the receiver's class -/
structure SupC (K : PySem.W.Frag) (C D : Addr) (m : Str) (g : Addr) : Prop where
  at_ : PySem.W.ks_superIn K C D m = some (some (.ref g))
  ty : PySem.W.typeIn K (.ref g) = some (.type "function")
  sub : PySem.W.mroIn K C (.ref D) = some true
  fi : PySem.W.fnIn K g = true
section
variable {X : Cx} {W : WX} {b0 : List Stmt} {e : Expr} {es : List Expr} {t : TA} {p0 p1 apos pos : Pos} {D : Addr} {N0 m : Str} {pl : Sem Bool}
end

/-! ### in the layer's terms -/
section
variable (T : Tab) (X : Cx) (np : Nat → Bool) (b0 : List Stmt)
def QSsA (st : List Stmt) (f : S) : Prop := ∀ pn xe W, Takes (X.tr pn xe) W → PassesOwn (model X.prog X.w) X.A X.env xe → PSsA (X.tr pn xe) b0 st (trS X.K T np f W)
end
section
variable {T : Tab} {X : Cx} {np : Nat → Bool} {b0 : List Stmt} {pos : Pos} {e : Expr} {st : Stmt} {rest : List Stmt} {f : M EV} {p q : S}
end
structure SupOK (NG : Prop) (T : Tab) (X : Cx) (D : Addr) (m : Str) (mt : Nat → Option (M EV)) : Prop where
  of : ∀ t g, mt t = some g → ∃ f k, SupC X.K (T.cls t) D m f ∧ RG NG k X.A ∧ FnQ NG T X k f g
section
variable {T : Tab} {X : Cx} {b0 : List Stmt} {e : Expr} {es : List Expr} {p0 p1 apos pos : Pos} {D : Addr} {N0 m : Str} {pl : Sem Bool} {mt : Nat → Option (M EV)} {fs : M (List AV)}
end

/-! ### the promise of such a def -/
section
variable {P : Program} {w : World} {K : PySem.W.Frag} {mg : Str → Option Value} {base : Heap} {T : Tab}
/-- a def that closes over __class__ (the class at D), without defaults -/
structure FxS (P : Program) (K : PySem.W.Frag) (x qual : Str) (st : Stmt) (f D : Addr) : Prop where
  ex : ∃ (oc : Value) (od : Option Addr) (dV kV doc pm : Value) (an : Option Addr) (cda cc : Addr) (ct : Value) (osl : Array (Option Value)) (ccl cl : Value) (cdd cld : Option Addr) (ccs csl : Array (Option Value)) (vs : Array Value) (file : Str) (tf : Tok) (cdD : ClassData),
    K.lookup f = some ⟨oc, od, .func (PySem.W.ksFn x qual (defArgs st) (defBody st) (defScope st) dV kV doc pm an (.ref cda) ct cc), osl⟩ ∧ PySem.W.codeIn K (.ref cda) qual = true ∧ K.lookup cda = some ⟨ccl, cdd, .fields vs, ccs⟩ ∧ vs[2]? = some (.str file tf) ∧ SupP P file ∧
      K.lookup cc = some ⟨cl, cld, .cell (some (.ref D)), csl⟩ ∧ PySem.W.clsIn K D = some cdD ∧ dV = .none
  kp : PySem.W.keepIn K (.ref f) = true
  st : PySem.W.nsIn K cStatics "thirdparty.any" = some none
theorem sp_bodyS {st : Stmt} {qual : Str} {f cc : Addr} {N ps : List Str} {body : S} {cdv : Value} {A : Around} {outer : List Env} {s : Shared} {H : Hp} {E : XK} {vs : List V} {Q : VK} (hpl : ps.length ≤ N.length)
    (q : QSsA T (cxS P w K mg base N qual (defScope st) f cdv cc A outer s H E) (lt ps.length) (defBody st) (defBody st) body) (hsp : spD K T (funD N.length ps.length body) vs H Q E) :
    ∃ t, PSsA (cxS P w K mg base N qual (defScope st) f cdv cc A outer s H E) (defBody st) (defBody st) t ∧ t { nx := fun _ H' => Q .non H', rt := Q } (L2.start N vs) H := by
  have q := q (cxS P w K mg base N qual (defScope st) f cdv cc A outer s H E).pn (cxS P w K mg base N qual (defScope st) f cdv cc A outer s H E).xe (fun c d _ H => E c d H) (takes_of rfl rfl rfl rfl) (passes_of rfl)
  refine ⟨_, q, ?_⟩
  obtain ⟨ex, args, g, r, e, o⟩ := hsp
  unfold funD at e
  by_cases hl : args.length = ps.length
  · rw [if_pos hl] at e
    refine ⟨ex, _, start_good hl hpl g, ?_⟩
    cases w : body (args ++ List.replicate (N.length - ps.length) .emp) with
    | none => rw [w] at e; cases e
    | some rb =>
      rw [w] at e
      refine ⟨rb, rfl, ?_⟩
      cases rb with
      | bk _ => cases e
      | ct _ => cases e
      | nx e1 =>
        cases e
        intro σ' H' s
        obtain ⟨s', _, _⟩ := end_step hl hpl g s
        exact o .non H' s' rfl
      | rt v e1 =>
        cases e
        intro u σ' H' s rr
        obtain ⟨s', exb, gm⟩ := end_step hl hpl g s
        refine o u H' s' ?_
        cases v with
        | v d => exact Rep.mono (fun a o n e => ⟨fun z => n (exb a z), e⟩) rr
        | o c =>
          obtain ⟨a, ev, na, no, hn, ro, gx⟩ := rr
          refine ⟨a, ev, ?_, ro.mono rfl fun b o n e => ⟨fun z => n (z.imp (exb b) id), e⟩, gm a gx⟩
          rcases hn with ⟨j, c', hj, e1, _⟩ | hn
          · rcases app_get e1 with ⟨h1, _⟩ | ⟨_, h⟩
            · have := of_decide_eq_false hj; omega
            · cases h
          · exact hn
      | exc x e1 =>
        cases e
        intro cls dd σ' H' s rx
        obtain ⟨s', exb, _⟩ := end_step hl hpl g s
        refine o cls dd H' s' ⟨rx.1, rx.2.imp id ?_⟩
        rintro ⟨a, ws, e1, e2, l, r⟩
        exact ⟨a, ws, e1, e2, l, r.mono fun a o n e => ⟨fun z => n (exb a z), e⟩⟩
  · rw [if_neg hl] at e; cases e
theorem run_sup {x qual : Str} {st : Stmt} {f cc cda : Addr} {N ps : List Str} {k : Nat} {body : S} {oc dV kV doc pm ct : Value} {od an : Option Addr} {osl : Array (Option Value)} {cob : Obj} {v0 : Option Value}
    (lf : K.lookup f = some ⟨oc, od, .func (PySem.W.ksFn x qual (defArgs st) (defBody st) (defScope st) dV kV doc pm an (.ref cda) ct cc), osl⟩) (hcd : PySem.W.codeIn K (.ref cda) qual = true) (lcc : K.lookup cc = some cob) (dcc : cob.data = .cell v0) (Sc : SScope N ps (defScope st))
    {A : Around} {outer : List Env} {s : Shared} {H : Hp} {args : Args} {us : List Value} {vs : List V} {Q : VK} {E : XK} (hr : RG NG (k + 1) A) (e0 : Env0 P w K mg base A outer s H)
    (hb2 : BindsTo s (PySem.W.ksFn x qual (defArgs st) (defBody st) (defScope st) dV kV doc pm an (.ref cda) ct cc) args (ps.zip us)) (r : Vals vs us) (hsp : spD K T (funD N.length ps.length body) vs H Q E)
    (hb : RG NG k (A.deeper (PySem.W.ksEnv qual (defScope st) s.heap.objs.size f (.ref cda) cc)) → QSsA T (cxS P w K mg base N qual (defScope st) f (.ref cda) cc A outer s H E) (lt ps.length) (defBody st) (defBody st) body) :
    codeAny (model P w) A (.call (.ref f) args) (CR (L2.CX P w) outer P w H s Q E) s := by
  have hpl : ps.length ≤ N.length := by have := congrArg List.length Sc.pre; rw [List.length_take] at this; omega
  have hl : vs.length = ps.length := fun_len hsp
  have KX : K.In s.heap := e0.mod.kin.keeps fun b o e => (e0.bs b o e).1
  have lim : s.heap.NoLimit := e0.mod.nolimit.keeps fun b o e => (e0.bs b o e).1
  refine ks_codeAny_call_defAt (fd := PySem.W.ksFn x qual (defArgs st) (defBody st) (defScope st) dV kV doc pm an (.ref cda) ct cc) (body := defBody st) (binds := ps.zip us) hr.r.depth (KX _ _ lf) rfl lim (PySem.W.codeRec_of KX hcd) rfl hb2 Sc.nocell (fun y hy => Sc.par _ (List.of_mem_zip hy).1) (fun h₁ hns hk₁ => ?_) Sc.co Sc.gen Sc.kind
  obtain ⟨t, ht, hq⟩ := sp_bodyS hpl (hb (hr.deeper _)) hsp
  have I : Inv (cxS P w K mg base N qual (defScope st) f (.ref cda) cc A outer s H E) [] (L2.start N vs) H { s with heap := h₁, toks := s.toks + (ps.zip us).length } := inv_startS Sc hr.r.hd e0 hl r lcc dcc hns hk₁
  refine ks_wpAt_mono (ht.run [] _ (L2.start N vs) H _ I hq) (fun fl s' hs => ?_) fun e s' hs => hs
  have fin : ∀ {σ' : St} {H' : Hp} {v : V} {u : Value}, Inv (cxS P w K mg base N qual (defScope st) f (.ref cda) cc A outer s H E) [] σ' H' s' → RelV v u → Q v H' → CE outer P w H s Q u s' :=
    fun {σ' H' v u} J rv q => ⟨v, H', J.os, J.bare, J.base, J.hok, rv, q⟩
  cases fl with
  | ret u =>
    obtain ⟨v, σ', H', J, rv, q⟩ := hs
    exact fin J rv q
  | next =>
    obtain ⟨σ', H', J, q⟩ := hs
    exact fin (v := V.non) (u := Value.none) J rfl q
  | brk =>
    obtain ⟨_, _, _, q⟩ := hs
    exact False.elim q
  | cont =>
    obtain ⟨_, _, _, q⟩ := hs
    exact False.elim q
theorem FxS.q {x qual : Str} {st : Stmt} {f D : Addr} {N ps : List Str} {k : Nat} {body : S} {N0 : Str} (F : FxS P K x qual st f D) (Sc : SScope N ps (defScope st)) (hmg : mg "super" = none)
    (h0 : ((defArgs st).posonlyargs ++ (defArgs st).args).head?.map (·.arg) = some N0) (hN0 : N[0]? = some N0) (hl0 : (defScope st).names.lookup N0 = some .local)
    (bd : ∀ (kV doc pm : Value) (an : Option Addr) (cdv ct : Value) (cc : Addr) (us : List Value), us.length = ps.length → bindArgs (PySem.W.ksFn x qual (defArgs st) (defBody st) (defScope st) .none kV doc pm an cdv ct cc) ⟨us, []⟩ = pure (ps.zip us))
    (hb : ∀ (cda cc : Addr) (A : Around) (outer : List Env) (s : Shared) (H : Hp) (E : XK), RG NG k (A.deeper (PySem.W.ksEnv qual (defScope st) s.heap.objs.size f (.ref cda) cc)) → SupF (cxS P w K mg base N qual (defScope st) f (.ref cda) cc A outer s H E) N0 D →
      QSsA T (cxS P w K mg base N qual (defScope st) f (.ref cda) cc A outer s H E) (lt ps.length) (defBody st) (defBody st) body) :
    FnG NG P w K mg base (k + 1) f (spD K T (funD N.length ps.length body)) := by
  obtain ⟨oc, od, dV, kV, doc, pm, an, cda, cc, ct, osl, ccl, cl, cdd, cld, ccs, csl, vs0, file, tf, cdD, lf, hcd, lcd, hvs, hP, lcc, hD, rfl⟩ := F.ex
  intro A outer s H us vs Q E hr e0 r hsp
  have hl : vs.length = ps.length := fun_len hsp
  obtain ⟨ar, ha1, ha2⟩ := Option.map_eq_some_iff.mp h0
  refine run_sup lf hcd lcc rfl Sc hr e0 (.of_eq (bd kV doc pm an _ ct cc us (by rw [← r.length]; exact hl))) r hsp fun hr' => ?_
  refine hb cda cc A outer s H E hr' ⟨⟨f, cda, cc, _, oc, ccl, cl, od, cdd, cld, osl, ccs, csl, ar, vs0, file, tf, cdD, rfl, rfl, lf, ha1, ha2, lcd, hvs, hP, rfl, lcc, hD⟩, Sc.sup, Sc.cls, hN0, hl0, hmg, F.st⟩
end
end Dt
end
section
set_option maxRecDepth 100000
set_option maxHeartbeats 4000000
/-! RT0: f(.., **more): the keywords out of a dict (empty, or one entry). -/
namespace Dt
open PySem PySem.Spec L2
open PyProof.Rows hiding St
section
variable {M : Model} {A : Around} {E : Value → Shared → Prop} {h : Heap} {g : Array GenState} {dr : Drawn} {t : Nat} {os : OsState}
end
end Dt
end
section
set_option maxRecDepth 100000
set_option maxHeartbeats 4000000
/-! RT: methods with defaults and **more that say super(); calls of classes with keywords. -/
namespace Dt
open PySem PySem.Spec L2
open PyProof.Rows hiding St
open ClX (base_none met_new callwith_cm pin_at unpin)
variable {NG : Prop}
/-- the context of such a body; what stands at pn stays -/
abbrev cxP (pn : List (Addr × Obj)) (P : Program) (w : World) (K : PySem.W.Frag) (mg : Str → Option Value) (base : Heap) (N : List Str) (qual : Str) (scope : Scope) (f : Addr) (cd : Value) (cc : Addr) (A : Around) (outer : List Env) (s : Shared) (H : Hp) (E : XK) : Cx :=
  (cxS P w K mg base N qual scope f cd cc A outer s H E).tr pn (cxS P w K mg base N qual scope f cd cc A outer s H E).xe
/-! ### judgements at the def's entry -/
structure PEK (X : Cx) (b0 : List Stmt) (σ : L2.St) (e : Expr) (t : TE) : Prop where
  run : ∀ (pins : List (Addr × Obj)) (s : Shared) (H : Hp) (Q : VK), Inv X pins σ H s → t σ H Q → _root_.PySem.wpAt (model X.prog X.w) X.A (.func b0 X.env) (eval e X.env) (EP X pins σ Q) X.xe s
structure PSK (X : Cx) (b0 : List Stmt) (σ : L2.St) (st : Stmt) (t : TS) : Prop where
  run : ∀ (pins : List (Addr × Obj)) (s : Shared) (H : Hp) (D : Ends), Inv X pins σ H s → t D σ H → _root_.PySem.wpAt (model X.prog X.w) X.A (.func b0 X.env) (exec st X.env) (SP X pins D) X.xe s
structure PSsK (X : Cx) (b0 : List Stmt) (σ : L2.St) (st : List Stmt) (t : TS) : Prop where
  run : ∀ (pins : List (Addr × Obj)) (s : Shared) (H : Hp) (D : Ends), Inv X pins σ H s → t D σ H → _root_.PySem.wpAt (model X.prog X.w) X.A (.func b0 X.env) (execs st X.env) (SP X pins D) X.xe s
section
variable (T : Tab) (X : Cx) (np : Nat → Bool) (b0 : List Stmt) (σ : L2.St)
def QSsK (st : List Stmt) (f : S) : Prop := ∀ xe W, Takes (X.tr X.pn xe) W → PassesOwn (model X.prog X.w) X.A X.env xe → PSsK (X.tr X.pn xe) b0 σ st (trS X.K T np f W)
end
section
variable {T : Tab} {X : Cx} {np : Nat → Bool} {b0 : List Stmt} {σ0 : L2.St} {pos : Pos} {e : Expr} {st : Stmt} {rest : List Stmt} {f : M EV} {p q : S}
end
/-! ### super().m(e, .., **more), more an empty dict -/
structure MoreF (X : Cx) (σ0 : L2.St) (i : Nat) (x : Str) : Prop where
  ex : ∃ (a : Addr) (oa : Obj) (ea : Nat), σ0[i]? = some (some (.ref a)) ∧ (a, oa) ∈ X.pn ∧ oa.cls = .type "dict" ∧ oa.data = .dict #[] ea ∧ a ≠ sysModules
  n : X.N[i]? = some x
  l : X.env.scope.names.lookup x = some .local
section
variable {T : Tab} {X : Cx} {b0 : List Stmt} {σ0 : L2.St} {e : Expr} {es : List Expr} {p0 p1 p2 apos kpos pos : Pos} {D : Addr} {N0 m xm : Str} {i : Nat} {pl : Sem Bool} {mt : Nat → Option (M EV)} {fs : M (List AV)}
end
end Dt
end
section
set_option maxRecDepth 100000
set_option maxHeartbeats 4000000
/-! RU: defs with defaults and **more, their promise by the arguments that are written; calls of classes with keywords. -/
namespace Dt
open PySem PySem.Spec L2
open PyProof.Rows hiding St
variable {NG : Prop}
/-- where a parameter behind self comes from: an argument that is written, a default, **more (empty) -/
inductive PSrc where
  | arg (i : Nat) | dfl (d : D) | emp
def srcS (r : Sl) : PSrc → Option Slot
  | .arg i => r[i]?
  | .dfl d => some (.val d)
  | .emp => some .emp
def fullS (r : Sl) : List PSrc → Option Sl
  | [] => some []
  | p :: ps => (srcS r p).bind fun s => (fullS r ps).map (s :: ·)
def noOwn : Sl → Bool
  | [] => true
  | .own _ :: _ => false
  | _ :: r => noOwn r
def valD : D → V
  | .bl b => .bl b
  | .int i => .int i
  | .str s => .str (mkS s)
  | _ => .non
def scaD : D → Bool
  | .non => true
  | .bl _ => true
  | .int _ => true
  | .str _ => true
  | _ => false
def scaP : List PSrc → Bool
  | [] => true
  | .dfl d :: r => scaD d && scaP r
  | _ :: r => scaP r
def srcV (vs : List V) (am : V) : PSrc → V
  | .arg i => vs.getD i .non
  | .dfl d => valD d
  | .emp => am
def funX (N m : Nat) (fl : List PSrc) (body : S) : M EV := fun args => match args with
  | [] => none
  | s0 :: r => if r.length = m ∧ noOwn r = true then (fullS r fl).bind fun sl => match funD N (fl.length + 1) body (s0 :: sl) with
      | some (.ok ev (o0 :: _)) => some (.ok ev (o0 :: r))
      | some (.exc x (o0 :: _)) => some (.exc x (o0 :: r))
      | _ => none
    else none
theorem noOwn_get : ∀ {r : Sl} {i : Nat} {c : OC}, noOwn r = true → r[i]? ≠ some (.own c)
  | [], i, c, _, h => by simp at h
  | s :: r, 0, c, n, h => by
    simp at h
    subst h
    cases n
  | s :: r, i + 1, c, n, h => by
    have n' : noOwn r = true := by cases s <;> first | exact n | cases n
    exact noOwn_get n' (by simpa using h)
theorem noOwn_of : ∀ {r : Sl}, (∀ (i : Nat) (c : OC), r[i]? ≠ some (Slot.own c)) → noOwn r = true
  | [], _ => rfl
  | s :: r, h => by
    have t := noOwn_of (r := r) fun i c e => h (i + 1) c (by simpa using e)
    cases s with
    | own c => exact absurd rfl (h 0 c)
    | _ => exact t
section
variable {K : PySem.W.Frag} {T : Tab} {ex : Addr → Prop} {v0 : Option V} {σ1 σ2 : L2.St} {H H' : Hp} {s0 o0 : Slot} {r1 r2 o2 : Sl}
theorem ownsX (n1 : noOwn r1 = true) {a : Addr} : Owns (v0 :: σ1) (s0 :: r1) a ↔ (∃ c, s0 = .own c) ∧ v0 = some (V.ref a) := by
  constructor
  · rintro ⟨i, c, e1, e2⟩
    cases i with
    | zero => simp at e1 e2; exact ⟨⟨c, e1⟩, e2⟩
    | succ i => exact absurd (by simpa using e1) (noOwn_get (i := i) (c := c) n1)
  · rintro ⟨⟨c, e1⟩, e2⟩
    exact ⟨0, c, by simp [e1], by simp [e2]⟩
theorem exOX (n1 : noOwn r1 = true) (n2 : noOwn r2 = true) : exO ex (v0 :: σ1) (s0 :: r1) = exO ex (v0 :: σ2) (s0 :: r2) :=
  funext fun a => propext (or_congr Iff.rfl ((ownsX n1).trans (ownsX n2).symm))
theorem goodX (g : Good K T ex (v0 :: σ1) H (s0 :: r1)) (n1 : noOwn r1 = true) (n2 : noOwn r2 = true) (hl : r2.length = σ2.length)
    (hv : ∀ (i : Nat) (d : D), r2[i]? = some (.val d) → ∃ v, σ2[i]? = some (some v) ∧ Rep K T (exO ex (v0 :: σ1) (s0 :: r1)) H d v) : Good K T ex (v0 :: σ2) H (s0 :: r2) := by
  have eo := exOX (ex := ex) (v0 := v0) (σ1 := σ1) (σ2 := σ2) (s0 := s0) n1 n2
  refine ⟨by simp [hl], fun i d e => ?_, fun i c e => ?_, fun i j a c c' e1 e2 _ _ => ?_, g.dom, g.tb⟩
  · cases i with
    | zero =>
      obtain ⟨v, q1, q2⟩ := g.val 0 d (by simpa using e)
      exact ⟨v, by simpa using q1, by rw [← eo]; exact q2⟩
    | succ i =>
      obtain ⟨v, q1, q2⟩ := hv i d (by simpa using e)
      exact ⟨v, by simpa using q1, by rw [← eo]; exact q2⟩
  · cases i with
    | zero =>
      obtain ⟨a, q1, q2, q3⟩ := g.own 0 c (by simpa using e)
      exact ⟨a, by simpa using q1, q2, by rw [← eo]; exact q3⟩
    | succ i => exact absurd (by simpa using e) (noOwn_get (i := i) (c := c) n2)
  · cases i with
    | zero => cases j with
      | zero => rfl
      | succ j => exact absurd (by simpa using e2) (noOwn_get (i := j) (c := c') n2)
    | succ i => exact absurd (by simpa using e1) (noOwn_get (i := i) (c := c) n2)
/-- back: the slots behind the first are as they were -/
theorem stepX (g0 : Good K T ex (v0 :: σ1) H (s0 :: r1)) (n1 : noOwn r1 = true) (n2 : noOwn r2 = true) (s : Step K T ex (v0 :: σ2) H (s0 :: r2) H' (o0 :: o2)) :
    Step K T ex (v0 :: σ1) H (s0 :: r1) H' (o0 :: r1) ∧ exO ex (v0 :: σ1) (o0 :: r1) = exO ex (v0 :: σ2) (o0 :: o2) ∧ ∀ x, H x = none → Good K T (fun b => ex b ∨ b = x) (v0 :: σ2) H' (o0 :: o2) → Good K T (fun b => ex b ∨ b = x) (v0 :: σ1) H' (o0 :: r1) := by
  have m2 : noOwn o2 = true := noOwn_of fun i c e => by
    obtain ⟨c', e'⟩ := s.sb (i + 1) c (by simpa using e)
    exact noOwn_get (i := i) (c := c') n2 (by simpa using e')
  have hl : r1.length = σ1.length := by have := g0.len; simpa using this
  have eo := exOX (ex := ex) (v0 := v0) (σ1 := σ1) (σ2 := σ2) (s0 := s0) n1 n2
  have eo' := exOX (ex := ex) (v0 := v0) (σ1 := σ1) (σ2 := σ2) (s0 := o0) n1 m2
  have gen : ∀ P : Addr → Prop, (∀ x, P x → H x = none) → Good K T (fun b => ex b ∨ P b) (v0 :: σ2) H' (o0 :: o2) → Good K T (fun b => ex b ∨ P b) (v0 :: σ1) H' (o0 :: r1) := fun P hP gd => by
    refine goodX gd m2 n1 hl fun i d e => ?_
    obtain ⟨v, q1, q2⟩ := g0.val (i + 1) d (by simpa using e)
    refine ⟨v, by simpa using q1, q2.monoT fun a o n q => ⟨fun z => ?_, s.fr a o q fun z => n (by rw [eo]; exact .inr z)⟩⟩
    have z' : exO ex (v0 :: σ2) (o0 :: o2) a ∨ P a := by
      rcases z with (z | z) | z
      · exact .inl (.inl z)
      · exact .inr z
      · exact .inl (.inr z)
    rcases z' with z | z
    · exact n (by rw [eo]; exact s.exO z)
    · rw [hP a z] at q; cases q
  have e0 : (fun b => ex b ∨ (fun _ : Addr => False) b) = ex := funext fun b => propext ⟨fun h => h.elim id False.elim, .inl⟩
  refine ⟨⟨fun b o q n => s.fr b o q fun z => n ((ownsX n1).mpr ((ownsX n2).mp z)), s.dm, fun i c e => ?_, ?_⟩, eo', fun x hx gx => gen (fun b => b = x) (fun y z => by rw [z]; exact hx) gx⟩
  · cases i with
    | zero =>
      obtain ⟨c', e'⟩ := s.sb 0 c (by simpa using e)
      exact ⟨c', by simpa using e'⟩
    | succ i => exact absurd (by simpa using e) (noOwn_get (i := i) (c := c) n1)
  · have q := gen (fun _ => False) (fun _ z => z.elim) (by rw [e0]; exact s.gd)
    rw [e0] at q
    exact q
theorem valD_rep {d : D} (h : scaD d = true) : Rep K T ex H d (valD d) := by
  cases d <;> first | rfl | cases h
theorem fullS_ok {vs : List V} {am : V} : ∀ {fl : List PSrc} {sl : Sl}, fullS r1 fl = some sl → noOwn r1 = true → scaP fl = true → r1.length = vs.length → (∀ (i : Nat) (d : D), r1[i]? = some (.val d) → ∃ v, vs[i]? = some v ∧ Rep K T ex H d v) →
    sl.length = fl.length ∧ noOwn sl = true ∧ ∀ (i : Nat) (d : D), sl[i]? = some (.val d) → ∃ v, (fl.map (srcV vs am))[i]? = some v ∧ Rep K T ex H d v
  | [], sl, e, _, _, _, _ => by cases e; exact ⟨rfl, rfl, fun i d e => by simp at e⟩
  | p :: fl, sl, e, n, sc, hl, hv => by
    obtain ⟨s, e1, e2⟩ := opt_bind e
    obtain ⟨t, e3, e4⟩ := Option.map_eq_some_iff.mp e2
    subst e4
    have sc' : scaP fl = true := by cases p <;> first | exact sc | exact (Bool.and_eq_true_iff.mp sc).2
    obtain ⟨h1, h2, h3⟩ := fullS_ok e3 n sc' hl hv
    refine ⟨by simp [h1], ?_, fun i d e => ?_⟩
    · cases s with
      | own c =>
        cases p with
        | arg i => exact absurd e1 (noOwn_get n)
        | dfl d => cases e1
        | emp => cases e1
      | _ => exact h2
    · cases i with
      | succ i => simpa using h3 i d (by simpa using e)
      | zero =>
        simp at e
        subst e
        cases p with
        | arg i =>
          obtain ⟨v, q1, q2⟩ := hv i d e1
          exact ⟨v, by simp [srcV, List.getD_eq_getElem?_getD, q1], q2⟩
        | dfl d' =>
          cases e1
          exact ⟨_, rfl, valD_rep (Bool.and_eq_true_iff.mp sc).1⟩
        | emp => cases e1
theorem spX {N m : Nat} {fl : List PSrc} {body : S} {w0 : V} {vs : List V} {am : V} {Q : VK} {E : XK} (sc : scaP fl = true) (h : spD K T (funX N m fl body) (w0 :: vs) H Q E) : vs.length = m ∧ spD K T (funD N (fl.length + 1) body) (w0 :: fl.map (srcV vs am)) H Q E := by
  obtain ⟨ex, env, g, r, e, o⟩ := h
  unfold funX at e
  cases env with
  | nil => cases e
  | cons s0 r1 =>
    dsimp only at e
    by_cases hc : r1.length = m ∧ noOwn r1 = true
    · rw [if_pos hc] at e
      obtain ⟨sl, e1, e⟩ := opt_bind e
      have gl : r1.length = vs.length := by have := g.len; simpa using this
      have g' : Good K T ex (some w0 :: vs.map some) H (s0 :: r1) := g
      obtain ⟨h1, h2, h3⟩ := fullS_ok (K := K) (T := T) (ex := exO ex (some w0 :: vs.map some) (s0 :: r1)) (H := H) (vs := vs) (am := am) e1 hc.2 sc gl fun i d q => by
        obtain ⟨v, q1, q2⟩ := g'.val (i + 1) d (by simpa using q)
        have q1 : (vs.map some)[i]? = some (some v) := by simpa using q1
        rw [List.getElem?_map] at q1
        obtain ⟨v', z1, z2⟩ := Option.map_eq_some_iff.mp q1
        cases z2
        exact ⟨v, z1, q2⟩
      have g2 : Good K T ex (some w0 :: (fl.map (srcV vs am)).map some) H (s0 :: sl) := goodX g' hc.2 h2 (by simp [h1]) fun i d q => by
        obtain ⟨v, z1, z2⟩ := h3 i d q
        exact ⟨v, by rw [List.getElem?_map, z1]; rfl, z2⟩
      refine ⟨gl.symm.trans hc.1, ex, s0 :: sl, g2, ?_⟩
      cases q : funD N (fl.length + 1) body (s0 :: sl) with
      | none => rw [q] at e; cases e
      | some rr =>
        rw [q] at e
        refine ⟨rr, rfl, ?_⟩
        cases rr with
        | exc x o' =>
          cases o' with
          | nil => cases e
          | cons o0 o2 =>
            cases e
            intro cls dd H' s rx
            obtain ⟨s', eo, _⟩ := stepX g' hc.2 h2 s
            refine o cls dd H' s' ⟨rx.1, rx.2.imp id ?_⟩
            rintro ⟨b, ws, z1, z2, z3, z4⟩
            exact ⟨b, ws, z1, z2, z3, by rw [show exO ex (List.map some (w0 :: vs)) (o0 :: r1) = exO ex (some w0 :: (fl.map (srcV vs am)).map some) (o0 :: o2) from eo]; exact z4⟩
        | ok ev o' =>
          cases o' with
          | nil => cases e
          | cons o0 o2 =>
            cases e
            intro u H' s ru
            obtain ⟨s', eo, gm⟩ := stepX g' hc.2 h2 s
            have eo' : exO ex (List.map some (w0 :: vs)) (o0 :: r1) = exO ex (some w0 :: (fl.map (srcV vs am)).map some) (o0 :: o2) := eo
            refine o u H' s' ?_
            cases ev with
            | v d => show Rep K T _ H' d u; rw [eo']; exact ru
            | o c =>
              obtain ⟨b, z1, z2, z3, z4⟩ := ru
              exact ⟨b, z1, z2, by rw [eo']; exact z3, gm b z2 z4⟩
    · rw [if_neg hc] at e; cases e
end
end Dt
end
section
set_option maxRecDepth 100000
set_option maxHeartbeats 4000000
/-! RV: the promise of a def with defaults and **more; a class called with keywords. -/
namespace Dt
open PySem PySem.Spec L2
open PyProof.Rows hiding St
variable {NG : Prop}
section
variable {P : Program} {w : World} {K : PySem.W.Frag} {mg : Str → Option Value} {base : Heap} {T : Tab}
theorem env0_kept {A : Around} {outer : List Env} {s s2 : Shared} {H : Hp} (e0 : Env0 P w K mg base A outer s H) (kp : ∀ b x, s.heap.get? b = some x → s2.heap.get? b = some x) (hz : s.heap.objs.size ≤ s2.heap.objs.size) (hg : s2.gens = s.gens) : Env0 P w K mg base A outer s2 H :=
  ⟨e0.frames, e0.mod, fun b x e => ⟨kp b x (e0.bs b x e).1, (e0.bs b x e).2⟩, Nat.le_trans e0.bsz hz, Heap.FunFrames.of_keeps (fun b x e _ => ⟨x, kp b x e, rfl⟩) e0.funs, e0.frf, e0.hok.kept kp, by rw [hg]; exact e0.bare⟩
/-- a call by positional values and keywords (n, ks): the values in the order that they are written -/
def FnK (NG : Prop) (P : Program) (w : World) (K : PySem.W.Frag) (mg : Str → Option Value) (base : Heap) (k : Nat) (f : Addr) (n : Nat) (ks : List Str) (sp : Sp) : Prop :=
  ∀ (A : Around) (outer : List Env) (s : Shared) (H : Hp) (us ws : List Value) (vs zs : List V) (Q : VK) (E : XK), RG NG k A → Env0 P w K mg base A outer s H → Vals vs us → Vals zs ws → us.length = n → ws.length = ks.length → sp (vs ++ zs) H Q E →
    codeAny (model P w) A (.call (.ref f) ⟨us, ks.zip ws⟩) (CR (L2.CX P w) outer P w H s Q E) s
theorem sp_bodyK {st : Stmt} {qual : Str} {f cc : Addr} {N ps : List Str} {body : S} {cdv : Value} {A : Around} {outer : List Env} {s : Shared} {H : Hp} {E : XK} {vs : List V} {Q : VK} {pn : List (Addr × Obj)} (hpl : ps.length ≤ N.length)
    (q : QSsK T (cxP pn P w K mg base N qual (defScope st) f cdv cc A outer s H E) (lt ps.length) (defBody st) (L2.start N vs) (defBody st) body) (hsp : spD K T (funD N.length ps.length body) vs H Q E) :
    ∃ t, PSsK (cxP pn P w K mg base N qual (defScope st) f cdv cc A outer s H E) (defBody st) (L2.start N vs) (defBody st) t ∧ t { nx := fun _ H' => Q .non H', rt := Q } (L2.start N vs) H := by
  have q := q (cxP pn P w K mg base N qual (defScope st) f cdv cc A outer s H E).xe (fun c d _ H => E c d H) (takes_of rfl rfl rfl rfl) (passes_of rfl)
  refine ⟨_, q, ?_⟩
  obtain ⟨ex, args, g, r, e, o⟩ := hsp
  unfold funD at e
  by_cases hl : args.length = ps.length
  · rw [if_pos hl] at e
    refine ⟨ex, _, start_good hl hpl g, ?_⟩
    cases w : body (args ++ List.replicate (N.length - ps.length) .emp) with
    | none => rw [w] at e; cases e
    | some rb =>
      rw [w] at e
      refine ⟨rb, rfl, ?_⟩
      cases rb with
      | bk _ => cases e
      | ct _ => cases e
      | nx e1 =>
        cases e
        intro σ' H' s
        obtain ⟨s', _, _⟩ := end_step hl hpl g s
        exact o .non H' s' rfl
      | rt v e1 =>
        cases e
        intro u σ' H' s rr
        obtain ⟨s', exb, gm⟩ := end_step hl hpl g s
        refine o u H' s' ?_
        cases v with
        | v d => exact Rep.mono (fun a o n e => ⟨fun z => n (exb a z), e⟩) rr
        | o c =>
          obtain ⟨a, ev, na, no, hn, ro, gx⟩ := rr
          refine ⟨a, ev, ?_, ro.mono rfl fun b o n e => ⟨fun z => n (z.imp (exb b) id), e⟩, gm a gx⟩
          rcases hn with ⟨j, c', hj, e1, _⟩ | hn
          · rcases app_get e1 with ⟨h1, _⟩ | ⟨_, h⟩
            · have := of_decide_eq_false hj; omega
            · cases h
          · exact hn
      | exc x e1 =>
        cases e
        intro cls dd σ' H' s rx
        obtain ⟨s', exb, _⟩ := end_step hl hpl g s
        refine o cls dd H' s' ⟨rx.1, rx.2.imp id ?_⟩
        rintro ⟨a, ws, e1, e2, l, r⟩
        exact ⟨a, ws, e1, e2, l, r.mono fun a o n e => ⟨fun z => n (exb a z), e⟩⟩
  · rw [if_neg hl] at e; cases e
theorem run_supB {x qual : Str} {st : Stmt} {f cc cda : Addr} {N ps : List Str} {k : Nat} {body : S} {oc dV kV doc pm ct : Value} {od an : Option Addr} {osl : Array (Option Value)} {cob : Obj} {v0 : Option Value} {pn : List (Addr × Obj)}
    (lf : K.lookup f = some ⟨oc, od, .func (PySem.W.ksFn x qual (defArgs st) (defBody st) (defScope st) dV kV doc pm an (.ref cda) ct cc), osl⟩) (hcd : PySem.W.codeIn K (.ref cda) qual = true) (lcc : K.lookup cc = some cob) (dcc : cob.data = .cell v0) (Sc : SScope N ps (defScope st))
    {A : Around} {outer : List Env} {s s2 : Shared} {H : Hp} {args : Args} {us : List Value} {vs : List V} {Q : VK} {E : XK} (hr : RG NG (k + 1) A) (e0 : Env0 P w K mg base A outer s H)
    (kp : ∀ b o, s.heap.get? b = some o → s2.heap.get? b = some o) (hz : s.heap.objs.size ≤ s2.heap.objs.size) (hg : s2.gens = s.gens) (hos : s2.os = s.os)
    (hb2 : ∀ {Q' : List (Str × Value) → Shared → Prop} {E' : Value → Shared → Prop}, Q' (ps.zip us) s2 → wpAny (model P w) A.in1 (bindArgs (PySem.W.ksFn x qual (defArgs st) (defBody st) (defScope st) dV kV doc pm an (.ref cda) ct cc) args) Q' E' s)
    (r : Vals vs us) (hsp : spD K T (funD N.length ps.length body) vs H Q E)
    (hpn : ∀ p ∈ pn, s2.heap.get? p.1 = some p.2 ∧ H p.1 = none ∧ p.1 ∉ frs outer ∧ ∀ v, p.2.data ≠ .cell v)
    (hb : RG NG k (A.deeper (PySem.W.ksEnv qual (defScope st) s2.heap.objs.size f (.ref cda) cc)) → QSsK T (cxP pn P w K mg base N qual (defScope st) f (.ref cda) cc A outer s2 H E) (lt ps.length) (defBody st) (L2.start N vs) (defBody st) body) :
    codeAny (model P w) A (.call (.ref f) args) (CR (L2.CX P w) outer P w H s Q E) s := by
  have hpl : ps.length ≤ N.length := by have := congrArg List.length Sc.pre; rw [List.length_take] at this; omega
  have hl : vs.length = ps.length := fun_len hsp
  have e2 : Env0 P w K mg base A outer s2 H := env0_kept e0 kp hz hg
  have KX : K.In s.heap := e0.mod.kin.keeps fun b o e => (e0.bs b o e).1
  have lim2 : s2.heap.NoLimit := e0.mod.nolimit.keeps fun b o e => (e2.bs b o e).1
  have un : Un (frs outer) [] H H s.heap s2.heap := Un.kept kp
  refine codeAny_call_function (fd := PySem.W.ksFn x qual (defArgs st) (defBody st) (defScope st) dV kV doc pm an (.ref cda) ct cc) (body := defBody st) hr.r.depth (KX _ _ lf) rfl Sc.co Sc.gen rfl (PySem.W.codeRec_of KX hcd) (hb2 ?_)
  refine wpAny_newFunctionEnv Sc.nocell (fun y hy => Sc.par _ (List.of_mem_zip hy).1) (fun h₁ hns hsb => ⟨lim2.fresh _ hsb, ks_codeAny_funcAt ?_⟩) Sc.kind
  have hk₁ : ∀ b o, s2.heap.get? b = some o → h₁.get? b = some o := fun b o e => hsb.extBut b o (Nat.ne_of_lt (Heap.lt_size e)) (Heap.get?_push_of_some _ e)
  obtain ⟨t, ht, hq⟩ := sp_bodyK hpl (hb (hr.deeper _)) hsp
  have I0 : Inv (cxS P w K mg base N qual (defScope st) f (.ref cda) cc A outer s2 H E) [] (L2.start N vs) H { s2 with heap := h₁, toks := s2.toks + (ps.zip us).length } := inv_startS Sc hr.r.hd e2 hl r lcc dcc hns hk₁
  have I1 : Inv (cxS P w K mg base N qual (defScope st) f (.ref cda) cc A outer s2 H E) pn (L2.start N vs) H { s2 with heap := h₁, toks := s2.toks + (ps.zip us).length } := I0.pins_of fun p hp => by
    obtain ⟨p1, p2, p3, p4⟩ := hpn p hp
    exact ⟨hk₁ _ _ p1, p2, Nat.ne_of_lt (Heap.lt_size p1), p3, p4⟩
  have I : Inv (cxP pn P w K mg base N qual (defScope st) f (.ref cda) cc A outer s2 H E) [] (L2.start N vs) H { s2 with heap := h₁, toks := s2.toks + (ps.zip us).length } := I1.toTry _
  refine ks_wpAt_mono (ht.run [] _ H _ I hq) (fun fl s' hs => ?_) fun e s' hs => ?_
  · have fin : ∀ {σ' : L2.St} {H' : Hp} {v : V} {u : Value}, Inv (cxP pn P w K mg base N qual (defScope st) f (.ref cda) cc A outer s2 H E) [] σ' H' s' → RelV v u → Q v H' → CE outer P w H s Q u s' :=
      fun {σ' H' v u} J rv q => ⟨v, H', J.os.trans hos, J.bare, un.trans J.base, J.hok, rv, q⟩
    cases fl with
    | ret u =>
      obtain ⟨v, σ', H', J, rv, q⟩ := hs
      exact fin J rv q
    | next =>
      obtain ⟨σ', H', J, q⟩ := hs
      exact fin (v := V.non) (u := Value.none) J rfl q
    | brk =>
      obtain ⟨_, _, _, q⟩ := hs
      exact False.elim q
    | cont =>
      obtain ⟨_, _, _, q⟩ := hs
      exact False.elim q
  · exact wpAny_mono hs (fun _ s'' z => StX.cxUp (P := P) (w := w) outer s H s2 H E e s'' un kp hos z) fun e' s'' z => StX.cxUp (P := P) (w := w) outer s H s2 H E e' s'' un kp hos z
/-- a def that closes over __class__ (the class at D), with defaults -/
structure FxK (P : Program) (K : PySem.W.Frag) (x qual : Str) (st : Stmt) (f D : Addr) (dvs : List V) : Prop where
  ex : ∃ (oc : Value) (od : Option Addr) (T : Addr) (kV doc pm : Value) (an : Option Addr) (cda cc : Addr) (ct : Value) (osl : Array (Option Value)) (ccl cl : Value) (cdd cld : Option Addr) (ccs csl : Array (Option Value)) (vs : Array Value) (file : Str) (tf : Tok) (cdD : ClassData) (oT : Obj) (its : Array Value) (n : Nat),
    K.lookup f = some ⟨oc, od, .func (PySem.W.ksFn x qual (defArgs st) (defBody st) (defScope st) (.ref T) kV doc pm an (.ref cda) ct cc), osl⟩ ∧ PySem.W.codeIn K (.ref cda) qual = true ∧ K.lookup cda = some ⟨ccl, cdd, .fields vs, ccs⟩ ∧ vs[2]? = some (.str file tf) ∧ SupP P file ∧
      K.lookup cc = some ⟨cl, cld, .cell (some (.ref D)), csl⟩ ∧ PySem.W.clsIn K D = some cdD ∧ K.lookup T = some oT ∧ oT.data = .seq its n ∧ Vals dvs its.toList
  kp : PySem.W.keepIn K (.ref f) = true
  st : PySem.W.nsIn K cStatics "thirdparty.any" = some none
/-- .. that takes **more, called so that nothing is left for it -/
theorem FxK.q {x qual : Str} {st : Stmt} {f D : Addr} {N ps : List Str} {k n m iM : Nat} {body : S} {N0 xm : Str} {dvs : List V} {ks : List Str} {fl : List PSrc} {g : List Value → List Value → List Value → List Value} (F : FxK P K x qual st f D dvs) (Sc : SScope N ps (defScope st)) (hmg : mg "super" = none)
    (h0 : ((defArgs st).posonlyargs ++ (defArgs st).args).head?.map (·.arg) = some N0) (hN0 : N[0]? = some N0) (hl0 : (defScope st).names.lookup N0 = some .local) (hxm : N[iM]? = some xm) (hlm : (defScope st).names.lookup xm = some .local) (sc : scaP fl = true) (hfl : ps.length = fl.length + 1)
    (hmM : ∀ (v0 am : V) (rest : List V), rest.length = m → (L2.start N (v0 :: fl.map (srcV rest am)))[iM]? = some (some am))
    (hrel : ∀ (us its ws : List Value) (vs zs : List V) (am : V) (u : Value), us.length = n → its.length = dvs.length → ws.length = ks.length → Vals vs us → Vals dvs its → Vals zs ws → RelV am u → ∃ v0 rest, vs ++ zs = v0 :: rest ∧ Vals (v0 :: fl.map (srcV rest am)) (g us its ws ++ [u]))
    (bd : ∀ (Td : Addr) (kV doc pm : Value) (an : Option Addr) (cdv ct : Value) (cc : Addr) (us its ws : List Value), us.length = n → its.length = dvs.length → ws.length = ks.length → ∃ kk, bindArgs (PySem.W.ksFn x qual (defArgs st) (defBody st) (defScope st) (.ref Td) kV doc pm an cdv ct cc) ⟨us, ks.zip ws⟩ = seqItems? (.ref Td) >>= kk ∧
      kk (some its.toArray) = (alloc { cls := .type "dict", data := .dict #[] } >>= fun d => pure (ps.zip (g us its ws ++ [.ref d]))))
    (hb : ∀ (cda cc : Addr) (A : Around) (outer : List Env) (s : Shared) (H : Hp) (E : XK) (vs : List V) (pn : List (Addr × Obj)), RG NG k (A.deeper (PySem.W.ksEnv qual (defScope st) s.heap.objs.size f (.ref cda) cc)) → SupF (cxP pn P w K mg base N qual (defScope st) f (.ref cda) cc A outer s H E) N0 D →
      MoreF (cxP pn P w K mg base N qual (defScope st) f (.ref cda) cc A outer s H E) (L2.start N vs) iM xm → QSsK T (cxP pn P w K mg base N qual (defScope st) f (.ref cda) cc A outer s H E) (lt ps.length) (defBody st) (L2.start N vs) (defBody st) body) :
    FnK NG P w K mg base (k + 1) f n ks (spD K T (funX N.length m fl body)) := by
  obtain ⟨oc, od, Td, kV, doc, pm, an, cda, cc, ct, osl, ccl, cl, cdd, cld, ccs, csl, vs0, file, tf, cdD, oT, its, nT, lf, hcd, lcd, hvs, hP, lcc, hD, lT, oTd, rT⟩ := F.ex
  intro A outer s H us ws vs zs Q E hr e0 r rz l1 l2 hsp
  obtain ⟨ar, ha1, ha2⟩ := Option.map_eq_some_iff.mp h0
  have KX : K.In s.heap := e0.mod.kin.keeps fun b o e => (e0.bs b o e).1
  have li : its.toList.length = dvs.length := rT.length.symm
  obtain ⟨v0, rest, ev, rv⟩ := hrel us its.toList ws vs zs (.ref s.heap.objs.size) (.ref s.heap.objs.size) l1 li l2 r rT rz rfl
  rw [ev] at hsp
  obtain ⟨hm, hsp⟩ := spX (am := .ref s.heap.objs.size) sc hsp
  rw [← hfl] at hsp
  have hbig := StX.env0_big e0
  have hfresh : H s.heap.objs.size = none := e0.hok.fresh (Nat.le_refl _)
  have hpu : (s.heap.push ({ cls := .type "dict", data := .dict #[] } : Obj)).get? s.heap.objs.size = some { cls := .type "dict", data := .dict #[] } := Heap.get?_push_size _ rfl
  refine run_supB (s2 := { s with heap := s.heap.push { cls := .type "dict", data := .dict #[] } }) (pn := [(s.heap.objs.size, { cls := .type "dict", data := .dict #[] })]) lf hcd lcc rfl Sc hr e0 (fun b o e => Heap.get?_push_of_some _ e) (by rw [Heap.size_push]; exact Nat.le_succ _) rfl rfl (fun {Q' E'} hq => ?_) rv hsp (fun p hp => ?_) fun hr' => ?_
  · obtain ⟨kk, b1, b2⟩ := bd Td kV doc pm an (.ref cda) ct cc us its.toList ws l1 li l2
    rw [b1]
    rw [show its.toList.toArray = its from by simp] at b2
    refine wpAny_bind (wpAny_seqItems (KX _ _ lT) oTd ?_)
    rw [b2]
    exact wpAny_bind (wpAny_alloc (wpAny_pure hq))
  · rw [List.mem_singleton.mp hp]
    refine ⟨hpu, hfresh, fun hb => ?_, fun v z => by cases z⟩
    obtain ⟨_, o, ho, _⟩ := e0.funs.mem hb
    exact absurd (Heap.lt_size ho) (Nat.lt_irrefl _)
  · refine hb cda cc A outer _ H E _ _ hr' ⟨⟨f, cda, cc, _, oc, ccl, cl, od, cdd, cld, osl, ccs, csl, ar, vs0, file, tf, cdD, rfl, rfl, lf, ha1, ha2, lcd, hvs, hP, rfl, lcc, hD⟩, Sc.sup, Sc.cls, hN0, hl0, hmg, F.st⟩ ⟨⟨s.heap.objs.size, _, _, hmM _ _ _ hm, List.mem_singleton.mpr rfl, rfl, rfl, Nat.ne_of_gt hbig⟩, hxm, hlm⟩
end
end Dt
end
section
set_option maxRecDepth 100000
set_option maxHeartbeats 4000000
/-! RY: C(e, .., k = v, ..). -/
namespace Dt
open PySem PySem.Spec L2
open PyProof.Rows hiding St
variable {NG : Prop}
theorem FnK.pos {P : Program} {w : World} {K : PySem.W.Frag} {mg : Str → Option Value} {base : Heap} {T : Tab} {k N m : Nat} {f : Addr} {fl : List PSrc} {body : S} (F : FnK NG P w K mg base k f (m + 1) [] (spD K T (funX N m fl body))) (sc : scaP fl = true) : FnG NG P w K mg base k f (spD K T (funX N m fl body)) := by
  intro A outer s H us vs Q E hr e0 r hsp
  have hl : us.length = m + 1 := by
    cases vs with
    | nil =>
      obtain ⟨ex, env, g, rr, e, _⟩ := hsp
      have : env = [] := by have := g.len; simpa using this
      subst this
      cases e
    | cons v vs =>
      rw [← r.length, List.length_cons, (spX (am := .non) sc hsp).1]
  exact F A outer s H us [] vs [] Q E hr e0 r .nil hl rfl (by rw [List.append_nil]; exact hsp)
section
variable {X : Cx} {W : WX} {k n : Nat} {f C : Addr} {sp : Sp} {x : Str} {p pos : Pos} {e : Expr} {es : List Expr} {kws : List Keyword} {ks : List Str} {t tk : TA}
end
section
variable (T : Tab) (X : Cx)
end
section
variable {T : Tab} {X : Cx} {k t n : Nat} {f : Addr} {g : M EV} {x nm : Str} {p pos kpos : Pos} {e : Expr} {es : List Expr} {kws : List Keyword} {ks : List Str} {fs gs : M (List AV)} {fe : M AV}
end
end Dt
end
section
set_option maxRecDepth 100000
set_option maxHeartbeats 4000000
/-! RZ: a, b = super().m(..), e; texts behind super().m(). -/
namespace Dt
open PySem PySem.Spec L2
open PyProof.Rows hiding St
variable {NG : Prop}
section
variable {X : Cx} {b0 : List Stmt} {i j : Nat} {x y : Str} {a b : Expr} {ta tb : TE} {px py pt pos : Pos} {kt k2 : Nat} {pt2 : Pos}
end
section
variable {T : Tab} {X : Cx} {np : Nat → Bool} {b0 : List Stmt} {x y : Str} {a b : Expr} {px py pt pos : Pos} {kt k2 : Nat} {pt2 : Pos} {f g : M EV}
end
end Dt
end
section
set_option maxRecDepth 100000
set_option maxHeartbeats 4000000
/-! RT2: keywords: one that is left over for **more; **more of one entry; super().m(.., k = v). -/
namespace Dt
open PySem PySem.Spec L2
open PyProof.Rows hiding St
variable {NG : Prop}
section
variable {M : Model} {A : Around} {E : Value → Shared → Prop} {h : Heap} {g : Array GenState} {dr : Drawn} {t : Nat} {os : OsState}
end
end Dt
end
section
set_option maxRecDepth 100000
set_option maxHeartbeats 4000000
/-! RT3: super().m(.., k = v), super().m(.., **more) with one entry. -/
namespace Dt
open PySem PySem.Spec L2
open PyProof.Rows hiding St
open ClX (base_none met_new callwith_cm pin_at unpin)
variable {NG : Prop}
section
variable {X : Cx} {pins : List (Addr × Obj)} {σ : L2.St} {H : Hp} {s : Shared} {W : WX} {k n : Nat} {f : Addr} {sp : Sp} {Q : VK} {us ws : List Value} {vs zs : List V} {ks : List Str}
end
structure SupOKK (NG : Prop) (T : Tab) (X : Cx) (D : Addr) (m : Str) (n : Nat) (ks : List Str) (mt : Nat → Option (M EV)) : Prop where
  of : ∀ t g, mt t = some g → ∃ f k, SupC X.K (T.cls t) D m f ∧ RG NG k X.A ∧ FnK NG X.prog X.w X.K X.mg X.base k f (n + 1) ks (spD X.K T g)
section
variable {T : Tab} {X : Cx} {b0 : List Stmt} {σ0 : L2.St} {e : Expr} {es : List Expr} {kws : List Keyword} {p0 p1 p2 apos kpos pos : Pos} {D : Addr} {N0 m xm : Str} {i j n : Nat} {ks : List Str} {pl : Sem Bool} {mt : Nat → Option (M EV)} {fs gs : M (List AV)}
/-- more, a dict of one entry; its value stands at the slot j, too -/
structure MoreF1 (X : Cx) (σ0 : L2.St) (i j : Nat) (x key : Str) : Prop where
  ex : ∃ (a : Addr) (oa : Obj) (ea : Nat) (hh : Int) (tt : Tok) (u : Value) (z : V), σ0[i]? = some (some (.ref a)) ∧ σ0[j]? = some (some z) ∧ RelV z u ∧ (a, oa) ∈ X.pn ∧ oa.cls = .type "dict" ∧ oa.data = .dict #[⟨hh, .str key tt, u⟩] ea ∧ a ≠ sysModules
  n : X.N[i]? = some x
  l : X.env.scope.names.lookup x = some .local
end
end Dt
end
section
set_option maxRecDepth 100000
set_option maxHeartbeats 4000000
/-! RT4: defs with defaults that say super(), without **more; with one keyword that is left over for **more. -/
namespace Dt
open PySem PySem.Spec L2
open PyProof.Rows hiding St
variable {NG : Prop}
section
variable {M : Model} {A : Around} {E : Value → Shared → Prop}
def nhash (M : Model) (name : Str) : Int := if name.cps.isEmpty = true then 0 else reduceHash (M.w.params.strHash name.cps)
theorem nsSetE {s : Shared} {a : Addr} {c : Value} {d : Option Addr} {ep : Nat} {sl : Array (Option Value)} {name : Str} {v : Value} {Q : Unit → Shared → Prop} (ho : s.heap.get? a = some ⟨c, d, .dict #[] ep, sl⟩)
    (hq : Q () { s with heap := s.heap.update a (Obj.putName name (nhash M name) (.str name s.toks) v), toks := s.toks + 1 }) : wpAny M A (nsSet a name v) Q E s := fun Γ p _ => by
  simp only [nsSet, strHash, Sem.wp_bind', Sem.wp_cmd_ask, Sem.wp_pure', Sem.wp_cmd_mkText]
  rw [Sem.wp_loadPart_of M Γ (fun e _ s' => E e s') p { s with toks := s.toks + 1 } _ ho]
  have hany : (#[] : Array DictEntry).any (·.refKey) = false := by simp
  simp only [aRefKeyMayBeTheName_eq, aRefKeyMayBeTheNameByArray, hany, Bool.and_false, Bool.false_eq_true, if_false, Sem.wp_cmd_updatePart]
  exact ⟨by rw [ho]; rfl, hq⟩
theorem put0_get {h : Heap} {a : Addr} {c : Value} {d : Option Addr} {ep : Nat} {sl : Array (Option Value)} {name : Str} {hh : Int} {k v : Value} (ho : h.get? a = some ⟨c, d, .dict #[] ep, sl⟩) : (h.update a (Obj.putName name hh k v)).get? a = some ⟨c, d, .dict #[⟨hh, k, v⟩] (ep + 1), sl⟩ :=
  (Heap.get?_update_self _ ho (by simp only [Obj.putName_eq, Obj.putNameByArray, Array.findIdx?_empty]; rfl)).trans (by simp only [Obj.putName_eq, Obj.putNameByArray, Array.findIdx?_empty]; rfl)
end
section
variable {P : Program} {w : World} {K : PySem.W.Frag} {mg : Str → Option Value} {base : Heap} {T : Tab}
theorem start_full {N : List Str} {vs : List V} (h : N.length = vs.length) : L2.start N vs = vs.map some := by
  unfold L2.start
  rw [h, Nat.sub_self, List.replicate_zero, List.append_nil]
theorem inv_more {qual : Str} {scope : Scope} {f cc : Addr} {cd : Value} {A : Around} {outer : List Env} {s s' : Shared} {H H' : Hp} {E : XK} {N : List Str} {vs : List V} {x : Str} {z : V} {pins : List (Addr × Obj)} (hl : N.length = vs.length) (hx : scope.names.lookup x = none)
    (I : Inv (cxS P w K mg base N qual scope f cd cc A outer s H E) pins (L2.start N vs) H' s') : Inv (cxS P w K mg base (N ++ [x]) qual scope f cd cc A outer s H E) pins (L2.start (N ++ [x]) (vs ++ [z])) H' s' := by
  have e1 := start_full hl
  have e2 : L2.start (N ++ [x]) (vs ++ [z]) = vs.map some ++ [some z] := by rw [start_full (by simp [hl])]; simp
  rw [e1] at I
  rw [e2]
  have ok := I.ok
  refine ⟨⟨ok.mod, ok.kind, ok.glob, ok.blt, ok.above, ok.inj, ok.has, ok.cab, ok.hd, ok.frames, ok.stk, ok.exf, ok.bs, ok.bsz, ok.noex, ok.exfs, ok.funs, ok.frf⟩, I.os, I.bare, I.base, ?_, I.cell, I.free, I.freeC, I.pin, I.hok, by show _ = (N ++ [x]).length; simp [hl]⟩
  obtain ⟨m, h1, h2⟩ := I.loc
  refine ⟨m, h1, fun i y v q1 q2 vis => ?_⟩
  have q1 : (N ++ [x])[i]? = some y := q1
  by_cases hi : i < N.length
  · rw [List.getElem?_append_left hi] at q1
    rw [List.getElem?_append_left (by simp; omega)] at q2
    exact h2 i y v q1 q2 vis
  · rw [List.getElem?_append_right (by omega)] at q1
    have : i - N.length = 0 := by
      have := (List.getElem?_eq_some_iff.mp q1).1
      simp at this
      omega
    rw [this] at q1
    cases q1
    rcases vis with z | z | z
    all_goals
      have z' : scope.names.lookup x = _ := z
      rw [hx] at z'
      cases z'
theorem run_supB1 {x xz qual : Str} {st : Stmt} {f cc cda : Addr} {ps : List Str} {k : Nat} {body : S} {oc dV kV doc pm ct : Value} {od an : Option Addr} {osl : Array (Option Value)} {cob : Obj} {v0 : Option Value} {pn : List (Addr × Obj)}
    (lf : K.lookup f = some ⟨oc, od, .func (PySem.W.ksFn x qual (defArgs st) (defBody st) (defScope st) dV kV doc pm an (.ref cda) ct cc), osl⟩) (hcd : PySem.W.codeIn K (.ref cda) qual = true) (lcc : K.lookup cc = some cob) (dcc : cob.data = .cell v0) (Sc : SScope ps ps (defScope st)) (hx : (defScope st).names.lookup xz = none)
    {A : Around} {outer : List Env} {s s2 : Shared} {H : Hp} {args : Args} {us : List Value} {vs : List V} {z : V} {Q : VK} {E : XK} (hr : RG NG (k + 1) A) (e0 : Env0 P w K mg base A outer s H)
    (kp : ∀ b o, s.heap.get? b = some o → s2.heap.get? b = some o) (hz : s.heap.objs.size ≤ s2.heap.objs.size) (hg : s2.gens = s.gens) (hos : s2.os = s.os)
    (hb2 : ∀ {Q' : List (Str × Value) → Shared → Prop} {E' : Value → Shared → Prop}, Q' (ps.zip us) s2 → wpAny (model P w) A.in1 (bindArgs (PySem.W.ksFn x qual (defArgs st) (defBody st) (defScope st) dV kV doc pm an (.ref cda) ct cc) args) Q' E' s)
    (hl : vs.length = ps.length) (r : Vals vs us) (hsp : spD K T (funD (ps ++ [xz]).length (ps ++ [xz]).length body) (vs ++ [z]) H Q E)
    (hpn : ∀ p ∈ pn, s2.heap.get? p.1 = some p.2 ∧ H p.1 = none ∧ p.1 ∉ frs outer ∧ ∀ v, p.2.data ≠ .cell v)
    (hb : RG NG k (A.deeper (PySem.W.ksEnv qual (defScope st) s2.heap.objs.size f (.ref cda) cc)) → QSsK T (cxP pn P w K mg base (ps ++ [xz]) qual (defScope st) f (.ref cda) cc A outer s2 H E) (lt (ps ++ [xz]).length) (defBody st) (L2.start (ps ++ [xz]) (vs ++ [z])) (defBody st) body) :
    codeAny (model P w) A (.call (.ref f) args) (CR (L2.CX P w) outer P w H s Q E) s := by
  have e2 : Env0 P w K mg base A outer s2 H := env0_kept e0 kp hz hg
  have KX : K.In s.heap := e0.mod.kin.keeps fun b o e => (e0.bs b o e).1
  have lim2 : s2.heap.NoLimit := e0.mod.nolimit.keeps fun b o e => (e2.bs b o e).1
  have un : Un (frs outer) [] H H s.heap s2.heap := Un.kept kp
  refine codeAny_call_function (fd := PySem.W.ksFn x qual (defArgs st) (defBody st) (defScope st) dV kV doc pm an (.ref cda) ct cc) (body := defBody st) hr.r.depth (KX _ _ lf) rfl Sc.co Sc.gen rfl (PySem.W.codeRec_of KX hcd) (hb2 ?_)
  refine wpAny_newFunctionEnv Sc.nocell (fun y hy => Sc.par _ (List.of_mem_zip hy).1) (fun h₁ hns hsb => ⟨lim2.fresh _ hsb, ks_codeAny_funcAt ?_⟩) Sc.kind
  have hk₁ : ∀ b o, s2.heap.get? b = some o → h₁.get? b = some o := fun b o e => hsb.extBut b o (Nat.ne_of_lt (Heap.lt_size e)) (Heap.get?_push_of_some _ e)
  obtain ⟨t, ht, hq⟩ := sp_bodyK (Nat.le_refl _) (hb (hr.deeper _)) hsp
  have I00 : Inv (cxS P w K mg base ps qual (defScope st) f (.ref cda) cc A outer s2 H E) [] (L2.start ps vs) H { s2 with heap := h₁, toks := s2.toks + (ps.zip us).length } := inv_startS Sc hr.r.hd e2 hl r lcc dcc hns hk₁
  have I0 := inv_more (x := xz) (z := z) hl.symm hx I00
  have I1 : Inv (cxS P w K mg base (ps ++ [xz]) qual (defScope st) f (.ref cda) cc A outer s2 H E) pn (L2.start (ps ++ [xz]) (vs ++ [z])) H { s2 with heap := h₁, toks := s2.toks + (ps.zip us).length } := I0.pins_of fun p hp => by
    obtain ⟨p1, p2, p3, p4⟩ := hpn p hp
    exact ⟨hk₁ _ _ p1, p2, Nat.ne_of_lt (Heap.lt_size p1), p3, p4⟩
  have I : Inv (cxP pn P w K mg base (ps ++ [xz]) qual (defScope st) f (.ref cda) cc A outer s2 H E) [] (L2.start (ps ++ [xz]) (vs ++ [z])) H { s2 with heap := h₁, toks := s2.toks + (ps.zip us).length } := I1.toTry _
  refine ks_wpAt_mono (ht.run [] _ H _ I hq) (fun fl s' hs => ?_) fun e s' hs => ?_
  · have fin : ∀ {σ' : L2.St} {H' : Hp} {v : V} {u : Value}, Inv (cxP pn P w K mg base (ps ++ [xz]) qual (defScope st) f (.ref cda) cc A outer s2 H E) [] σ' H' s' → RelV v u → Q v H' → CE outer P w H s Q u s' :=
      fun {σ' H' v u} J rv q => ⟨v, H', J.os.trans hos, J.bare, un.trans J.base, J.hok, rv, q⟩
    cases fl with
    | ret u =>
      obtain ⟨v, σ', H', J, rv, q⟩ := hs
      exact fin J rv q
    | next =>
      obtain ⟨σ', H', J, q⟩ := hs
      exact fin (v := V.non) (u := Value.none) J rfl q
    | brk =>
      obtain ⟨_, _, _, q⟩ := hs
      exact False.elim q
    | cont =>
      obtain ⟨_, _, _, q⟩ := hs
      exact False.elim q
  · exact wpAny_mono hs (fun _ s'' z => StX.cxUp (P := P) (w := w) outer s H s2 H E e s'' un kp hos z) fun e' s'' z => StX.cxUp (P := P) (w := w) outer s H s2 H E e' s'' un kp hos z
/-- .. that takes **more, called so that one keyword is left for it -/
theorem FxK.q1 {x xz qual key : Str} {st : Stmt} {f D : Addr} {ps : List Str} {k n m iM qi : Nat} {body : S} {N0 xm : Str} {dvs : List V} {ks : List Str} {fl : List PSrc} {g : List Value → List Value → List Value → List Value} {lv : List Value → List Value → Value} (F : FxK P K x qual st f D dvs) (Sc : SScope ps ps (defScope st)) (hmg : mg "super" = none)
    (h0 : ((defArgs st).posonlyargs ++ (defArgs st).args).head?.map (·.arg) = some N0) (hN0 : (ps ++ [xz])[0]? = some N0) (hl0 : (defScope st).names.lookup N0 = some .local) (hxm : (ps ++ [xz])[iM]? = some xm) (hlm : (defScope st).names.lookup xm = some .local) (hx : (defScope st).names.lookup xz = none) (sc : scaP fl = true) (hfl : ps.length = fl.length + 1)
    (hmM : ∀ (v0 am z : V) (rest : List V), rest.length = m → (L2.start (ps ++ [xz]) ((v0 :: fl.map (srcV rest am)) ++ [z]))[iM]? = some (some am))
    (hrel : ∀ (us its ws : List Value) (vs zs : List V) (am : V) (u : Value), us.length = n → its.length = dvs.length → ws.length = ks.length → Vals vs us → Vals dvs its → Vals zs ws → RelV am u → ∃ v0 rest, vs ++ zs = v0 :: rest ∧ Vals (v0 :: fl.map (srcV rest am)) (g us its ws ++ [u]) ∧ RelV (rest.getD qi .non) (lv us ws))
    (bd : ∀ (Td : Addr) (kV doc pm : Value) (an : Option Addr) (cdv ct : Value) (cc : Addr) (us its ws : List Value), us.length = n → its.length = dvs.length → ws.length = ks.length → ∃ kk, bindArgs (PySem.W.ksFn x qual (defArgs st) (defBody st) (defScope st) (.ref Td) kV doc pm an cdv ct cc) ⟨us, ks.zip ws⟩ = seqItems? (.ref Td) >>= kk ∧
      kk (some its.toArray) = (alloc { cls := .type "dict", data := .dict #[] } >>= fun d => forIn [(key, lv us ws)] PUnit.unit (fun p _ => do nsSet d p.1 p.2; pure (ForInStep.yield PUnit.unit)) >>= fun _ => pure (ps.zip (g us its ws ++ [.ref d]))))
    (hb : ∀ (cda cc : Addr) (A : Around) (outer : List Env) (s : Shared) (H : Hp) (E : XK) (vs : List V) (pn : List (Addr × Obj)), RG NG k (A.deeper (PySem.W.ksEnv qual (defScope st) s.heap.objs.size f (.ref cda) cc)) → SupF (cxP pn P w K mg base (ps ++ [xz]) qual (defScope st) f (.ref cda) cc A outer s H E) N0 D →
      MoreF1 (cxP pn P w K mg base (ps ++ [xz]) qual (defScope st) f (.ref cda) cc A outer s H E) (L2.start (ps ++ [xz]) vs) iM ps.length xm key → QSsK T (cxP pn P w K mg base (ps ++ [xz]) qual (defScope st) f (.ref cda) cc A outer s H E) (lt (ps ++ [xz]).length) (defBody st) (L2.start (ps ++ [xz]) vs) (defBody st) body) :
    FnK NG P w K mg base (k + 1) f n ks (spD K T (funX (ps ++ [xz]).length m (fl ++ [.arg qi]) body)) := by
  obtain ⟨oc, od, Td, kV, doc, pm, an, cda, cc, ct, osl, ccl, cl, cdd, cld, ccs, csl, vs0, file, tf, cdD, oT, its, nT, lf, hcd, lcd, hvs, hP, lcc, hD, lT, oTd, rT⟩ := F.ex
  intro A outer s H us ws vs zs Q E hr e0 r rz l1 l2 hsp
  obtain ⟨ar, ha1, ha2⟩ := Option.map_eq_some_iff.mp h0
  have KX : K.In s.heap := e0.mod.kin.keeps fun b o e => (e0.bs b o e).1
  have li : its.toList.length = dvs.length := rT.length.symm
  obtain ⟨v0, rest, ev, rv, rl⟩ := hrel us its.toList ws vs zs (.ref s.heap.objs.size) (.ref s.heap.objs.size) l1 li l2 r rT rz rfl
  rw [ev] at hsp
  have sc2 : ∀ {fl : List PSrc}, scaP fl = true → scaP (fl ++ [.arg qi]) = true := by
    intro fl
    induction fl with
    | nil => intro _; rfl
    | cons p fl ih =>
      intro h
      cases p with
      | dfl d => exact Bool.and_eq_true_iff.mpr ⟨(Bool.and_eq_true_iff.mp h).1, ih (Bool.and_eq_true_iff.mp h).2⟩
      | _ => exact ih h
  obtain ⟨hm, hsp⟩ := spX (am := .ref s.heap.objs.size) (sc2 sc) hsp
  have efl : (fl ++ [PSrc.arg qi]).length + 1 = (ps ++ [xz]).length := by simp [hfl]
  rw [efl, List.map_append] at hsp
  have hsp : spD K T (funD (ps ++ [xz]).length (ps ++ [xz]).length body) ((v0 :: fl.map (srcV rest (.ref s.heap.objs.size))) ++ [rest.getD qi .non]) H Q E := hsp
  have hbig := StX.env0_big e0
  have hfresh : H s.heap.objs.size = none := e0.hok.fresh (Nat.le_refl _)
  have hpu : (s.heap.push ({ cls := .type "dict", data := .dict #[] } : Obj)).get? s.heap.objs.size = some { cls := .type "dict", data := .dict #[] } := Heap.get?_push_size _ rfl
  have hput := put0_get (name := key) (hh := nhash (model P w) key) (k := .str key s.toks) (v := lv us ws) hpu
  refine run_supB1 (s2 := { s with heap := (s.heap.push { cls := .type "dict", data := .dict #[] }).update s.heap.objs.size (Obj.putName key (nhash (model P w) key) (.str key s.toks) (lv us ws)), toks := s.toks + 1 }) (z := rest.getD qi .non) (pn := [(s.heap.objs.size, ⟨.type "dict", none, .dict #[⟨nhash (model P w) key, .str key s.toks, lv us ws⟩] (0 + 1), #[]⟩)]) lf hcd lcc rfl Sc hx hr e0 (fun b o e => ?_) ?_ rfl rfl (fun {Q' E'} hq => ?_) (by simp [hfl]) rv hsp (fun p hp => ?_) fun hr' => ?_
  · show ((s.heap.push _).update _ _).get? b = some o
    rw [Heap.get?_update_ne _ _ _ _ (Nat.ne_of_lt (Heap.lt_size e))]
    exact Heap.get?_push_of_some _ e
  · show s.heap.objs.size ≤ ((s.heap.push _).update _ _).objs.size
    rw [Heap.size_update, Heap.size_push]; exact Nat.le_succ _
  · obtain ⟨kk, b1, b2⟩ := bd Td kV doc pm an (.ref cda) ct cc us its.toList ws l1 li l2
    rw [b1]
    rw [show its.toList.toArray = its from by simp] at b2
    refine wpAny_bind (wpAny_seqItems (KX _ _ lT) oTd ?_)
    rw [b2]
    refine wpAny_bind (wpAny_alloc (wpAny_bind ?_))
    rw [List.forIn_cons]
    refine wpAny_bind (wpAny_bind (nsSetE hpu (wpAny_pure ?_)))
    dsimp only
    rw [List.forIn_nil]
    exact wpAny_pure (wpAny_pure hq)
  · rw [List.mem_singleton.mp hp]
    refine ⟨hput, hfresh, fun hb => ?_, fun v z => by cases z⟩
    obtain ⟨_, o, ho, _⟩ := e0.funs.mem hb
    exact absurd (Heap.lt_size ho) (Nat.lt_irrefl _)
  · refine hb cda cc A outer _ H E _ _ hr' ⟨⟨f, cda, cc, _, oc, ccl, cl, od, cdd, cld, osl, ccs, csl, ar, vs0, file, tf, cdD, rfl, rfl, lf, ha1, ha2, lcd, hvs, hP, rfl, lcc, hD⟩, Sc.sup, Sc.cls, hN0, hl0, hmg, F.st⟩ ⟨⟨s.heap.objs.size, _, _, _, _, _, rest.getD qi .non, hmM _ _ _ _ (by simpa using hm), ?_, rl, List.mem_singleton.mpr rfl, rfl, rfl, Nat.ne_of_gt hbig⟩, hxm, hlm⟩
    rw [start_full (by simp [hfl])]
    simp [hfl]
end
end Dt
end
section
set_option maxRecDepth 100000
set_option maxHeartbeats 4000000
/-! RS2: return c + super().m(); methods and isinstance of objects of several classes. -/
namespace Dt
open PySem PySem.Spec L2
open PyProof.Rows hiding St
open ClX (base_none met_new callwith_cm pin_at unpin)
variable {NG : Prop}
section
variable {T : Tab} {X : Cx} {b0 : List Stmt} {p0 p1 apos pos : Pos} {D : Addr} {N0 m : Str} {pl : Sem Bool} {mt : Nat → Option (M EV)} {a b : Expr} {fa fb : M AV} {f : M EV} {ta tb : TE}
end
end Dt
end
section
set_option maxRecDepth 100000
set_option maxHeartbeats 4000000
/-! the readings of the defs: printed by gen2.py. -/
namespace Pg
open PySem PySem.Spec L2 Dt
open PyProof.Rows hiding St
/- _law_cell: 0:_law_script 1:_law_index -/
def bd__law_cell : S := (sSeq (sIf (toB (eOp ltD (oName 1) (toA (eB lenD (asCons (oName 0) asNil))))) (sRet (eOp ixD (oName 0) (oName 1))) sNil)
    (sRet (eC (.int 0))))
def sem__law_cell : M EV := funD 2 2 (bd__law_cell)
/- is_answers: 0:thing 1:many 2:sign -/
def lp_is_answers_0 : M EV := (eOp inX (oName 2) (toA (eC (.str [48, 49]))))
def bd_is_answers : S := (sRet (eAnd (eIsi isStr (oName 0)) (eAnd (eOp eqD (toA (eB lenD (asCons (oName 0) asNil))) (oName 1)) (eB allD (asCons (toA (eComp [2] (iOf (eName 0)) (gN 2) bYes lp_is_answers_0)) asNil)))))
def sem_is_answers : M EV := funD 3 2 (bd_is_answers)
/- are_rows: 0:rows 1:row -/
def lp_are_rows_0 : M EV := (eCall sem_is_answers (asCons (oName 1) (asCons (toA (eB lenD (asCons (toA (eOp ixD (oName 0) (toA (eC (.int 0))))) asNil))) asNil)))
def bd_are_rows : S := (sSeq (sIf (bOr (toB (eOp eqD (toA (eB lenD (asCons (oName 0) asNil))) (toA (eC (.int 0))))) (bOr (bNot (toB (eIsi isStr (toA (eOp ixD (oName 0) (toA (eC (.int 0)))))))) (bNot (toB (eChain leD leD (toA (eC (.int 1))) (toA (eB lenD (asCons (toA (eOp ixD (oName 0) (toA (eC (.int 0))))) asNil))) (toA (eC (.int 6)))))))) (sRet (eC (.bl false))) sNil)
    (sSeq (sIf (bNot (toB (eB allD (asCons (toA (eComp [1] (iOf (eName 0)) (gN 1) bYes lp_are_rows_0)) asNil)))) (sRet (eC (.bl false))) sNil)
    (sRet (eOp eqD (toA (eB lenSetD (asCons (oName 0) asNil))) (toA (eB lenD (asCons (oName 0) asNil)))))))
def sem_are_rows : M EV := funD 2 1 (bd_are_rows)
/- Board___init__: 0:self 1:rows -/
def bd_Board___init__ : S := (sSeq (sIf (bNot (toB (eCall sem_are_rows (asCons (oName 1) asNil)))) (sRaise 21) sNil)
    (sSetF 0 (one 0 0) (toA (eB tupD (asCons (toA (eB sortD (asCons (oName 1) asNil))) asNil)))))
def sem_Board___init__ : M EV := funV 2 (bd_Board___init__)
/- Board_read: 0:cls 1:text 2:rows -/
def bd_Board_read (C0 : Addr) : S := (sSeq (sIf (bNot (toB (eIsi isStr (oName 1)))) (sRaise 22) sNil)
    (sSeq (sSet 2 (eBM isStrD splitD (oName 1) (asCons (toA (eC (.str [32]))) asNil)))
    (sSeq (sIf (bNot (toB (eCall sem_are_rows (asCons (oName 2) asNil)))) (sRaise 22) sNil)
    (sRet (eMakeSL 0 C0 0 sem_Board___init__ (oName 2))))))
def sem_Board_read (C0 : Addr) : M EV := funD 3 2 (bd_Board_read C0)
/- need_board: 0:thing -/
def bd_need_board : S := (sIf (bNot (toB (eIsi is_Board (oName 0)))) (sRaise 23) sNil)
def sem_need_board : M EV := funD 1 1 (bd_need_board)
/- is_integer: 0:thing -/
def bd_is_integer : S := (sRet (eAnd (eIsi isInt (oName 0)) (eNot (eIsi isBool (oName 0)))))
def sem_is_integer : M EV := funD 1 1 (bd_is_integer)
/- need_voters: 0:thing -/
def bd_need_voters : S := (sIf (bOr (bNot (toB (eCall sem_is_integer (asCons (oName 0) asNil)))) (bNot (toB (eChain leD leD (toA (eC (.int 1))) (oName 0) (toA (eC (.int 30))))))) (sRaise 25) sNil)
def sem_need_voters : M EV := funD 1 1 (bd_need_voters)
/- Board_issues: 0:self -/
def bd_Board_issues : S := (sRet (eB lenD (asCons (toA (eOp ixD (toA (eFld (one 0 0) (oName 0))) (toA (eC (.int 0))))) asNil)))
def sem_Board_issues : M EV := funD 1 1 (bd_Board_issues)
/- is_quotas: 0:board 1:n 2:thing 3:quota -/
def lp_is_quotas_0 : M EV := (eAnd (eCall sem_is_integer (asCons (oName 3) asNil)) (eChain leD leD (toA (eC (.int 1))) (oName 3) (oName 1)))
def bd_is_quotas : S := (sSeq (sIf (bOr (bNot (toB (eIsi isTup (oName 2)))) (toB (eOp neD (toA (eB lenD (asCons (oName 2) asNil))) (toA (eProp (one 0 sem_Board_issues) (oName 0)))))) (sRet (eC (.bl false))) sNil)
    (sRet (eB allD (asCons (toA (eComp [3] (iOf (eName 2)) (gN 3) bYes lp_is_quotas_0)) asNil))))
def sem_is_quotas : M EV := funD 4 3 (bd_is_quotas)
/- need_quotas: 0:board 1:n 2:thing -/
def bd_need_quotas : S := (sIf (bNot (toB (eCall sem_is_quotas (asCons (oName 0) (asCons (oName 1) (asCons (oName 2) asNil)))))) (sRaise 26) sNil)
def sem_need_quotas : M EV := funD 3 3 (bd_need_quotas)
/- answered: 0:part 1:issue 2:sign -/
def lp_answered_0 : M Bool := (toB (eOp neD (oName 2) (toA (eC (.str [45])))))
def lp_answered_1 : M EV := (eName 1)
def bd_answered : S := (sRet (eComp [1, 2] (iEnum1 (asCons (toA (eName 0)) asNil)) (gT (gsCons (gN 1) (gsCons (gN 2) gsNil))) lp_answered_0 lp_answered_1))
def sem_answered : M EV := funD 3 1 (bd_answered)
/- room: 0:n 1:quota 2:answer -/
def bd_room : S := (sRet (eIf (toB (eOp eqD (oName 2) (toA (eC (.str [49]))))) (eOp subD (oName 0) (oName 1)) (eOp subD (oName 1) (toA (eC (.int 1))))))
def sem_room : M EV := funD 3 3 (bd_room)
/- rooms: 0:n 1:quotas 2:clash 3:issue -/
def lp_rooms_0 : M EV := (eCall sem_room (asCons (oName 0) (asCons (toA (eOp ixD (oName 1) (oName 3))) (asCons (toA (eOp ixD (oName 2) (oName 3))) asNil))))
def bd_rooms : S := (sRet (eComp [3] (iOf (eCall sem_answered (asCons (oName 2) asNil))) (gN 3) bYes lp_rooms_0))
def sem_rooms : M EV := funD 4 3 (bd_rooms)
/- first_strained: 0:known 1:n 2:quotas 3:clash -/
def lp_first_strained_0 : S := (sIf (toB (eOp geD (toA (eB sumD (asCons (toA (eCall sem_rooms (asCons (oName 1) (asCons (oName 2) (asCons (oName 3) asNil))))) asNil))) (oName 1))) (sRetV (lt 3) 3) sNil)
def bd_first_strained : S := (sSeq (sFor (iOf (eName 0)) (gN 3) lp_first_strained_0)
    (sRet (eC .non)))
def sem_first_strained : M EV := funD 4 3 (bd_first_strained)
/- Board_rows: 0:self -/
def bd_Board_rows : S := (sRet (eFld (one 0 0) (oName 0)))
def sem_Board_rows : M EV := funD 1 1 (bd_Board_rows)
/- held_parts: 0:board 1:held 2:row 3:found 4:sign 5:part 6:own -/
def lp_held_parts_0 : M EV := (eOp addD (oName 5) (oName 6))
def lp_held_parts_1 : S := (sSet 3 (eComp2 [5, 6] [6] (iOf (eName 3)) (gN 5) bYes (iOf (eTup (asCons (toA (eC (.str [45]))) (asCons (oName 4) asNil)))) (gN 6) bYes lp_held_parts_0))
def lp_held_parts_2 : S := (sSetD 1 (toA (eC (.bl true))) (oName 5))
def lp_held_parts_3 : S := (sSeq (sSet 3 (eLst (asCons (toA (eC (.str []))) asNil)))
    (sSeq (sFor (iOf (eName 2)) (gN 4) lp_held_parts_1)
    (sFor (iOf (eName 3)) (gN 5) lp_held_parts_2)))
def bd_held_parts : S := (sSeq (sSet 1 eDict0)
    (sSeq (sFor (iOf (eProp (one 0 sem_Board_rows) (oName 0))) (gN 2) lp_held_parts_3)
    (sRetV (lt 1) 1)))
def sem_held_parts : M EV := funD 7 1 (bd_held_parts)
/- parts: 0:many 1:found 2:issue 3:part 4:sign -/
def lp_parts_0 : M EV := (eOp addD (oName 3) (oName 4))
def lp_parts_1 : S := (sSet 1 (eComp2 [3, 4] [4] (iOf (eName 1)) (gN 3) bYes (iOf (eC (.str [45, 48, 49]))) (gN 4) bYes lp_parts_0))
def bd_parts : S := (sSeq (sSet 1 (eLst (asCons (toA (eC (.str []))) asNil)))
    (sSeq (sFor (iRange1 (asCons (oName 0) asNil)) (gN 2) lp_parts_1)
    (sRetV (lt 1) 1)))
def sem_parts : M EV := funD 5 1 (bd_parts)
/- without: 0:part 1:issue -/
def bd_without : S := (sRet (eOp addD (toA (eOp addD (toA (eSlice (oName 0) pNo (pYes (oName 1)))) (toA (eC (.str [45]))))) (toA (eSlice (oName 0) (pYes (toA (eOp addD (oName 1) (toA (eC (.int 1)))))) pNo))))
def sem_without : M EV := funD 2 2 (bd_without)
/- all_clashes: 0:board 1:held 2:found 3:part 4:size 5:issue -/
def lp_all_clashes_0 : M EV := (eOp inX (toA (eCall sem_without (asCons (oName 3) (asCons (oName 5) asNil)))) (oName 1))
def lp_all_clashes_1 : S := (sIf (bAnd (toB (eOp ninX (oName 3) (oName 1))) (toB (eB allD (asCons (toA (eComp [5] (iOf (eCall sem_answered (asCons (oName 3) asNil))) (gN 5) bYes lp_all_clashes_0)) asNil)))) (sExpr (mutM opAppend 2 (asCons (toA (eTup (asCons (toA (eB lenD (asCons (toA (eCall sem_answered (asCons (oName 3) asNil))) asNil))) (asCons (oName 3) asNil)))) asNil))) sNil)
def lp_all_clashes_2 : M EV := (eName 3)
def bd_all_clashes : S := (sSeq (parL [(1, (eCall sem_held_parts (asCons (oName 0) asNil))), (2, (eLst asNil))])
    (sSeq (sFor (iOf (eCall sem_parts (asCons (toA (eProp (one 0 sem_Board_issues) (oName 0))) asNil))) (gN 3) lp_all_clashes_1)
    (sRet (eComp [4, 3] (iOf (eB sortD (asCons (oName 2) asNil))) (gT (gsCons (gN 4) (gsCons (gN 3) gsNil))) bYes lp_all_clashes_2))))
def sem_all_clashes : M EV := funD 6 1 (bd_all_clashes)
/- holds: 0:board 1:n 2:quotas -/
def bd_holds : S := (sSeq (sExpr (eCall sem_need_board (asCons (oName 0) asNil)))
    (sSeq (sExpr (eCall sem_need_voters (asCons (oName 1) asNil)))
    (sSeq (sExpr (eCall sem_need_quotas (asCons (oName 0) (asCons (oName 1) (asCons (oName 2) asNil)))))
    (sRet (eOp (isD false) (toA (eCall sem_first_strained (asCons (toA (eCall sem_all_clashes (asCons (oName 0) asNil))) (asCons (oName 1) (asCons (oName 2) asNil))))) (toA (eC .non)))))))
def sem_holds : M EV := funD 3 3 (bd_holds)
end Pg
end
section
set_option maxRecDepth 100000
set_option maxHeartbeats 4000000
/-! the readings of the defs: printed by gen2.py. -/
namespace Pg
open PySem PySem.Spec L2 Dt
open PyProof.Rows hiding St
end Pg
end
section
set_option maxRecDepth 100000
set_option maxHeartbeats 4000000
/-! the readings of the defs: printed by gen2.py. -/
namespace Pg
open PySem PySem.Spec L2 Dt
open PyProof.Rows hiding St
end Pg
end
section
set_option maxRecDepth 100000
set_option maxHeartbeats 4000000
/-! the readings of the defs: printed by gen2.py. -/
namespace Pg
open PySem PySem.Spec L2 Dt
open PyProof.Rows hiding St
end Pg
end
section
set_option maxRecDepth 100000
set_option maxHeartbeats 4000000
/-! the readings of the defs: printed by gen2.py. -/
namespace Pg
open PySem PySem.Spec L2 Dt
open PyProof.Rows hiding St
end Pg
end
section
set_option maxRecDepth 100000
set_option maxHeartbeats 4000000
/-! the readings of the defs: printed by gen2.py. -/
namespace Pg
open PySem PySem.Spec L2 Dt
open PyProof.Rows hiding St
/- _law_pen: 0:_law_cell -/
def bd__law_pen : S := (sRet (eLst (asCons (toA (eB maxI (asCons (toA (eC (.int 0))) (asCons (toA (eOp subD (oName 0) (toA (eOp powD (toA (eC (.int 10))) (toA (eC (.int 18))))))) asNil)))) (asCons (toA (eOp modD (oName 0) (toA (eC (.int 1000000007))))) (asCons (toA (eC (.int 0))) asNil)))))
def sem__law_pen : M EV := funD 1 1 (bd__law_pen)
/- _law_draw_v2: 0:_law_pen_here 1:_law_many 2:_law_digit 3:_law_stir -/
def bd__law_draw_v2 : S := (sSeq (sIf (toB (eOp gtI (toA (eOp ixD (oName 0) (toA (eC (.int 0))))) (toA (eC (.int 0))))) (sSeq (sSet 2 (eOp modD (toA (eOp ixD (oName 0) (toA (eC (.int 0))))) (oName 1)))
    (sSeq (sSetL 0 (toA (eOp divD (toA (eOp ixD (oName 0) (toA (eC (.int 0))))) (oName 1))) (toA (eC (.int 0))))
    (sRetV (lt 2) 2))) sNil)
    (sSeq (sSetL 0 (toA (eOp addD (toA (eOp ixD (oName 0) (toA (eC (.int 2))))) (toA (eC (.int 1))))) (toA (eC (.int 2))))
    (sSeq (sSet 3 (eOp modD (toA (eOp mulX (toA (eOp addD (toA (eOp ixD (oName 0) (toA (eC (.int 1))))) (toA (eOp mulX (toA (eC (.int 17))) (toA (eOp ixD (oName 0) (toA (eC (.int 2))))))))) (toA (eOp addD (toA (eC (.int 69621))) (toA (eOp mulX (toA (eC (.int 2))) (toA (eOp ixD (oName 0) (toA (eC (.int 2))))))))))) (toA (eC (.int 2147483647)))))
    (sSeq (sSet 3 (eOp modD (toA (eOp addD (toA (eOp addD (toA (eOp mulX (oName 3) (oName 3))) (toA (eOp mulX (toA (eC (.int 40503))) (toA (eOp ixD (oName 0) (toA (eC (.int 2))))))))) (toA (eC (.int 5))))) (toA (eC (.int 2147483629)))))
    (sRet (eOp modD (toA (eOp divD (toA (eOp modD (toA (eOp mulX (oName 3) (toA (eC (.int 48271))))) (toA (eC (.int 2147483647))))) (toA (eC (.int 32))))) (oName 1)))))))
def sem__law_draw_v2 : M EV := funD 4 2 (bd__law_draw_v2)
/- _law_all_v2: 0:_law_many 1:_law_found 2:_law_issue 3:_law_longer 4:_law_row -/
def lp__law_all_v2_0 : S := (sSet 3 (eOp addD (oName 3) (toA (eLst (asCons (toA (eOp addD (oName 4) (toA (eC (.str [48]))))) (asCons (toA (eOp addD (oName 4) (toA (eC (.str [49]))))) asNil))))))
def lp__law_all_v2_1 : S := (sSeq (sSet 3 (eLst asNil))
    (sSeq (sFor (iOf (eName 1)) (gN 4) lp__law_all_v2_0)
    (sSet 1 (eName 3))))
def bd__law_all_v2 : S := (sSeq (sSet 1 (eLst (asCons (toA (eC (.str []))) asNil)))
    (sSeq (sFor (iRange1 (asCons (oName 0) asNil)) (gN 2) lp__law_all_v2_1)
    (sRetV (lt 1) 1)))
def sem__law_all_v2 : M EV := funD 5 1 (bd__law_all_v2)
/- _law_settling: 0:_law_pen_here 1:_law_many 2:_law_left 3:_law_free 4:_law_found 5:_law_answers 6:_law_issue 7:_law_row 8:_law_at 9:_law_lap -/
def lp__law_settling_0 : M EV := (mutM opPop 2 (asCons (toA (eCall sem__law_draw_v2 (asCons (oName 0) (asCons (toA (eB lenD (asCons (oName 2) asNil))) asNil)))) asNil))
def lp__law_settling_1 : M EV := (eOp ixD (toA (eC (.str [48, 49]))) (toA (eCall sem__law_draw_v2 (asCons (oName 0) (asCons (toA (eC (.int 2))) asNil)))))
def lp__law_settling_2 : S := (sSetL 7 (toA (eOp ixD (oName 5) (oName 8))) (oName 6))
def lp__law_settling_3 : S := (sSeq (sSet 7 (eComp [6] (iRange1 (asCons (oName 1) asNil)) (gN 6) bYes lp__law_settling_1))
    (sSeq (sFor (iEnum1 (asCons (toA (eName 3)) asNil)) (gT (gsCons (gN 8) (gsCons (gN 6) gsNil))) lp__law_settling_2)
    (sExpr (mutM opAppend 4 (asCons (toA (eBM isStrD joinD (toA (eC (.str []))) (asCons (oName 7) asNil))) asNil)))))
def bd__law_settling : S := (sSeq (sSet 2 (eB (rg1 true) (asCons (oName 1) asNil)))
    (sSeq (sSet 3 (eComp [9] (iRange1 (asCons (toA (eCall sem__law_draw_v2 (asCons (oName 0) (asCons (toA (eOp addD (oName 1) (toA (eC (.int 1))))) asNil)))) asNil)) (gN 9) bYes lp__law_settling_0))
    (sSeq (sSet 4 (eLst asNil))
    (sSeq (sFor (iOf (eCall sem__law_all_v2 (asCons (toA (eB lenD (asCons (oName 3) asNil))) asNil))) (gN 5) lp__law_settling_3)
    (sRetV (lt 2) 4)))))
def sem__law_settling : M EV := funD 10 2 (bd__law_settling)
/- _law_drawn: 0:_law_pen_here 1:_law_many 2:_law_every 3:_law_way 4:_law_share 5:_law_one 6:_law_other 7:_law_found 8:_law_row -/
def lp__law_drawn_0 : M Bool := (toB (eOp eqD (toA (eOp modD (toA (eBM isStrD countD (oName 8) (asCons (toA (eC (.str [49]))) asNil))) (toA (eC (.int 2))))) (toA (eC (.int 0)))))
def lp__law_drawn_1 : M EV := (eName 8)
def lp__law_drawn_2 : M Bool := (bOr (toB (eOp eqD (toA (eOp ixD (oName 8) (oName 5))) (toA (eC (.str [48]))))) (toB (eOp eqD (toA (eOp ixD (oName 8) (oName 6))) (toA (eC (.str [49]))))))
def lp__law_drawn_3 : M EV := (eName 8)
def lp__law_drawn_4 : M Bool := (toB (eOp ltD (toA (eCall sem__law_draw_v2 (asCons (oName 0) (asCons (toA (eC (.int 6))) asNil)))) (oName 4)))
def lp__law_drawn_5 : M EV := (eName 8)
def lp__law_drawn_6 : M Bool := (toB (eOp eqD (toA (eOp ixD (oName 8) (oName 5))) (toA (eC (.str [49])))))
def lp__law_drawn_7 : M EV := (eName 8)
def bd__law_drawn : S := (sSeq (parL [(2, (eCall sem__law_all_v2 (asCons (oName 1) asNil))), (3, (eCall sem__law_draw_v2 (asCons (oName 0) (asCons (toA (eC (.int 9))) asNil)))), (4, (eOp addD (toA (eC (.int 1))) (toA (eCall sem__law_draw_v2 (asCons (oName 0) (asCons (toA (eC (.int 5))) asNil))))))])
    (sSeq (parL [(5, (eCall sem__law_draw_v2 (asCons (oName 0) (asCons (oName 1) asNil)))), (6, (eCall sem__law_draw_v2 (asCons (oName 0) (asCons (oName 1) asNil))))])
    (sSeq (sIf (toB (eOp eqD (oName 3) (toA (eC (.int 0))))) (sRet (eLst (asCons (toA (eOp ixD (oName 2) (toA (eCall sem__law_draw_v2 (asCons (oName 0) (asCons (toA (eB lenD (asCons (oName 2) asNil))) asNil)))))) asNil))) sNil)
    (sSeq (sIf (toB (eOp eqD (oName 3) (toA (eC (.int 1))))) (sRetV (lt 2) 2) sNil)
    (sSeq (sIf (toB (eOp eqD (oName 3) (toA (eC (.int 2))))) (sRet (eComp [8] (iOf (eName 2)) (gN 8) lp__law_drawn_0 lp__law_drawn_1)) sNil)
    (sSeq (sIf (toB (eOp eqD (oName 3) (toA (eC (.int 3))))) (sRet (eComp [8] (iOf (eName 2)) (gN 8) lp__law_drawn_2 lp__law_drawn_3)) sNil)
    (sSeq (sIf (toB (eOp ltD (oName 3) (toA (eC (.int 6))))) (sRet (eB sortD (asCons (toA (eCall sem__law_settling (asCons (oName 0) (asCons (oName 1) asNil)))) asNil))) sNil)
    (sSeq (sSet 7 (eComp [8] (iOf (eName 2)) (gN 8) lp__law_drawn_4 lp__law_drawn_5))
    (sSeq (sIf (toB (eOp eqD (oName 3) (toA (eC (.int 6))))) (sSet 7 (eComp [8] (iOf (eName 7)) (gN 8) lp__law_drawn_6 lp__law_drawn_7)) sNil)
    (sRet (eIf (toB (eOp neD (oName 7) (toA (eLst asNil)))) (eName 7) (eLst (asCons (toA (eOp ixD (oName 2) (toA (eNeg (toA (eC (.int 1))))))) asNil)))))))))))))
def sem__law_drawn : M EV := funD 9 2 (bd__law_drawn)
/- _law_shuffled: 0:_law_pen_here 1:_law_things 2:_law_left 3:_law_found -/
def lp__law_shuffled_0 : S := (sExpr (mutM opAppend 3 (asCons (toA (mutM opPop 2 (asCons (toA (eCall sem__law_draw_v2 (asCons (oName 0) (asCons (toA (eB lenD (asCons (oName 2) asNil))) asNil)))) asNil))) asNil)))
def bd__law_shuffled : S := (sSeq (sPar 2 3 (eB listD (asCons (oName 1) asNil)) (eLst asNil))
    (sSeq (sWhile 5000 (toB (eOp neD (oName 2) (toA (eLst asNil)))) lp__law_shuffled_0)
    (sRetV (lt 2) 3)))
def sem__law_shuffled : M EV := funD 4 2 (bd__law_shuffled)
/- _law_all_parts: 0:_law_many 1:_law_found 2:_law_issue 3:_law_longer 4:_law_part -/
def lp__law_all_parts_0 : S := (sSet 3 (eOp addD (oName 3) (toA (eLst (asCons (toA (eOp addD (oName 4) (toA (eC (.str [45]))))) (asCons (toA (eOp addD (oName 4) (toA (eC (.str [48]))))) (asCons (toA (eOp addD (oName 4) (toA (eC (.str [49]))))) asNil)))))))
def lp__law_all_parts_1 : S := (sSeq (sSet 3 (eLst asNil))
    (sSeq (sFor (iOf (eName 1)) (gN 4) lp__law_all_parts_0)
    (sSet 1 (eName 3))))
def bd__law_all_parts : S := (sSeq (sSet 1 (eLst (asCons (toA (eC (.str []))) asNil)))
    (sSeq (sFor (iRange1 (asCons (oName 0) asNil)) (gN 2) lp__law_all_parts_1)
    (sRetV (lt 1) 1)))
def sem__law_all_parts : M EV := funD 5 1 (bd__law_all_parts)
/- _law_has_v2: 0:_law_row 1:_law_part 2:_law_own 3:_law_sign -/
def lp__law_has_v2_0 : M Bool := (bAnd (toB (eOp neD (oName 3) (toA (eC (.str [45]))))) (toB (eOp neD (oName 3) (oName 2))))
def lp__law_has_v2_1 : M EV := (eC (.int 1))
def bd__law_has_v2 : S := (sRet (eOp eqD (toA (eComp [2, 3] (iZip2 (asCons (toA (eName 0)) (asCons (toA (eName 1)) asNil))) (gT (gsCons (gN 2) (gsCons (gN 3) gsNil))) lp__law_has_v2_0 lp__law_has_v2_1)) (toA (eLst asNil))))
def sem__law_has_v2 : M EV := funD 4 2 (bd__law_has_v2)
/- _law_some_have: 0:_law_rows_here 1:_law_part 2:_law_row -/
def lp__law_some_have_0 : M Bool := (toB (eCall sem__law_has_v2 (asCons (oName 2) (asCons (oName 1) asNil))))
def lp__law_some_have_1 : M EV := (eC (.int 1))
def bd__law_some_have : S := (sRet (eOp neD (toA (eComp [2] (iOf (eName 0)) (gN 2) lp__law_some_have_0 lp__law_some_have_1)) (toA (eLst asNil))))
def sem__law_some_have : M EV := funD 3 2 (bd__law_some_have)
/- _law_does_clash: 0:_law_rows_here 1:_law_part 2:_law_issue -/
def lp__law_does_clash_0 : S := (sIf (bNot (toB (eCall sem__law_some_have (asCons (oName 0) (asCons (toA (eOp addD (toA (eOp addD (toA (eSlice (oName 1) pNo (pYes (oName 2)))) (toA (eC (.str [45]))))) (toA (eSlice (oName 1) (pYes (toA (eOp addD (oName 2) (toA (eC (.int 1)))))) pNo)))) asNil))))) (sRet (eC (.bl false))) sNil)
def bd__law_does_clash : S := (sSeq (sIf (toB (eCall sem__law_some_have (asCons (oName 0) (asCons (oName 1) asNil)))) (sRet (eC (.bl false))) sNil)
    (sSeq (sFor (iOf (eCall sem_answered (asCons (oName 1) asNil))) (gN 2) lp__law_does_clash_0)
    (sRet (eC (.bl true)))))
def sem__law_does_clash : M EV := funD 3 2 (bd__law_does_clash)
/- _law_clashes_v2: 0:_law_rows_here 1:_law_some 2:_law_part 3:_law_pair -/
def lp__law_clashes_v2_0 : M Bool := (toB (eCall sem__law_does_clash (asCons (oName 0) (asCons (oName 2) asNil))))
def lp__law_clashes_v2_1 : M EV := (eName 2)
def lp__law_clashes_v2_2 : M EV := (eTup (asCons (toA (eB lenD (asCons (toA (eCall sem_answered (asCons (oName 2) asNil))) asNil))) (asCons (oName 2) asNil)))
def lp__law_clashes_v2_3 : M EV := (eOp ixD (oName 3) (toA (eC (.int 1))))
def bd__law_clashes_v2 : S := (sSeq (sSet 1 (eComp [2] (iOf (eCall sem__law_all_parts (asCons (toA (eB lenD (asCons (toA (eOp ixD (oName 0) (toA (eC (.int 0))))) asNil))) asNil))) (gN 2) lp__law_clashes_v2_0 lp__law_clashes_v2_1))
    (sRet (eComp [3] (iOf (eB sortD (asCons (toA (eComp [2] (iOf (eName 1)) (gN 2) bYes lp__law_clashes_v2_2)) asNil))) (gN 3) bYes lp__law_clashes_v2_3)))
def sem__law_clashes_v2 : M EV := funD 4 1 (bd__law_clashes_v2)
end Pg
end
section
set_option maxRecDepth 100000
set_option maxHeartbeats 4000000
/-! the readings of the defs: printed by gen2.py. -/
namespace Pg
open PySem PySem.Spec L2 Dt
open PyProof.Rows hiding St
end Pg
end
section
set_option maxRecDepth 100000
set_option maxHeartbeats 4000000
/-! the readings of the defs: printed by gen2.py. -/
namespace Pg
open PySem PySem.Spec L2 Dt
open PyProof.Rows hiding St
/- clashes: 0:board 1:part -/
def sem_clashes : M (List D) := (genF 2 1 (sExpr (eCall sem_need_board (asCons (oName 0) asNil))) (iOf (eCall sem_all_clashes (asCons (oName 0) asNil))))
/- law_v9: 0:_law_script 1:_law_k 2:_law_pen_here 3:_law_many 4:_law_known 5:_law_board 6:_law_due 7:_law_lap -/
def lp_law_v9_0 : M EV := (eCall (gL sem_clashes) (asCons (oName 5) asNil))
def lp_law_v9_1 (C0 : Addr) : S := (sSeq (sSet 4 (eCall sem__law_drawn (asCons (oName 2) (asCons (oName 3) asNil))))
    (sSeq (parL [(5, (eCMeth C0 (sem_Board_read C0) (asCons (toA (eBM isStrD joinD (toA (eC (.str [32]))) (asCons (toA (eCall sem__law_shuffled (asCons (oName 2) (asCons (oName 4) asNil)))) asNil))) asNil))), (6, (eCall sem__law_clashes_v2 (asCons (oName 4) asNil)))])
    (sIf (toB (eOp neD (toA (eB reprY (asCons (toA (eComp [7] (iRange1 (asCons (toA (eC (.int 2))) asNil)) (gN 7) bYes lp_law_v9_0)) asNil))) (toA (eB reprY (asCons (toA (eLst (asCons (toA (eName 6)) (asCons (toA (eName 6)) asNil)))) asNil))))) (sRet (eC (.bl false))) sNil)))
def lp_law_v9_2 (C0 : Addr) : S := (sSeq (sSet 2 (eCall sem__law_pen (asCons (toA (eCall sem__law_cell (asCons (oName 0) (asCons (oName 1) asNil)))) asNil)))
    (sFor (iOf (eLst (asCons (toA (eOp addD (toA (eC (.int 1))) (toA (eCall sem__law_draw_v2 (asCons (oName 2) (asCons (toA (eC (.int 4))) asNil)))))) (asCons (toA (eOp addD (toA (eC (.int 5))) (toA (eCall sem__law_draw_v2 (asCons (oName 2) (asCons (toA (eC (.int 2))) asNil)))))) asNil)))) (gN 3) (lp_law_v9_1 C0)))
def bd_law_v9 (C0 : Addr) : S := (sSeq (sFor (iRange1 (asCons (toA (eB maxI (asCons (toA (eC (.int 1))) (asCons (toA (eB minI (asCons (toA (eB lenD (asCons (oName 0) asNil))) (asCons (toA (eC (.int 3))) asNil)))) asNil)))) asNil)) (gN 1) (lp_law_v9_2 C0))
    (sRet (eC (.bl true))))
def sem_law_v9 (C0 : Addr) : M EV := funD 8 1 (bd_law_v9 C0)
end Pg
end
section
set_option maxRecDepth 100000
set_option maxHeartbeats 4000000
/-! the law's defs: printed by gen2.py from the law's text. -/
namespace Lw
open PySem PySem.Spec L2 Dt Pg
open PyProof.Rows hiding St
def top (i : Nat) : Stmt := PySem.Challenge.pw_quotaboard_k20_clashes_by_listing.main.body.getD i (.Pass ⟨0, 0, 0, 0⟩)
abbrev st__law_pen : Stmt := top 23
abbrev st__law_cell_at : Stmt := top 22
abbrev st__law_draw : Stmt := top 24
abbrev st__law_all : Stmt := top 25
abbrev st__law_settling : Stmt := top 26
abbrev st__law_drawn : Stmt := top 27
abbrev st_is_answers : Stmt := top 9
abbrev st_are_rows : Stmt := top 10
abbrev st_Board___init__ : Stmt := inClass (top 11) 1
abbrev st_Board_read : Stmt := inClass (top 11) 4
abbrev st__law_shuffled : Stmt := top 28
abbrev st__law_all_parts : Stmt := top 33
abbrev st__law_has : Stmt := top 29
abbrev st__law_some_have : Stmt := top 30
abbrev st__law_issues : Stmt := top 31
abbrev st__law_does_clash : Stmt := top 32
abbrev st__law_clashes : Stmt := top 34
abbrev st_need_board : Stmt := top 13
abbrev st_Board_rows : Stmt := inClass (top 11) 2
abbrev st_held_parts : Stmt := top 18
abbrev st_parts : Stmt := top 17
abbrev st_Board_issues : Stmt := inClass (top 11) 3
abbrev st_answered : Stmt := top 16
abbrev st_without : Stmt := top 15
abbrev st_all_clashes : Stmt := top 19
abbrev st_clashes : Stmt := top 20
abbrev st_law : Stmt := top 35
/-- where all stands -/
structure Ad where
  (C_RowsError C_TextError C_BoardError C_Board f__law_pen f__law_cell_at f__law_draw f__law_all f__law_settling f__law_drawn f_is_answers f_are_rows f_Board___init__ f_Board_read f__law_shuffled f__law_all_parts f__law_has f__law_some_have f__law_issues f__law_does_clash f__law_clashes f_need_board f_Board_rows f_held_parts f_parts f_Board_issues f_answered f_without f_all_clashes f_clashes f_law p_Board_issues p_Board_rows p_Board_read : Addr)
def tab (a : Ad) : Tab := { tb := [], cls := fun t => match t with
  | 21 => a.C_RowsError
  | 22 => a.C_TextError
  | 23 => a.C_BoardError
  | _ => a.C_Board }
/-- what the top has written -/
structure Hd (K : PySem.W.Frag) (mg : Str → Option Value) (a : Ad) : Prop where
  z_all : mg "all" = none
  z_enumerate : mg "enumerate" = none
  z_isinstance : mg "isinstance" = none
  z_len : mg "len" = none
  z_list : mg "list" = none
  z_max : mg "max" = none
  z_min : mg "min" = none
  z_range : mg "range" = none
  z_repr : mg "repr" = none
  z_set : mg "set" = none
  z_sorted : mg "sorted" = none
  z_str : mg "str" = none
  z_tuple : mg "tuple" = none
  z_zip : mg "zip" = none
  g_RowsError : mg "RowsError" = some (.ref a.C_RowsError)
  g_TextError : mg "TextError" = some (.ref a.C_TextError)
  g_BoardError : mg "BoardError" = some (.ref a.C_BoardError)
  g_Board : mg "Board" = some (.ref a.C_Board)
  g__law_pen : mg "_law_pen" = some (.ref a.f__law_pen)
  F__law_pen : Fx K "_law_pen" "_law_pen" st__law_pen a.f__law_pen
  g__law_cell_at : mg "_law_cell_at" = some (.ref a.f__law_cell_at)
  F__law_cell_at : Fx K "_law_cell_at" "_law_cell_at" st__law_cell_at a.f__law_cell_at
  g__law_draw : mg "_law_draw" = some (.ref a.f__law_draw)
  F__law_draw : Fx K "_law_draw" "_law_draw" st__law_draw a.f__law_draw
  g__law_all : mg "_law_all" = some (.ref a.f__law_all)
  F__law_all : Fx K "_law_all" "_law_all" st__law_all a.f__law_all
  g__law_settling : mg "_law_settling" = some (.ref a.f__law_settling)
  F__law_settling : Fx K "_law_settling" "_law_settling" st__law_settling a.f__law_settling
  g__law_drawn : mg "_law_drawn" = some (.ref a.f__law_drawn)
  F__law_drawn : Fx K "_law_drawn" "_law_drawn" st__law_drawn a.f__law_drawn
  g_is_answers : mg "is_answers" = some (.ref a.f_is_answers)
  F_is_answers : Fx K "is_answers" "is_answers" st_is_answers a.f_is_answers
  g_are_rows : mg "are_rows" = some (.ref a.f_are_rows)
  F_are_rows : Fx K "are_rows" "are_rows" st_are_rows a.f_are_rows
  F_Board___init__ : Fx K "__init__" "Board.__init__" st_Board___init__ a.f_Board___init__
  F_Board_read : Fx K "read" "Board.read" st_Board_read a.f_Board_read
  g__law_shuffled : mg "_law_shuffled" = some (.ref a.f__law_shuffled)
  F__law_shuffled : Fx K "_law_shuffled" "_law_shuffled" st__law_shuffled a.f__law_shuffled
  g__law_all_parts : mg "_law_all_parts" = some (.ref a.f__law_all_parts)
  F__law_all_parts : Fx K "_law_all_parts" "_law_all_parts" st__law_all_parts a.f__law_all_parts
  g__law_has : mg "_law_has" = some (.ref a.f__law_has)
  F__law_has : Fx K "_law_has" "_law_has" st__law_has a.f__law_has
  g__law_some_have : mg "_law_some_have" = some (.ref a.f__law_some_have)
  F__law_some_have : Fx K "_law_some_have" "_law_some_have" st__law_some_have a.f__law_some_have
  g__law_issues : mg "_law_issues" = some (.ref a.f__law_issues)
  F__law_issues : Fx K "_law_issues" "_law_issues" st__law_issues a.f__law_issues
  g__law_does_clash : mg "_law_does_clash" = some (.ref a.f__law_does_clash)
  F__law_does_clash : Fx K "_law_does_clash" "_law_does_clash" st__law_does_clash a.f__law_does_clash
  g__law_clashes : mg "_law_clashes" = some (.ref a.f__law_clashes)
  F__law_clashes : Fx K "_law_clashes" "_law_clashes" st__law_clashes a.f__law_clashes
  g_need_board : mg "need_board" = some (.ref a.f_need_board)
  F_need_board : Fx K "need_board" "need_board" st_need_board a.f_need_board
  F_Board_rows : Fx K "rows" "Board.rows" st_Board_rows a.f_Board_rows
  g_held_parts : mg "held_parts" = some (.ref a.f_held_parts)
  F_held_parts : Fx K "held_parts" "held_parts" st_held_parts a.f_held_parts
  g_parts : mg "parts" = some (.ref a.f_parts)
  F_parts : Fx K "parts" "parts" st_parts a.f_parts
  F_Board_issues : Fx K "issues" "Board.issues" st_Board_issues a.f_Board_issues
  g_answered : mg "answered" = some (.ref a.f_answered)
  F_answered : Fx K "answered" "answered" st_answered a.f_answered
  g_without : mg "without" = some (.ref a.f_without)
  F_without : Fx K "without" "without" st_without a.f_without
  g_all_clashes : mg "all_clashes" = some (.ref a.f_all_clashes)
  F_all_clashes : Fx K "all_clashes" "all_clashes" st_all_clashes a.f_all_clashes
  g_clashes : mg "clashes" = some (.ref a.f_clashes)
  F_clashes : Fx K "clashes" "clashes" st_clashes a.f_clashes
  g_law : mg "law" = some (.ref a.f_law)
  F_law : Fx K "law" "law" st_law a.f_law
  cl_Board : Cls K a.C_Board
  ns_Board : PySem.W.noSeq K a.C_Board = true
  cm_Board_read : ClX.CMet K a.C_Board (.type "type") "read" a.p_Board_read a.f_Board_read
  cr_Board : ClX.CRead K a.C_Board (.type "type")
  cv_MOST : ∃ u, ClX.CVal K a.C_Board (.type "type") "MOST" (.int 6) u
  n_Board_known : NoAttr K a.C_Board "known"
  is_Board : IsOK K (tab a) is_Board (.ref a.C_Board)
  mk_Board : Mk K a.C_Board a.f_Board___init__
  p_Board_issues : PropOf K a.C_Board "issues" a.p_Board_issues a.f_Board_issues
  p_Board_rows : PropOf K a.C_Board "rows" a.p_Board_rows a.f_Board_rows
  x_RowsError : PySem.W.excIn K a.C_RowsError [.type "ValueError", .type "Exception", .type "BaseException", .type "object"] "ValueError.__new__" = true
  k_RowsError : PySem.W.keepIn K (.ref a.C_RowsError) = true
  b_RowsError : PySem.W.subIn K (.ref a.C_RowsError) (.type "BaseException") = some true
  t_RowsError : PySem.W.typeIn K (.ref a.C_RowsError) = some (.type "type")
  x_TextError : PySem.W.excIn K a.C_TextError [.type "ValueError", .type "Exception", .type "BaseException", .type "object"] "ValueError.__new__" = true
  k_TextError : PySem.W.keepIn K (.ref a.C_TextError) = true
  b_TextError : PySem.W.subIn K (.ref a.C_TextError) (.type "BaseException") = some true
  t_TextError : PySem.W.typeIn K (.ref a.C_TextError) = some (.type "type")
  x_BoardError : PySem.W.excIn K a.C_BoardError [.type "ValueError", .type "Exception", .type "BaseException", .type "object"] "ValueError.__new__" = true
  k_BoardError : PySem.W.keepIn K (.ref a.C_BoardError) = true
  b_BoardError : PySem.W.subIn K (.ref a.C_BoardError) (.type "BaseException") = some true
  t_BoardError : PySem.W.typeIn K (.ref a.C_BoardError) = some (.type "type")
section
variable {P : Program} {w : World} {K : PySem.W.Frag} {mg : Str → Option Value} {base : Heap} {a : Ad}
theorem sc__law_pen : FnScope ["_law_cell"] ["_law_cell"] (defScope st__law_pen) := ⟨rfl, rfl, rfl, by decide +kernel, rfl, by decide +kernel, by decide +kernel⟩
theorem ok__law_pen {NG : Prop} (h : Hd K mg a) : FnG NG P w K mg base 1 a.f__law_pen (spD K (tab a) (sem__law_pen)) := by
  obtain ⟨fd, F⟩ := h.F__law_pen.ex
  exact Dt.Fun.q F sc__law_pen (F.binds (ps := ["_law_cell"]) fun _ _ _ _ _ _ us hl => match us, hl with | [_], _ => rfl) fun cdv A outer s H E hr =>
    (qss_one (qs_ret (qe_lst (qas_cons (qo_of (qe_callB (fun _ _ => cr_max2 rfl) (by rfl) h.z_max PyProof.Rows.boot_max (qas_cons (qo_of qe_int) (qas_cons (qo_of (qe_op (fun _ _ => op_subD) (qo_name 0) (qo_of (qe_op (fun _ _ => op_powD) (qo_of qe_int) (qo_of qe_int))))) qas_nil)))) (qas_cons (qo_of (qe_op (fun _ _ => op_modD) (qo_name 0) (qo_of qe_int))) (qas_cons (qo_of qe_int) qas_nil))))))
theorem sc__law_cell_at : FnScope ["_law_script", "_law_k"] ["_law_script", "_law_k"] (defScope st__law_cell_at) := ⟨rfl, rfl, rfl, by decide +kernel, rfl, by decide +kernel, by decide +kernel⟩
theorem ok__law_cell_at {NG : Prop} (h : Hd K mg a) : FnG NG P w K mg base 1 a.f__law_cell_at (spD K (tab a) (sem__law_cell)) := by
  obtain ⟨fd, F⟩ := h.F__law_cell_at.ex
  exact Dt.Fun.q F sc__law_cell_at (F.binds (ps := ["_law_script", "_law_k"]) fun _ _ _ _ _ _ us hl => match us, hl with | [_, _], _ => rfl) fun cdv A outer s H E hr =>
    (qss_cons (qs_if (qt_cmp (fun _ _ => op_ltQ) (qo_name 1) (qo_of (qe_callB (fun _ _ => cr_len) (by rfl) h.z_len PySem.boot_len (qas_cons (qo_name 0) qas_nil)))) (qss_one (qs_ret (qe_ix (qo_name 0) (qo_name 1)))) qss_nil)
    (qss_one (qs_ret qe_int)))
theorem sc__law_draw : FnScope ["_law_pen_here", "_law_many", "_law_digit", "_law_stir"] ["_law_pen_here", "_law_many"] (defScope st__law_draw) := ⟨rfl, rfl, rfl, by decide +kernel, rfl, by decide +kernel, by decide +kernel⟩
theorem ok__law_draw {NG : Prop} (h : Hd K mg a) : FnG NG P w K mg base 1 a.f__law_draw (spD K (tab a) (sem__law_draw_v2)) := by
  obtain ⟨fd, F⟩ := h.F__law_draw.ex
  exact Dt.Fun.q F sc__law_draw (F.binds (ps := ["_law_pen_here", "_law_many"]) fun _ _ _ _ _ _ us hl => match us, hl with | [_, _], _ => rfl) fun cdv A outer s H E hr =>
    (qss_cons (qs_if (qt_cmp (fun _ _ => op_gtI) (qo_of (qe_ix (qo_name 0) (qo_of qe_int))) (qo_of qe_int)) (qss_cons (qs_set 2 sc__law_draw.nd (qe_op (fun _ _ => op_modD) (qo_of (qe_ix (qo_name 0) (qo_of qe_int))) (qo_name 1)))
    (qss_cons (qs_setL 0 (qo_of (qe_op (fun _ _ => op_divD) (qo_of (qe_ix (qo_name 0) (qo_of qe_int))) (qo_name 1))) (qo_of qe_int))
    (qss_one (qs_retV 2)))) qss_nil)
    (qss_cons (qs_setL 0 (qo_of (qe_op (fun _ _ => op_addD) (qo_of (qe_ix (qo_name 0) (qo_of qe_int))) (qo_of qe_int))) (qo_of qe_int))
    (qss_cons (qs_set 3 sc__law_draw.nd (qe_op (fun _ _ => op_modD) (qo_of (qe_op (fun _ _ => op_mulX) (qo_of (qe_op (fun _ _ => op_addD) (qo_of (qe_ix (qo_name 0) (qo_of qe_int))) (qo_of (qe_op (fun _ _ => op_mulX) (qo_of qe_int) (qo_of (qe_ix (qo_name 0) (qo_of qe_int))))))) (qo_of (qe_op (fun _ _ => op_addD) (qo_of qe_int) (qo_of (qe_op (fun _ _ => op_mulX) (qo_of qe_int) (qo_of (qe_ix (qo_name 0) (qo_of qe_int))))))))) (qo_of qe_int)))
    (qss_cons (qs_set 3 sc__law_draw.nd (qe_op (fun _ _ => op_modD) (qo_of (qe_op (fun _ _ => op_addD) (qo_of (qe_op (fun _ _ => op_addD) (qo_of (qe_op (fun _ _ => op_mulX) (qo_name 3) (qo_name 3))) (qo_of (qe_op (fun _ _ => op_mulX) (qo_of qe_int) (qo_of (qe_ix (qo_name 0) (qo_of qe_int))))))) (qo_of qe_int))) (qo_of qe_int)))
    (qss_one (qs_ret (qe_op (fun _ _ => op_modD) (qo_of (qe_op (fun _ _ => op_divD) (qo_of (qe_op (fun _ _ => op_modD) (qo_of (qe_op (fun _ _ => op_mulX) (qo_name 3) (qo_of qe_int))) (qo_of qe_int))) (qo_of qe_int))) (qo_name 1))))))))
theorem sc__law_all : FnScope ["_law_many", "_law_found", "_law_issue", "_law_longer", "_law_row"] ["_law_many"] (defScope st__law_all) := ⟨rfl, rfl, rfl, by decide +kernel, rfl, by decide +kernel, by decide +kernel⟩
theorem ok__law_all {NG : Prop} (h : Hd K mg a) : FnG NG P w K mg base 1 a.f__law_all (spD K (tab a) (sem__law_all_v2)) := by
  obtain ⟨fd, F⟩ := h.F__law_all.ex
  exact Dt.Fun.q F sc__law_all (F.binds (ps := ["_law_many"]) fun _ _ _ _ _ _ us hl => match us, hl with | [_], _ => rfl) fun cdv A outer s H E hr =>
    (qss_cons (qs_set 1 sc__law_all.nd (qe_lst (qas_cons (qo_of (qe_str [])) qas_nil)))
    (qss_cons (qs_for rfl (qi_range1 (by rfl) h.z_range (qas_cons (qo_name 0) qas_nil)) (qg_name 2 sc__law_all.nd) (qss_cons (qs_set 3 sc__law_all.nd (qe_lst qas_nil))
    (qss_cons (qs_for rfl (qi_of (qe_name 1)) (qg_name 4 sc__law_all.nd) (qss_one (qs_set 3 sc__law_all.nd (qe_op (fun _ _ => op_addD) (qo_name 3) (qo_of (qe_lst (qas_cons (qo_of (qe_op (fun _ _ => op_addD) (qo_name 4) (qo_of (qe_str [48])))) (qas_cons (qo_of (qe_op (fun _ _ => op_addD) (qo_name 4) (qo_of (qe_str [49])))) qas_nil))))))))
    (qss_one (qs_set 1 sc__law_all.nd (qe_name 3))))))
    (qss_one (qs_retV 1))))
theorem sc__law_settling : FnScope ["_law_pen_here", "_law_many", "_law_left", "_law_free", "_law_found", "_law_answers", "_law_issue", "_law_row", "_law_at", "_law_lap"] ["_law_pen_here", "_law_many"] (defScope st__law_settling) := ⟨rfl, rfl, rfl, by decide +kernel, rfl, by decide +kernel, by decide +kernel⟩
theorem ok__law_settling {NG : Prop} (h : Hd K mg a) : FnG NG P w K mg base 2 a.f__law_settling (spD K (tab a) (sem__law_settling)) := by
  obtain ⟨fd, F⟩ := h.F__law_settling.ex
  exact Dt.Fun.q F sc__law_settling (F.binds (ps := ["_law_pen_here", "_law_many"]) fun _ _ _ _ _ _ us hl => match us, hl with | [_, _], _ => rfl) fun cdv A outer s H E hr =>
    (qss_cons (qs_set 2 sc__law_settling.nd (qe_listRg1 rfl (by rfl) h.z_list (by rfl) h.z_range (qo_name 1)))
    (qss_cons (qs_setComp (own := [("_law_lap", 9)]) 3 rfl sc__law_settling.nd (qi_range1 (by rfl) h.z_range (qas_cons (qo_of (qe_call (ok__law_draw h) (hr.mono (by decide : 1 ≤ 1)) (by rfl) h.g__law_draw h.F__law_draw.kp (qas_cons (qo_name 0) (qas_cons (qo_of (qe_op (fun _ _ => op_addD) (qo_name 1) (qo_of qe_int))) qas_nil)))) qas_nil)) (blkOk_by (N := ["_law_pen_here", "_law_many", "_law_left", "_law_free", "_law_found", "_law_answers", "_law_issue", "_law_row", "_law_at", "_law_lap"]) (sc := defScope st__law_settling) (by decide +kernel)) (fun _ _ _ _ _ => (qg_name 9 sc__law_settling.nd)) (fun _ _ _ _ _ => qts_nil) (fun _ _ _ _ _ => (qe_mut 2 PySem.F.slot_list_pop PySem.F.type_list_pop (fun _ _ => mt_popB) muts_pop (qas_cons (qo_of (qe_call (ok__law_draw h) (hr.mono (by decide : 1 ≤ 1)) (by rfl) h.g__law_draw h.F__law_draw.kp (qas_cons (qo_name 0) (qas_cons (qo_of (qe_callB (fun _ _ => cr_len) (by rfl) h.z_len PySem.boot_len (qas_cons (qo_name 2) qas_nil))) qas_nil)))) qas_nil))))
    (qss_cons (qs_set 4 sc__law_settling.nd (qe_lst qas_nil))
    (qss_cons (qs_for rfl (qi_of (qe_call (ok__law_all h) (hr.mono (by decide : 1 ≤ 1)) (by rfl) h.g__law_all h.F__law_all.kp (qas_cons (qo_of (qe_callB (fun _ _ => cr_len) (by rfl) h.z_len PySem.boot_len (qas_cons (qo_name 3) qas_nil))) qas_nil))) (qg_name 5 sc__law_settling.nd) (qss_cons (qs_setComp (own := [("_law_issue", 6)]) 7 rfl sc__law_settling.nd (qi_range1 (by rfl) h.z_range (qas_cons (qo_name 1) qas_nil)) (blkOk_by (N := ["_law_pen_here", "_law_many", "_law_left", "_law_free", "_law_found", "_law_answers", "_law_issue", "_law_row", "_law_at", "_law_lap"]) (sc := defScope st__law_settling) (by decide +kernel)) (fun _ _ _ _ _ => (qg_name 6 sc__law_settling.nd)) (fun _ _ _ _ _ => qts_nil) (fun _ _ _ _ _ => (qe_ix (qo_of (qe_str [48, 49])) (qo_of (qe_call (ok__law_draw h) (hr.mono (by decide : 1 ≤ 1)) (by rfl) h.g__law_draw h.F__law_draw.kp (qas_cons (qo_name 0) (qas_cons (qo_of qe_int) qas_nil)))))))
    (qss_cons (qs_for rfl (qi_enum (by rfl) h.z_enumerate (qas_cons (qo_of (qe_name 3)) qas_nil)) (qg_tup rfl (qgs_cons (qg_name 8 sc__law_settling.nd) (qgs_cons (qg_name 6 sc__law_settling.nd) qgs_nil))) (qss_one (qs_setL 7 (qo_of (qe_ix (qo_name 5) (qo_name 8))) (qo_name 6))))
    (qss_one (qs_expr (qe_mut 4 PySem.F.slot_list_append PySem.F.type_list_append (fun _ _ => mt_append) muts_append (qas_cons (qo_of (qe_join (qo_of (qe_str [])) (qas_cons (qo_name 7) qas_nil))) qas_nil)))))))
    (qss_one (qs_retV 4))))))
theorem sc__law_drawn : FnScope ["_law_pen_here", "_law_many", "_law_every", "_law_way", "_law_share", "_law_one", "_law_other", "_law_found", "_law_row"] ["_law_pen_here", "_law_many"] (defScope st__law_drawn) := ⟨rfl, rfl, rfl, by decide +kernel, rfl, by decide +kernel, by decide +kernel⟩
theorem ok__law_drawn {NG : Prop} (h : Hd K mg a) : FnG NG P w K mg base 3 a.f__law_drawn (spD K (tab a) (sem__law_drawn)) := by
  obtain ⟨fd, F⟩ := h.F__law_drawn.ex
  exact Dt.Fun.q F sc__law_drawn (F.binds (ps := ["_law_pen_here", "_law_many"]) fun _ _ _ _ _ _ us hl => match us, hl with | [_, _], _ => rfl) fun cdv A outer s H E hr =>
    (qss_cons (qs_parT [(2, (eCall sem__law_all_v2 (asCons (oName 1) asNil))), (3, (eCall sem__law_draw_v2 (asCons (oName 0) (asCons (toA (eC (.int 9))) asNil)))), (4, (eOp addD (toA (eC (.int 1))) (toA (eCall sem__law_draw_v2 (asCons (oName 0) (asCons (toA (eC (.int 5))) asNil))))))] (hl := by first | decide | simp) (hnd := by first | decide | simp) rfl (qvs_cons (qe_call (ok__law_all h) (hr.mono (by decide : 1 ≤ 2)) (by rfl) h.g__law_all h.F__law_all.kp (qas_cons (qo_name 1) qas_nil)) (qvs_cons (qe_call (ok__law_draw h) (hr.mono (by decide : 1 ≤ 2)) (by rfl) h.g__law_draw h.F__law_draw.kp (qas_cons (qo_name 0) (qas_cons (qo_of qe_int) qas_nil))) (qvs_cons (qe_op (fun _ _ => op_addD) (qo_of qe_int) (qo_of (qe_call (ok__law_draw h) (hr.mono (by decide : 1 ≤ 2)) (by rfl) h.g__law_draw h.F__law_draw.kp (qas_cons (qo_name 0) (qas_cons (qo_of qe_int) qas_nil))))) qvs_nil))) (qns_cons 2 sc__law_drawn.nd (qns_cons 3 sc__law_drawn.nd (qns_cons 4 sc__law_drawn.nd qns_nil))))
    (qss_cons (qs_parT [(5, (eCall sem__law_draw_v2 (asCons (oName 0) (asCons (oName 1) asNil)))), (6, (eCall sem__law_draw_v2 (asCons (oName 0) (asCons (oName 1) asNil))))] (hl := by first | decide | simp) (hnd := by first | decide | simp) rfl (qvs_cons (qe_call (ok__law_draw h) (hr.mono (by decide : 1 ≤ 2)) (by rfl) h.g__law_draw h.F__law_draw.kp (qas_cons (qo_name 0) (qas_cons (qo_name 1) qas_nil))) (qvs_cons (qe_call (ok__law_draw h) (hr.mono (by decide : 1 ≤ 2)) (by rfl) h.g__law_draw h.F__law_draw.kp (qas_cons (qo_name 0) (qas_cons (qo_name 1) qas_nil))) qvs_nil)) (qns_cons 5 sc__law_drawn.nd (qns_cons 6 sc__law_drawn.nd qns_nil)))
    (qss_cons (qs_if (qt_cmp (fun _ _ => op_eqQ hr.u64) (qo_name 3) (qo_of qe_int)) (qss_one (qs_ret (qe_lst (qas_cons (qo_of (qe_ix (qo_name 2) (qo_of (qe_call (ok__law_draw h) (hr.mono (by decide : 1 ≤ 2)) (by rfl) h.g__law_draw h.F__law_draw.kp (qas_cons (qo_name 0) (qas_cons (qo_of (qe_callB (fun _ _ => cr_len) (by rfl) h.z_len PySem.boot_len (qas_cons (qo_name 2) qas_nil))) qas_nil)))))) qas_nil)))) qss_nil)
    (qss_cons (qs_if (qt_cmp (fun _ _ => op_eqQ hr.u64) (qo_name 3) (qo_of qe_int)) (qss_one (qs_retV 2)) qss_nil)
    (qss_cons (qs_if (qt_cmp (fun _ _ => op_eqQ hr.u64) (qo_name 3) (qo_of qe_int)) (qss_one (qs_ret (qe_comp (own := [("_law_row", 8)]) rfl sc__law_drawn.nd (qi_of (qe_name 2)) (blkOk_by (N := ["_law_pen_here", "_law_many", "_law_every", "_law_way", "_law_share", "_law_one", "_law_other", "_law_found", "_law_row"]) (sc := defScope st__law_drawn) (by decide +kernel)) (fun _ _ _ _ _ => (qg_name 8 sc__law_drawn.nd)) (fun _ _ _ _ _ => (qts_one (qt_cmp (fun _ _ => op_eqQ hr.u64) (qo_of (qe_op (fun _ _ => op_modD) (qo_of (qe_count (qo_name 8) (qas_cons (qo_of (qe_str [49])) qas_nil))) (qo_of qe_int))) (qo_of qe_int)))) (fun _ _ _ _ _ => (qe_name 8))))) qss_nil)
    (qss_cons (qs_if (qt_cmp (fun _ _ => op_eqQ hr.u64) (qo_name 3) (qo_of qe_int)) (qss_one (qs_ret (qe_comp (own := [("_law_row", 8)]) rfl sc__law_drawn.nd (qi_of (qe_name 2)) (blkOk_by (N := ["_law_pen_here", "_law_many", "_law_every", "_law_way", "_law_share", "_law_one", "_law_other", "_law_found", "_law_row"]) (sc := defScope st__law_drawn) (by decide +kernel)) (fun _ _ _ _ _ => (qg_name 8 sc__law_drawn.nd)) (fun _ _ _ _ _ => (qts_one (qt_w (qw_or (qt_cmp (fun _ _ => op_eqQ hr.u64) (qo_of (qe_ix (qo_name 8) (qo_name 5))) (qo_of (qe_str [48]))) (qw_or1 (qt_cmp (fun _ _ => op_eqQ hr.u64) (qo_of (qe_ix (qo_name 8) (qo_name 6))) (qo_of (qe_str [49])))))))) (fun _ _ _ _ _ => (qe_name 8))))) qss_nil)
    (qss_cons (qs_if (qt_cmp (fun _ _ => op_ltQ) (qo_name 3) (qo_of qe_int)) (qss_one (qs_ret (qe_callB (fun _ _ => cr_sorted rfl hr.u64) (by rfl) h.z_sorted PyProof.Rows.boot_sorted (qas_cons (qo_of (qe_call (ok__law_settling h) (hr.mono (by decide : 2 ≤ 2)) (by rfl) h.g__law_settling h.F__law_settling.kp (qas_cons (qo_name 0) (qas_cons (qo_name 1) qas_nil)))) qas_nil)))) qss_nil)
    (qss_cons (qs_setComp (own := [("_law_row", 8)]) 7 rfl sc__law_drawn.nd (qi_of (qe_name 2)) (blkOk_by (N := ["_law_pen_here", "_law_many", "_law_every", "_law_way", "_law_share", "_law_one", "_law_other", "_law_found", "_law_row"]) (sc := defScope st__law_drawn) (by decide +kernel)) (fun _ _ _ _ _ => (qg_name 8 sc__law_drawn.nd)) (fun _ _ _ _ _ => (qts_one (qt_cmp (fun _ _ => op_ltQ) (qo_of (qe_call (ok__law_draw h) (hr.mono (by decide : 1 ≤ 2)) (by rfl) h.g__law_draw h.F__law_draw.kp (qas_cons (qo_name 0) (qas_cons (qo_of qe_int) qas_nil)))) (qo_name 4)))) (fun _ _ _ _ _ => (qe_name 8)))
    (qss_cons (qs_if (qt_cmp (fun _ _ => op_eqQ hr.u64) (qo_name 3) (qo_of qe_int)) (qss_one (qs_setComp (own := [("_law_row", 8)]) 7 rfl sc__law_drawn.nd (qi_of (qe_name 7)) (blkOk_by (N := ["_law_pen_here", "_law_many", "_law_every", "_law_way", "_law_share", "_law_one", "_law_other", "_law_found", "_law_row"]) (sc := defScope st__law_drawn) (by decide +kernel)) (fun _ _ _ _ _ => (qg_name 8 sc__law_drawn.nd)) (fun _ _ _ _ _ => (qts_one (qt_cmp (fun _ _ => op_eqQ hr.u64) (qo_of (qe_ix (qo_name 8) (qo_name 5))) (qo_of (qe_str [49]))))) (fun _ _ _ _ _ => (qe_name 8)))) qss_nil)
    (qss_one (qs_ret (qe_if (qt_cmp (fun _ _ => op_neQ hr.u64) (qo_name 7) (qo_of (qe_lst qas_nil))) (qe_name 7) (qe_lst (qas_cons (qo_of (qe_ix (qo_name 2) (qo_of (qe_neg (qo_of qe_int))))) qas_nil))))))))))))))
theorem sc_is_answers : FnScope ["thing", "many", "sign"] ["thing", "many"] (defScope st_is_answers) := ⟨rfl, rfl, rfl, by decide +kernel, rfl, by decide +kernel, by decide +kernel⟩
theorem ok_is_answers {NG : Prop} (h : Hd K mg a) : FnG NG P w K mg base 1 a.f_is_answers (spD K (tab a) (sem_is_answers)) := by
  obtain ⟨fd, F⟩ := h.F_is_answers.ex
  exact Dt.Fun.q F sc_is_answers (F.binds (ps := ["thing", "many"]) fun _ _ _ _ _ _ us hl => match us, hl with | [_, _], _ => rfl) fun cdv A outer s H E hr =>
    (qss_one (qs_ret (qe_and (qe_isi (by rfl) h.z_isinstance isok_str (.ty "str") (isi_bi (by rfl) h.z_str PyProof.Rows.boot_str) (qo_name 0)) (qe_and (qe_cmp (fun _ _ => op_eqQ hr.u64) (qo_of (qe_callB (fun _ _ => cr_len) (by rfl) h.z_len PySem.boot_len (qas_cons (qo_name 0) qas_nil))) (qo_name 1)) (qe_one (qe_callB (fun _ _ => cr_allQ rfl) (by rfl) h.z_all PyProof.Rows.boot_all (qas_cons (qo_of (qe_comp (own := [("sign", 2)]) rfl sc_is_answers.nd (qi_of (qe_name 0)) (blkOk_by (N := ["thing", "many", "sign"]) (sc := defScope st_is_answers) (by decide +kernel)) (fun _ _ _ _ _ => (qg_name 2 sc_is_answers.nd)) (fun _ _ _ _ _ => qts_nil) (fun _ _ _ _ _ => (qe_cmp (fun _ _ => op_inX hr.u65) (qo_name 2) (qo_of (qe_str [48, 49])))))) qas_nil)))))))
theorem sc_are_rows : FnScope ["rows", "row"] ["rows"] (defScope st_are_rows) := ⟨rfl, rfl, rfl, by decide +kernel, rfl, by decide +kernel, by decide +kernel⟩
theorem ok_are_rows {NG : Prop} (h : Hd K mg a) : FnG NG P w K mg base 2 a.f_are_rows (spD K (tab a) (sem_are_rows)) := by
  obtain ⟨fd, F⟩ := h.F_are_rows.ex
  obtain ⟨uM, cvM⟩ := h.cv_MOST
  exact Dt.Fun.q F sc_are_rows (F.binds (ps := ["rows"]) fun _ _ _ _ _ _ us hl => match us, hl with | [_], _ => rfl) fun cdv A outer s H E hr =>
    (qss_cons (qs_if (qt_w (qw_or (qt_cmp (fun _ _ => op_eqQ hr.u64) (qo_of (qe_callB (fun _ _ => cr_len) (by rfl) h.z_len PySem.boot_len (qas_cons (qo_name 0) qas_nil))) (qo_of qe_int)) (qw_or (qt_not (qt_val (qe_isi (by rfl) h.z_isinstance isok_str (.ty "str") (isi_bi (by rfl) h.z_str PyProof.Rows.boot_str) (qo_of (qe_ix (qo_name 0) (qo_of qe_int)))))) (qw_or1 (qt_not (qt_chain (fun _ _ => op_leQ) (fun _ _ => op_leQ) (qo_of qe_int) (qo_of (qe_callB (fun _ _ => cr_len) (by rfl) h.z_len PySem.boot_len (qas_cons (qo_of (qe_ix (qo_name 0) (qo_of qe_int))) qas_nil))) (qo_of (qe_cval (by rfl) h.g_Board h.cr_Board cvM (d := .int 6) (fun _ _ => by exact rfl))))))))) (qss_one (qs_ret qe_bl)) qss_nil)
    (qss_cons (qs_if (qt_not (qt_val (qe_callB (fun _ _ => cr_allQ rfl) (by rfl) h.z_all PyProof.Rows.boot_all (qas_cons (qo_of (qe_comp (own := [("row", 1)]) rfl sc_are_rows.nd (qi_of (qe_name 0)) (blkOk_by (N := ["rows", "row"]) (sc := defScope st_are_rows) (by decide +kernel)) (fun _ _ _ _ _ => (qg_name 1 sc_are_rows.nd)) (fun _ _ _ _ _ => qts_nil) (fun _ _ _ _ _ => (qe_call (ok_is_answers h) (hr.mono (by decide : 1 ≤ 1)) (by rfl) h.g_is_answers h.F_is_answers.kp (qas_cons (qo_name 1) (qas_cons (qo_of (qe_callB (fun _ _ => cr_len) (by rfl) h.z_len PySem.boot_len (qas_cons (qo_of (qe_ix (qo_name 0) (qo_of qe_int))) qas_nil))) qas_nil)))))) qas_nil)))) (qss_one (qs_ret qe_bl)) qss_nil)
    (qss_one (qs_ret (qe_cmp (fun _ _ => op_eqQ hr.u64) (qo_of (qe_lenSet rfl (by rfl) h.z_len (by rfl) h.z_set (qo_name 0))) (qo_of (qe_callB (fun _ _ => cr_len) (by rfl) h.z_len PySem.boot_len (qas_cons (qo_name 0) qas_nil))))))))
theorem sc_Board___init__ : FnScope ["self", "rows"] ["self", "rows"] (defScope st_Board___init__) := ⟨rfl, rfl, rfl, by decide +kernel, rfl, by decide +kernel, by decide +kernel⟩
theorem ok_Board___init__ {NG : Prop} (h : Hd K mg a) : FnG NG P w K mg base 3 a.f_Board___init__ (spD K (tab a) (sem_Board___init__)) := by
  obtain ⟨fd, F⟩ := h.F_Board___init__.ex
  exact Dt.Fun.qV F sc_Board___init__ (fun _ _ _ _ _ _ _ rest _ => match rest with | [] => rfl | _ :: _ => rfl) fun cdv A outer s H E hr =>
    (qss_cons (qs_if (qt_not (qt_val (qe_call (ok_are_rows h) (hr.mono (by decide : 2 ≤ 2)) (by rfl) h.g_are_rows h.F_are_rows.kp (qas_cons (qo_name 1) qas_nil)))) (qss_one (qs_raise rfl PySem.F.excBase_ValueError h.x_RowsError h.g_RowsError h.k_RowsError (raises_own h.b_RowsError h.t_RowsError) (by rfl))) qss_nil)
    (qss_one (qs_setF 0 (qo_of (qe_callTy (fun _ _ => cr_tup) (by rfl) h.z_tuple PyProof.Rows.boot_tuple (qas_cons (qo_of (qe_callB (fun _ _ => cr_sorted rfl hr.u64) (by rfl) h.z_sorted PyProof.Rows.boot_sorted (qas_cons (qo_name 1) qas_nil))) qas_nil))) (fld_one rfl h.cl_Board h.n_Board_known))))
theorem sc_Board_read : FnScope ["cls", "text", "rows"] ["cls", "text"] (defScope st_Board_read) := ⟨rfl, rfl, rfl, by decide +kernel, rfl, by decide +kernel, by decide +kernel⟩
theorem ok_Board_read {NG : Prop} (h : Hd K mg a) : FnG NG P w K mg base 5 a.f_Board_read (spD K (tab a) (sem_Board_read a.C_Board)) := by
  obtain ⟨fd, F⟩ := h.F_Board_read.ex
  exact Dt.Fun.q F sc_Board_read (F.binds (ps := ["cls", "text"]) fun _ _ _ _ _ _ us hl => match us, hl with | [_, _], _ => rfl) fun cdv A outer s H E hr =>
    (qss_cons (qs_if (qt_not (qt_val (qe_isi (by rfl) h.z_isinstance isok_str (.ty "str") (isi_bi (by rfl) h.z_str PyProof.Rows.boot_str) (qo_name 1)))) (qss_one (qs_raise rfl PySem.F.excBase_ValueError h.x_TextError h.g_TextError h.k_TextError (raises_own h.b_TextError h.t_TextError) (by rfl))) qss_nil)
    (qss_cons (qs_set 2 sc_Board_read.nd (qe_split (qo_name 1) (qas_cons (qo_of (qe_str [32])) qas_nil)))
    (qss_cons (qs_if (qt_not (qt_val (qe_call (ok_are_rows h) (hr.mono (by decide : 2 ≤ 4)) (by rfl) h.g_are_rows h.F_are_rows.kp (qas_cons (qo_name 2) qas_nil)))) (qss_one (qs_raise rfl PySem.F.excBase_ValueError h.x_TextError h.g_TextError h.k_TextError (raises_own h.b_TextError h.t_TextError) (by rfl))) qss_nil)
    (qss_one (qs_ret (qe_makeSL (t := 0) 0 h.mk_Board (ok_Board___init__ h) (hr.mono (by decide : 4 ≤ 4)) (qo_name 2)))))))
theorem sc__law_shuffled : FnScope ["_law_pen_here", "_law_things", "_law_left", "_law_found"] ["_law_pen_here", "_law_things"] (defScope st__law_shuffled) := ⟨rfl, rfl, rfl, by decide +kernel, rfl, by decide +kernel, by decide +kernel⟩
theorem ok__law_shuffled {NG : Prop} (h : Hd K mg a) : FnG NG P w K mg base 2 a.f__law_shuffled (spD K (tab a) (sem__law_shuffled)) := by
  obtain ⟨fd, F⟩ := h.F__law_shuffled.ex
  exact Dt.Fun.q F sc__law_shuffled (F.binds (ps := ["_law_pen_here", "_law_things"]) fun _ _ _ _ _ _ us hl => match us, hl with | [_, _], _ => rfl) fun cdv A outer s H E hr =>
    (qss_cons (qs_par 2 3 rfl sc__law_shuffled.nd (qe_callTy (fun _ _ => cr_list) (by rfl) h.z_list PyProof.Rows.boot_list (qas_cons (qo_name 1) qas_nil)) (qe_lst qas_nil))
    (qss_cons (qs_while 5000 (qt_cmp (fun _ _ => op_neQ hr.u64) (qo_name 2) (qo_of (qe_lst qas_nil))) (qss_one (qs_expr (qe_mut 3 PySem.F.slot_list_append PySem.F.type_list_append (fun _ _ => mt_append) muts_append (qas_cons (qo_of (qe_mut 2 PySem.F.slot_list_pop PySem.F.type_list_pop (fun _ _ => mt_popB) muts_pop (qas_cons (qo_of (qe_call (ok__law_draw h) (hr.mono (by decide : 1 ≤ 1)) (by rfl) h.g__law_draw h.F__law_draw.kp (qas_cons (qo_name 0) (qas_cons (qo_of (qe_callB (fun _ _ => cr_len) (by rfl) h.z_len PySem.boot_len (qas_cons (qo_name 2) qas_nil))) qas_nil)))) qas_nil))) qas_nil)))))
    (qss_one (qs_retV 3))))
theorem sc__law_all_parts : FnScope ["_law_many", "_law_found", "_law_issue", "_law_longer", "_law_part"] ["_law_many"] (defScope st__law_all_parts) := ⟨rfl, rfl, rfl, by decide +kernel, rfl, by decide +kernel, by decide +kernel⟩
theorem ok__law_all_parts {NG : Prop} (h : Hd K mg a) : FnG NG P w K mg base 1 a.f__law_all_parts (spD K (tab a) (sem__law_all_parts)) := by
  obtain ⟨fd, F⟩ := h.F__law_all_parts.ex
  exact Dt.Fun.q F sc__law_all_parts (F.binds (ps := ["_law_many"]) fun _ _ _ _ _ _ us hl => match us, hl with | [_], _ => rfl) fun cdv A outer s H E hr =>
    (qss_cons (qs_set 1 sc__law_all_parts.nd (qe_lst (qas_cons (qo_of (qe_str [])) qas_nil)))
    (qss_cons (qs_for rfl (qi_range1 (by rfl) h.z_range (qas_cons (qo_name 0) qas_nil)) (qg_name 2 sc__law_all_parts.nd) (qss_cons (qs_set 3 sc__law_all_parts.nd (qe_lst qas_nil))
    (qss_cons (qs_for rfl (qi_of (qe_name 1)) (qg_name 4 sc__law_all_parts.nd) (qss_one (qs_set 3 sc__law_all_parts.nd (qe_op (fun _ _ => op_addD) (qo_name 3) (qo_of (qe_lst (qas_cons (qo_of (qe_op (fun _ _ => op_addD) (qo_name 4) (qo_of (qe_str [45])))) (qas_cons (qo_of (qe_op (fun _ _ => op_addD) (qo_name 4) (qo_of (qe_str [48])))) (qas_cons (qo_of (qe_op (fun _ _ => op_addD) (qo_name 4) (qo_of (qe_str [49])))) qas_nil)))))))))
    (qss_one (qs_set 1 sc__law_all_parts.nd (qe_name 3))))))
    (qss_one (qs_retV 1))))
theorem sc__law_has : FnScope ["_law_row", "_law_part", "_law_own", "_law_sign"] ["_law_row", "_law_part"] (defScope st__law_has) := ⟨rfl, rfl, rfl, by decide +kernel, rfl, by decide +kernel, by decide +kernel⟩
theorem ok__law_has {NG : Prop} (h : Hd K mg a) : FnG NG P w K mg base 1 a.f__law_has (spD K (tab a) (sem__law_has_v2)) := by
  obtain ⟨fd, F⟩ := h.F__law_has.ex
  exact Dt.Fun.q F sc__law_has (F.binds (ps := ["_law_row", "_law_part"]) fun _ _ _ _ _ _ us hl => match us, hl with | [_, _], _ => rfl) fun cdv A outer s H E hr =>
    (qss_one (qs_ret (qe_cmp (fun _ _ => op_eqQ hr.u64) (qo_of (qe_comp (own := [("_law_own", 2), ("_law_sign", 3)]) rfl sc__law_has.nd (qi_zip (by rfl) h.z_zip (qas_cons (qo_of (qe_name 0)) (qas_cons (qo_of (qe_name 1)) qas_nil))) (blkOk_by (N := ["_law_row", "_law_part", "_law_own", "_law_sign"]) (sc := defScope st__law_has) (by decide +kernel)) (fun _ _ _ _ _ => (qg_tup rfl (qgs_cons (qg_name 2 sc__law_has.nd) (qgs_cons (qg_name 3 sc__law_has.nd) qgs_nil)))) (fun _ _ _ _ _ => (qts_one (qt_w (qw_and (qt_cmp (fun _ _ => op_neQ hr.u64) (qo_name 3) (qo_of (qe_str [45]))) (qw_and1 (qt_cmp (fun _ _ => op_neQ hr.u64) (qo_name 3) (qo_name 2))))))) (fun _ _ _ _ _ => qe_int))) (qo_of (qe_lst qas_nil)))))
theorem sc__law_some_have : FnScope ["_law_rows_here", "_law_part", "_law_row"] ["_law_rows_here", "_law_part"] (defScope st__law_some_have) := ⟨rfl, rfl, rfl, by decide +kernel, rfl, by decide +kernel, by decide +kernel⟩
theorem ok__law_some_have {NG : Prop} (h : Hd K mg a) : FnG NG P w K mg base 2 a.f__law_some_have (spD K (tab a) (sem__law_some_have)) := by
  obtain ⟨fd, F⟩ := h.F__law_some_have.ex
  exact Dt.Fun.q F sc__law_some_have (F.binds (ps := ["_law_rows_here", "_law_part"]) fun _ _ _ _ _ _ us hl => match us, hl with | [_, _], _ => rfl) fun cdv A outer s H E hr =>
    (qss_one (qs_ret (qe_cmp (fun _ _ => op_neQ hr.u64) (qo_of (qe_comp (own := [("_law_row", 2)]) rfl sc__law_some_have.nd (qi_of (qe_name 0)) (blkOk_by (N := ["_law_rows_here", "_law_part", "_law_row"]) (sc := defScope st__law_some_have) (by decide +kernel)) (fun _ _ _ _ _ => (qg_name 2 sc__law_some_have.nd)) (fun _ _ _ _ _ => (qts_one (qt_val (qe_call (ok__law_has h) (hr.mono (by decide : 1 ≤ 1)) (by rfl) h.g__law_has h.F__law_has.kp (qas_cons (qo_name 2) (qas_cons (qo_name 1) qas_nil)))))) (fun _ _ _ _ _ => qe_int))) (qo_of (qe_lst qas_nil)))))
theorem sc__law_issues : FnScope ["_law_part", "_law_issue", "_law_sign"] ["_law_part"] (defScope st__law_issues) := ⟨rfl, rfl, rfl, by decide +kernel, rfl, by decide +kernel, by decide +kernel⟩
theorem ok__law_issues {NG : Prop} (h : Hd K mg a) : FnG NG P w K mg base 1 a.f__law_issues (spD K (tab a) (sem_answered)) := by
  obtain ⟨fd, F⟩ := h.F__law_issues.ex
  exact Dt.Fun.q F sc__law_issues (F.binds (ps := ["_law_part"]) fun _ _ _ _ _ _ us hl => match us, hl with | [_], _ => rfl) fun cdv A outer s H E hr =>
    (qss_one (qs_ret (qe_comp (own := [("_law_issue", 1), ("_law_sign", 2)]) rfl sc__law_issues.nd (qi_enum (by rfl) h.z_enumerate (qas_cons (qo_of (qe_name 0)) qas_nil)) (blkOk_by (N := ["_law_part", "_law_issue", "_law_sign"]) (sc := defScope st__law_issues) (by decide +kernel)) (fun _ _ _ _ _ => (qg_tup rfl (qgs_cons (qg_name 1 sc__law_issues.nd) (qgs_cons (qg_name 2 sc__law_issues.nd) qgs_nil)))) (fun _ _ _ _ _ => (qts_one (qt_cmp (fun _ _ => op_neQ hr.u64) (qo_name 2) (qo_of (qe_str [45]))))) (fun _ _ _ _ _ => (qe_name 1)))))
theorem sc__law_does_clash : FnScope ["_law_rows_here", "_law_part", "_law_issue"] ["_law_rows_here", "_law_part"] (defScope st__law_does_clash) := ⟨rfl, rfl, rfl, by decide +kernel, rfl, by decide +kernel, by decide +kernel⟩
theorem ok__law_does_clash {NG : Prop} (h : Hd K mg a) : FnG NG P w K mg base 3 a.f__law_does_clash (spD K (tab a) (sem__law_does_clash)) := by
  obtain ⟨fd, F⟩ := h.F__law_does_clash.ex
  exact Dt.Fun.q F sc__law_does_clash (F.binds (ps := ["_law_rows_here", "_law_part"]) fun _ _ _ _ _ _ us hl => match us, hl with | [_, _], _ => rfl) fun cdv A outer s H E hr =>
    (qss_cons (qs_if (qt_val (qe_call (ok__law_some_have h) (hr.mono (by decide : 2 ≤ 2)) (by rfl) h.g__law_some_have h.F__law_some_have.kp (qas_cons (qo_name 0) (qas_cons (qo_name 1) qas_nil)))) (qss_one (qs_ret qe_bl)) qss_nil)
    (qss_cons (qs_for rfl (qi_of (qe_call (ok__law_issues h) (hr.mono (by decide : 1 ≤ 2)) (by rfl) h.g__law_issues h.F__law_issues.kp (qas_cons (qo_name 1) qas_nil))) (qg_name 2 sc__law_does_clash.nd) (qss_one (qs_if (qt_not (qt_val (qe_call (ok__law_some_have h) (hr.mono (by decide : 2 ≤ 2)) (by rfl) h.g__law_some_have h.F__law_some_have.kp (qas_cons (qo_name 0) (qas_cons (qo_of (qe_op (fun _ _ => op_addD) (qo_of (qe_op (fun _ _ => op_addD) (qo_of (qe_slice (qo_name 1) qpo_no (qpo_yes (qo_name 2)))) (qo_of (qe_str [45])))) (qo_of (qe_slice (qo_name 1) (qpo_yes (qo_of (qe_op (fun _ _ => op_addD) (qo_name 2) (qo_of qe_int)))) qpo_no)))) qas_nil))))) (qss_one (qs_ret qe_bl)) qss_nil)))
    (qss_one (qs_ret qe_bl))))
theorem sc__law_clashes : FnScope ["_law_rows_here", "_law_some", "_law_part", "_law_pair"] ["_law_rows_here"] (defScope st__law_clashes) := ⟨rfl, rfl, rfl, by decide +kernel, rfl, by decide +kernel, by decide +kernel⟩
theorem ok__law_clashes {NG : Prop} (h : Hd K mg a) : FnG NG P w K mg base 4 a.f__law_clashes (spD K (tab a) (sem__law_clashes_v2)) := by
  obtain ⟨fd, F⟩ := h.F__law_clashes.ex
  exact Dt.Fun.q F sc__law_clashes (F.binds (ps := ["_law_rows_here"]) fun _ _ _ _ _ _ us hl => match us, hl with | [_], _ => rfl) fun cdv A outer s H E hr =>
    (qss_cons (qs_setComp (own := [("_law_part", 2)]) 1 rfl sc__law_clashes.nd (qi_of (qe_call (ok__law_all_parts h) (hr.mono (by decide : 1 ≤ 3)) (by rfl) h.g__law_all_parts h.F__law_all_parts.kp (qas_cons (qo_of (qe_callB (fun _ _ => cr_len) (by rfl) h.z_len PySem.boot_len (qas_cons (qo_of (qe_ix (qo_name 0) (qo_of qe_int))) qas_nil))) qas_nil))) (blkOk_by (N := ["_law_rows_here", "_law_some", "_law_part", "_law_pair"]) (sc := defScope st__law_clashes) (by decide +kernel)) (fun _ _ _ _ _ => (qg_name 2 sc__law_clashes.nd)) (fun _ _ _ _ _ => (qts_one (qt_val (qe_call (ok__law_does_clash h) (hr.mono (by decide : 3 ≤ 3)) (by rfl) h.g__law_does_clash h.F__law_does_clash.kp (qas_cons (qo_name 0) (qas_cons (qo_name 2) qas_nil)))))) (fun _ _ _ _ _ => (qe_name 2)))
    (qss_one (qs_ret (qe_comp (own := [("_law_pair", 3)]) rfl sc__law_clashes.nd (qi_of (qe_callB (fun _ _ => cr_sorted rfl hr.u64) (by rfl) h.z_sorted PyProof.Rows.boot_sorted (qas_cons (qo_of (qe_comp (own := [("_law_part", 2)]) rfl sc__law_clashes.nd (qi_of (qe_name 1)) (blkOk_by (N := ["_law_rows_here", "_law_some", "_law_part", "_law_pair"]) (sc := defScope st__law_clashes) (by decide +kernel)) (fun _ _ _ _ _ => (qg_name 2 sc__law_clashes.nd)) (fun _ _ _ _ _ => qts_nil) (fun _ _ _ _ _ => (qe_tup (qas_cons (qo_of (qe_callB (fun _ _ => cr_len) (by rfl) h.z_len PySem.boot_len (qas_cons (qo_of (qe_call (ok__law_issues h) (hr.mono (by decide : 1 ≤ 3)) (by rfl) h.g__law_issues h.F__law_issues.kp (qas_cons (qo_name 2) qas_nil))) qas_nil))) (qas_cons (qo_name 2) qas_nil)))))) qas_nil))) (blkOk_by (N := ["_law_rows_here", "_law_some", "_law_part", "_law_pair"]) (sc := defScope st__law_clashes) (by decide +kernel)) (fun _ _ _ _ _ => (qg_name 3 sc__law_clashes.nd)) (fun _ _ _ _ _ => qts_nil) (fun _ _ _ _ _ => (qe_ix (qo_name 3) (qo_of qe_int)))))))
theorem sc_need_board : FnScope ["thing"] ["thing"] (defScope st_need_board) := ⟨rfl, rfl, rfl, by decide +kernel, rfl, by decide +kernel, by decide +kernel⟩
theorem ok_need_board {NG : Prop} (h : Hd K mg a) : FnG NG P w K mg base 1 a.f_need_board (spD K (tab a) (sem_need_board)) := by
  obtain ⟨fd, F⟩ := h.F_need_board.ex
  exact Dt.Fun.q F sc_need_board (F.binds (ps := ["thing"]) fun _ _ _ _ _ _ us hl => match us, hl with | [_], _ => rfl) fun cdv A outer s H E hr =>
    (qss_one (qs_if (qt_not (qt_val (qe_isi (by rfl) h.z_isinstance h.is_Board (.own a.C_Board) (isi_own (by rfl) h.g_Board) (qo_name 0)))) (qss_one (qs_raise rfl PySem.F.excBase_ValueError h.x_BoardError h.g_BoardError h.k_BoardError (raises_own h.b_BoardError h.t_BoardError) (by rfl))) qss_nil))
theorem sc_Board_rows : FnScope ["self"] ["self"] (defScope st_Board_rows) := ⟨rfl, rfl, rfl, by decide +kernel, rfl, by decide +kernel, by decide +kernel⟩
theorem ok_Board_rows {NG : Prop} (h : Hd K mg a) : FnG NG P w K mg base 1 a.f_Board_rows (spD K (tab a) (sem_Board_rows)) := by
  obtain ⟨fd, F⟩ := h.F_Board_rows.ex
  exact Dt.Fun.q F sc_Board_rows (F.binds (ps := ["self"]) fun _ _ _ _ _ _ us hl => match us, hl with | [_], _ => rfl) fun cdv A outer s H E hr =>
    (qss_one (qs_ret (qe_fld (qo_name 0) (fld_one rfl h.cl_Board h.n_Board_known))))
theorem sc_held_parts : FnScope ["board", "held", "row", "found", "sign", "part", "own"] ["board"] (defScope st_held_parts) := ⟨rfl, rfl, rfl, by decide +kernel, rfl, by decide +kernel, by decide +kernel⟩
theorem ok_held_parts {NG : Prop} (h : Hd K mg a) : FnG NG P w K mg base 3 a.f_held_parts (spD K (tab a) (sem_held_parts)) := by
  obtain ⟨fd, F⟩ := h.F_held_parts.ex
  exact Dt.Fun.q F sc_held_parts (F.binds (ps := ["board"]) fun _ _ _ _ _ _ us hl => match us, hl with | [_], _ => rfl) fun cdv A outer s H E hr =>
    (qss_cons (qs_set 1 sc_held_parts.nd qe_dict0)
    (qss_cons (qs_for rfl (qi_of (qe_prop (qo_name 0) (prop_one h.cl_Board h.p_Board_rows (hr.mono (by decide : 2 ≤ 2)) (ok_Board_rows h)))) (qg_name 2 sc_held_parts.nd) (qss_cons (qs_set 3 sc_held_parts.nd (qe_lst (qas_cons (qo_of (qe_str [])) qas_nil)))
    (qss_cons (qs_for rfl (qi_of (qe_name 2)) (qg_name 4 sc_held_parts.nd) (qss_one (qs_setComp2 (own := [("part", 5), ("own", 6)]) (vs1 := [6]) 3 rfl sc_held_parts.nd (qi_of (qe_name 3)) (blkOk_by (N := ["board", "held", "row", "found", "sign", "part", "own"]) (sc := defScope st_held_parts) (by decide +kernel)) (by decide) (fun _ _ _ _ _ => (qg_name 5 sc_held_parts.nd)) (fun _ _ _ _ _ => qts_nil) (fun _ _ _ _ _ => (qi_of (qe_tup (qas_cons (qo_of (qe_str [45])) (qas_cons (qo_name 4) qas_nil))))) (fun _ _ _ _ _ => (qg_name 6 sc_held_parts.nd)) (fun _ _ _ _ _ => qts_nil) (fun _ _ _ _ _ => (qe_op (fun _ _ => op_addD) (qo_name 5) (qo_name 6))))))
    (qss_one (qs_for rfl (qi_of (qe_name 3)) (qg_name 5 sc_held_parts.nd) (qss_one (qs_setD 1 hr.u1 (qo_of qe_bl) (qo_name 5))))))))
    (qss_one (qs_retV 1))))
theorem sc_parts : FnScope ["many", "found", "issue", "part", "sign"] ["many"] (defScope st_parts) := ⟨rfl, rfl, rfl, by decide +kernel, rfl, by decide +kernel, by decide +kernel⟩
theorem ok_parts {NG : Prop} (h : Hd K mg a) : FnG NG P w K mg base 1 a.f_parts (spD K (tab a) (sem_parts)) := by
  obtain ⟨fd, F⟩ := h.F_parts.ex
  exact Dt.Fun.q F sc_parts (F.binds (ps := ["many"]) fun _ _ _ _ _ _ us hl => match us, hl with | [_], _ => rfl) fun cdv A outer s H E hr =>
    (qss_cons (qs_set 1 sc_parts.nd (qe_lst (qas_cons (qo_of (qe_str [])) qas_nil)))
    (qss_cons (qs_for rfl (qi_range1 (by rfl) h.z_range (qas_cons (qo_name 0) qas_nil)) (qg_name 2 sc_parts.nd) (qss_one (qs_setComp2 (own := [("part", 3), ("sign", 4)]) (vs1 := [4]) 1 rfl sc_parts.nd (qi_of (qe_name 1)) (blkOk_by (N := ["many", "found", "issue", "part", "sign"]) (sc := defScope st_parts) (by decide +kernel)) (by decide) (fun _ _ _ _ _ => (qg_name 3 sc_parts.nd)) (fun _ _ _ _ _ => qts_nil) (fun _ _ _ _ _ => (qi_of (qe_str [45, 48, 49]))) (fun _ _ _ _ _ => (qg_name 4 sc_parts.nd)) (fun _ _ _ _ _ => qts_nil) (fun _ _ _ _ _ => (qe_op (fun _ _ => op_addD) (qo_name 3) (qo_name 4))))))
    (qss_one (qs_retV 1))))
theorem sc_Board_issues : FnScope ["self"] ["self"] (defScope st_Board_issues) := ⟨rfl, rfl, rfl, by decide +kernel, rfl, by decide +kernel, by decide +kernel⟩
theorem ok_Board_issues {NG : Prop} (h : Hd K mg a) : FnG NG P w K mg base 1 a.f_Board_issues (spD K (tab a) (sem_Board_issues)) := by
  obtain ⟨fd, F⟩ := h.F_Board_issues.ex
  exact Dt.Fun.q F sc_Board_issues (F.binds (ps := ["self"]) fun _ _ _ _ _ _ us hl => match us, hl with | [_], _ => rfl) fun cdv A outer s H E hr =>
    (qss_one (qs_ret (qe_callB (fun _ _ => cr_len) (by rfl) h.z_len PySem.boot_len (qas_cons (qo_of (qe_ix (qo_of (qe_fld (qo_name 0) (fld_one rfl h.cl_Board h.n_Board_known))) (qo_of qe_int))) qas_nil))))
theorem sc_answered : FnScope ["part", "issue", "sign"] ["part"] (defScope st_answered) := ⟨rfl, rfl, rfl, by decide +kernel, rfl, by decide +kernel, by decide +kernel⟩
theorem ok_answered {NG : Prop} (h : Hd K mg a) : FnG NG P w K mg base 1 a.f_answered (spD K (tab a) (sem_answered)) := by
  obtain ⟨fd, F⟩ := h.F_answered.ex
  exact Dt.Fun.q F sc_answered (F.binds (ps := ["part"]) fun _ _ _ _ _ _ us hl => match us, hl with | [_], _ => rfl) fun cdv A outer s H E hr =>
    (qss_one (qs_ret (qe_comp (own := [("issue", 1), ("sign", 2)]) rfl sc_answered.nd (qi_enum (by rfl) h.z_enumerate (qas_cons (qo_of (qe_name 0)) qas_nil)) (blkOk_by (N := ["part", "issue", "sign"]) (sc := defScope st_answered) (by decide +kernel)) (fun _ _ _ _ _ => (qg_tup rfl (qgs_cons (qg_name 1 sc_answered.nd) (qgs_cons (qg_name 2 sc_answered.nd) qgs_nil)))) (fun _ _ _ _ _ => (qts_one (qt_cmp (fun _ _ => op_neQ hr.u64) (qo_name 2) (qo_of (qe_str [45]))))) (fun _ _ _ _ _ => (qe_name 1)))))
theorem sc_without : FnScope ["part", "issue"] ["part", "issue"] (defScope st_without) := ⟨rfl, rfl, rfl, by decide +kernel, rfl, by decide +kernel, by decide +kernel⟩
theorem ok_without {NG : Prop} (h : Hd K mg a) : FnG NG P w K mg base 1 a.f_without (spD K (tab a) (sem_without)) := by
  obtain ⟨fd, F⟩ := h.F_without.ex
  exact Dt.Fun.q F sc_without (F.binds (ps := ["part", "issue"]) fun _ _ _ _ _ _ us hl => match us, hl with | [_, _], _ => rfl) fun cdv A outer s H E hr =>
    (qss_one (qs_ret (qe_op (fun _ _ => op_addD) (qo_of (qe_op (fun _ _ => op_addD) (qo_of (qe_slice (qo_name 0) qpo_no (qpo_yes (qo_name 1)))) (qo_of (qe_str [45])))) (qo_of (qe_slice (qo_name 0) (qpo_yes (qo_of (qe_op (fun _ _ => op_addD) (qo_name 1) (qo_of qe_int)))) qpo_no)))))
theorem sc_all_clashes : FnScope ["board", "held", "found", "part", "size", "issue"] ["board"] (defScope st_all_clashes) := ⟨rfl, rfl, rfl, by decide +kernel, rfl, by decide +kernel, by decide +kernel⟩
theorem ok_all_clashes {NG : Prop} (h : Hd K mg a) : FnG NG P w K mg base 4 a.f_all_clashes (spD K (tab a) (sem_all_clashes)) := by
  obtain ⟨fd, F⟩ := h.F_all_clashes.ex
  exact Dt.Fun.q F sc_all_clashes (F.binds (ps := ["board"]) fun _ _ _ _ _ _ us hl => match us, hl with | [_], _ => rfl) fun cdv A outer s H E hr =>
    (qss_cons (qs_parT [(1, (eCall sem_held_parts (asCons (oName 0) asNil))), (2, (eLst asNil))] (hl := by first | decide | simp) (hnd := by first | decide | simp) rfl (qvs_cons (qe_call (ok_held_parts h) (hr.mono (by decide : 3 ≤ 3)) (by rfl) h.g_held_parts h.F_held_parts.kp (qas_cons (qo_name 0) qas_nil)) (qvs_cons (qe_lst qas_nil) qvs_nil)) (qns_cons 1 sc_all_clashes.nd (qns_cons 2 sc_all_clashes.nd qns_nil)))
    (qss_cons (qs_for rfl (qi_of (qe_call (ok_parts h) (hr.mono (by decide : 1 ≤ 3)) (by rfl) h.g_parts h.F_parts.kp (qas_cons (qo_of (qe_prop (qo_name 0) (prop_one h.cl_Board h.p_Board_issues (hr.mono (by decide : 2 ≤ 3)) (ok_Board_issues h)))) qas_nil))) (qg_name 3 sc_all_clashes.nd) (qss_one (qs_if (qt_w (qw_and (qt_cmp (fun _ _ => op_ninX hr.u65) (qo_name 3) (qo_name 1)) (qw_and1 (qt_val (qe_callB (fun _ _ => cr_allQ rfl) (by rfl) h.z_all PyProof.Rows.boot_all (qas_cons (qo_of (qe_comp (own := [("issue", 5)]) rfl sc_all_clashes.nd (qi_of (qe_call (ok_answered h) (hr.mono (by decide : 1 ≤ 3)) (by rfl) h.g_answered h.F_answered.kp (qas_cons (qo_name 3) qas_nil))) (blkOk_by (N := ["board", "held", "found", "part", "size", "issue"]) (sc := defScope st_all_clashes) (by decide +kernel)) (fun _ _ _ _ _ => (qg_name 5 sc_all_clashes.nd)) (fun _ _ _ _ _ => qts_nil) (fun _ _ _ _ _ => (qe_cmp (fun _ _ => op_inX hr.u65) (qo_of (qe_call (ok_without h) (hr.mono (by decide : 1 ≤ 3)) (by rfl) h.g_without h.F_without.kp (qas_cons (qo_name 3) (qas_cons (qo_name 5) qas_nil)))) (qo_name 1))))) qas_nil)))))) (qss_one (qs_expr (qe_mut 2 PySem.F.slot_list_append PySem.F.type_list_append (fun _ _ => mt_append) muts_append (qas_cons (qo_of (qe_tup (qas_cons (qo_of (qe_callB (fun _ _ => cr_len) (by rfl) h.z_len PySem.boot_len (qas_cons (qo_of (qe_call (ok_answered h) (hr.mono (by decide : 1 ≤ 3)) (by rfl) h.g_answered h.F_answered.kp (qas_cons (qo_name 3) qas_nil))) qas_nil))) (qas_cons (qo_name 3) qas_nil)))) qas_nil)))) qss_nil)))
    (qss_one (qs_ret (qe_comp (own := [("size", 4), ("part", 3)]) rfl sc_all_clashes.nd (qi_of (qe_callB (fun _ _ => cr_sorted rfl hr.u64) (by rfl) h.z_sorted PyProof.Rows.boot_sorted (qas_cons (qo_name 2) qas_nil))) (blkOk_by (N := ["board", "held", "found", "part", "size", "issue"]) (sc := defScope st_all_clashes) (by decide +kernel)) (fun _ _ _ _ _ => (qg_tup rfl (qgs_cons (qg_name 4 sc_all_clashes.nd) (qgs_cons (qg_name 3 sc_all_clashes.nd) qgs_nil)))) (fun _ _ _ _ _ => qts_nil) (fun _ _ _ _ _ => (qe_name 3)))))))
theorem sc_clashes : GScope ["board", "part"] ["board"] (defScope st_clashes) := ⟨rfl, rfl, rfl, by decide +kernel, rfl, by decide +kernel, by decide +kernel⟩
theorem ok_clashes (h : Hd K mg a) : GenOk P w K mg base (tab a) 5 a.f_clashes ["board"] (sem_clashes) := by
  obtain ⟨fd, F⟩ := h.F_clashes.ex
  exact ⟨fd, Dt.Fun.gen (N := ["board", "part"]) (ps := ["board"]) (i := 1) F sc_clashes (by decide) (by decide) rfl fun cdv A outer s H E pn hr => ⟨(qs_expr (qe_call (ok_need_board h) (hr.mono (by decide : 1 ≤ 4)) (by rfl) h.g_need_board h.F_need_board.kp (qas_cons (qo_name 0) qas_nil))), (qi_of (qe_call (ok_all_clashes h) (hr.mono (by decide : 4 ≤ 4)) (by rfl) h.g_all_clashes h.F_all_clashes.kp (qas_cons (qo_name 0) qas_nil))), qg_name 1 sc_clashes.nd, qe_name 1⟩, (F.binds (ps := ["board"]) fun _ _ _ _ _ _ us hl => match us, hl with | [_], _ => rfl)⟩
theorem sc_law : FnScope ["_law_script", "_law_k", "_law_pen_here", "_law_many", "_law_known", "_law_board", "_law_due", "_law_lap"] ["_law_script"] (defScope st_law) := ⟨rfl, rfl, rfl, by decide +kernel, rfl, by decide +kernel, by decide +kernel⟩
theorem ok_law (h : Hd K mg a) : FnG False P w K mg base 9 a.f_law (spD K (tab a) (sem_law_v9 a.C_Board)) := by
  obtain ⟨fd, F⟩ := h.F_law.ex
  exact Dt.Fun.q F sc_law (F.binds (ps := ["_law_script"]) fun _ _ _ _ _ _ us hl => match us, hl with | [_], _ => rfl) fun cdv A outer s H E hr =>
    (qss_cons (qs_for rfl (qi_range1 (by rfl) h.z_range (qas_cons (qo_of (qe_callB (fun _ _ => cr_max2 rfl) (by rfl) h.z_max PyProof.Rows.boot_max (qas_cons (qo_of qe_int) (qas_cons (qo_of (qe_callB (fun _ _ => cr_min2 rfl) (by rfl) h.z_min PyProof.Rows.boot_min (qas_cons (qo_of (qe_callB (fun _ _ => cr_len) (by rfl) h.z_len PySem.boot_len (qas_cons (qo_name 0) qas_nil))) (qas_cons (qo_of qe_int) qas_nil)))) qas_nil)))) qas_nil)) (qg_name 1 sc_law.nd) (qss_cons (qs_set 2 sc_law.nd (qe_call (ok__law_pen h) (hr.mono (by decide : 1 ≤ 8)) (by rfl) h.g__law_pen h.F__law_pen.kp (qas_cons (qo_of (qe_call (ok__law_cell_at h) (hr.mono (by decide : 1 ≤ 8)) (by rfl) h.g__law_cell_at h.F__law_cell_at.kp (qas_cons (qo_name 0) (qas_cons (qo_name 1) qas_nil)))) qas_nil)))
    (qss_one (qs_for rfl (qi_of (qe_lst (qas_cons (qo_of (qe_op (fun _ _ => op_addD) (qo_of qe_int) (qo_of (qe_call (ok__law_draw h) (hr.mono (by decide : 1 ≤ 8)) (by rfl) h.g__law_draw h.F__law_draw.kp (qas_cons (qo_name 2) (qas_cons (qo_of qe_int) qas_nil)))))) (qas_cons (qo_of (qe_op (fun _ _ => op_addD) (qo_of qe_int) (qo_of (qe_call (ok__law_draw h) (hr.mono (by decide : 1 ≤ 8)) (by rfl) h.g__law_draw h.F__law_draw.kp (qas_cons (qo_name 2) (qas_cons (qo_of qe_int) qas_nil)))))) qas_nil)))) (qg_name 3 sc_law.nd) (qss_cons (qs_set 4 sc_law.nd (qe_call (ok__law_drawn h) (hr.mono (by decide : 3 ≤ 8)) (by rfl) h.g__law_drawn h.F__law_drawn.kp (qas_cons (qo_name 2) (qas_cons (qo_name 3) qas_nil))))
    (qss_cons (qs_parT [(5, (eCMeth a.C_Board (sem_Board_read a.C_Board) (asCons (toA (eBM isStrD joinD (toA (eC (.str [32]))) (asCons (toA (eCall sem__law_shuffled (asCons (oName 2) (asCons (oName 4) asNil)))) asNil))) asNil))), (6, (eCall sem__law_clashes_v2 (asCons (oName 4) asNil)))] (hl := by first | decide | simp) (hnd := by first | decide | simp) rfl (qvs_cons (qe_cmeth (by rfl) h.g_Board h.cr_Board h.cm_Board_read (ok_Board_read h) (hr.mono (by decide : 5 ≤ 8)) (qas_cons (qo_of (qe_join (qo_of (qe_str [32])) (qas_cons (qo_of (qe_call (ok__law_shuffled h) (hr.mono (by decide : 2 ≤ 8)) (by rfl) h.g__law_shuffled h.F__law_shuffled.kp (qas_cons (qo_name 2) (qas_cons (qo_name 4) qas_nil)))) qas_nil))) qas_nil)) (qvs_cons (qe_call (ok__law_clashes h) (hr.mono (by decide : 4 ≤ 8)) (by rfl) h.g__law_clashes h.F__law_clashes.kp (qas_cons (qo_name 4) qas_nil)) qvs_nil)) (qns_cons 5 sc_law.nd (qns_cons 6 sc_law.nd qns_nil)))
    (qss_one (qs_if (qt_cmp (fun _ _ => op_neQ hr.u64) (qo_of (qe_callB (fun _ _ => cr_reprY (hr.g.resolve_right id) hr.u64) (by rfl) h.z_repr PyProof.Rows.boot_repr (qas_cons (qo_of (qe_comp (own := [("_law_lap", 7)]) rfl sc_law.nd (qi_range1 (by rfl) h.z_range (qas_cons (qo_of qe_int) qas_nil)) (blkOk_by (N := ["_law_script", "_law_k", "_law_pen_here", "_law_many", "_law_known", "_law_board", "_law_due", "_law_lap"]) (sc := defScope st_law) (by decide +kernel)) (fun _ _ _ _ _ => (qg_name 7 sc_law.nd)) (fun _ _ _ _ _ => qts_nil) (fun _ _ _ _ _ => (qe_listG (ok_clashes h) (hr.mono (by decide : 8 ≤ 8)) (by rfl) h.g_clashes h.F_clashes.kp (qas_cons (qo_name 5) qas_nil) (by rfl) h.z_list PyProof.Rows.boot_list)))) qas_nil))) (qo_of (qe_callB (fun _ _ => cr_reprY (hr.g.resolve_right id) hr.u64) (by rfl) h.z_repr PyProof.Rows.boot_repr (qas_cons (qo_of (qe_lst (qas_cons (qo_of (qe_name 6)) (qas_cons (qo_of (qe_name 6)) qas_nil)))) qas_nil)))) (qss_one (qs_ret qe_bl)) qss_nil))))))))
    (qss_one (qs_ret qe_bl)))
end
theorem hd_of {K : PySem.W.Frag} {h : Heap} {mg : Str → Option Value} {C_RowsError C_TextError C_BoardError C_Board f__law_pen f__law_cell_at f__law_draw f__law_all f__law_settling f__law_drawn f_is_answers f_are_rows f_Board___init__ f_Board_read f__law_shuffled f__law_all_parts f__law_has f__law_some_have f__law_issues f__law_does_clash f__law_clashes f_need_board f_Board_rows f_held_parts f_parts f_Board_issues f_answered f_without f_all_clashes f_clashes f_law p_Board_issues p_Board_rows p_Board_read : Addr} (X : K.In h) (G : h.Ns mainGlobals mg)
    (z_all : PySem.W.nsIn K mainGlobals "all" = some none)
    (z_enumerate : PySem.W.nsIn K mainGlobals "enumerate" = some none)
    (z_isinstance : PySem.W.nsIn K mainGlobals "isinstance" = some none)
    (z_len : PySem.W.nsIn K mainGlobals "len" = some none)
    (z_list : PySem.W.nsIn K mainGlobals "list" = some none)
    (z_max : PySem.W.nsIn K mainGlobals "max" = some none)
    (z_min : PySem.W.nsIn K mainGlobals "min" = some none)
    (z_range : PySem.W.nsIn K mainGlobals "range" = some none)
    (z_repr : PySem.W.nsIn K mainGlobals "repr" = some none)
    (z_set : PySem.W.nsIn K mainGlobals "set" = some none)
    (z_sorted : PySem.W.nsIn K mainGlobals "sorted" = some none)
    (z_str : PySem.W.nsIn K mainGlobals "str" = some none)
    (z_tuple : PySem.W.nsIn K mainGlobals "tuple" = some none)
    (z_zip : PySem.W.nsIn K mainGlobals "zip" = some none)
    (g_RowsError : PySem.W.nsIn K mainGlobals "RowsError" = some (some (.ref C_RowsError)))
    (g_TextError : PySem.W.nsIn K mainGlobals "TextError" = some (some (.ref C_TextError)))
    (g_BoardError : PySem.W.nsIn K mainGlobals "BoardError" = some (some (.ref C_BoardError)))
    (g_Board : PySem.W.nsIn K mainGlobals "Board" = some (some (.ref C_Board)))
    (g__law_pen : PySem.W.nsIn K mainGlobals "_law_pen" = some (some (.ref f__law_pen)))
    {oc__law_pen kV__law_pen dc__law_pen pm__law_pen cd__law_pen ct__law_pen : Value} {od__law_pen an__law_pen : Option Addr} {sl__law_pen : Array (Option Value)} (l__law_pen : K.lookup f__law_pen = some ⟨oc__law_pen, od__law_pen, .func (PySem.W.fnOf "_law_pen" "_law_pen" (defArgs st__law_pen) (defBody st__law_pen) (defScope st__law_pen) .none kV__law_pen dc__law_pen pm__law_pen an__law_pen cd__law_pen ct__law_pen), sl__law_pen⟩)
    (c__law_pen : PySem.W.codeIn K cd__law_pen "_law_pen" = true)
    (k__law_pen : PySem.W.keepIn K (.ref f__law_pen) = true)
    (g__law_cell_at : PySem.W.nsIn K mainGlobals "_law_cell_at" = some (some (.ref f__law_cell_at)))
    {oc__law_cell_at kV__law_cell_at dc__law_cell_at pm__law_cell_at cd__law_cell_at ct__law_cell_at : Value} {od__law_cell_at an__law_cell_at : Option Addr} {sl__law_cell_at : Array (Option Value)} (l__law_cell_at : K.lookup f__law_cell_at = some ⟨oc__law_cell_at, od__law_cell_at, .func (PySem.W.fnOf "_law_cell_at" "_law_cell_at" (defArgs st__law_cell_at) (defBody st__law_cell_at) (defScope st__law_cell_at) .none kV__law_cell_at dc__law_cell_at pm__law_cell_at an__law_cell_at cd__law_cell_at ct__law_cell_at), sl__law_cell_at⟩)
    (c__law_cell_at : PySem.W.codeIn K cd__law_cell_at "_law_cell_at" = true)
    (k__law_cell_at : PySem.W.keepIn K (.ref f__law_cell_at) = true)
    (g__law_draw : PySem.W.nsIn K mainGlobals "_law_draw" = some (some (.ref f__law_draw)))
    {oc__law_draw kV__law_draw dc__law_draw pm__law_draw cd__law_draw ct__law_draw : Value} {od__law_draw an__law_draw : Option Addr} {sl__law_draw : Array (Option Value)} (l__law_draw : K.lookup f__law_draw = some ⟨oc__law_draw, od__law_draw, .func (PySem.W.fnOf "_law_draw" "_law_draw" (defArgs st__law_draw) (defBody st__law_draw) (defScope st__law_draw) .none kV__law_draw dc__law_draw pm__law_draw an__law_draw cd__law_draw ct__law_draw), sl__law_draw⟩)
    (c__law_draw : PySem.W.codeIn K cd__law_draw "_law_draw" = true)
    (k__law_draw : PySem.W.keepIn K (.ref f__law_draw) = true)
    (g__law_all : PySem.W.nsIn K mainGlobals "_law_all" = some (some (.ref f__law_all)))
    {oc__law_all kV__law_all dc__law_all pm__law_all cd__law_all ct__law_all : Value} {od__law_all an__law_all : Option Addr} {sl__law_all : Array (Option Value)} (l__law_all : K.lookup f__law_all = some ⟨oc__law_all, od__law_all, .func (PySem.W.fnOf "_law_all" "_law_all" (defArgs st__law_all) (defBody st__law_all) (defScope st__law_all) .none kV__law_all dc__law_all pm__law_all an__law_all cd__law_all ct__law_all), sl__law_all⟩)
    (c__law_all : PySem.W.codeIn K cd__law_all "_law_all" = true)
    (k__law_all : PySem.W.keepIn K (.ref f__law_all) = true)
    (g__law_settling : PySem.W.nsIn K mainGlobals "_law_settling" = some (some (.ref f__law_settling)))
    {oc__law_settling kV__law_settling dc__law_settling pm__law_settling cd__law_settling ct__law_settling : Value} {od__law_settling an__law_settling : Option Addr} {sl__law_settling : Array (Option Value)} (l__law_settling : K.lookup f__law_settling = some ⟨oc__law_settling, od__law_settling, .func (PySem.W.fnOf "_law_settling" "_law_settling" (defArgs st__law_settling) (defBody st__law_settling) (defScope st__law_settling) .none kV__law_settling dc__law_settling pm__law_settling an__law_settling cd__law_settling ct__law_settling), sl__law_settling⟩)
    (c__law_settling : PySem.W.codeIn K cd__law_settling "_law_settling" = true)
    (k__law_settling : PySem.W.keepIn K (.ref f__law_settling) = true)
    (g__law_drawn : PySem.W.nsIn K mainGlobals "_law_drawn" = some (some (.ref f__law_drawn)))
    {oc__law_drawn kV__law_drawn dc__law_drawn pm__law_drawn cd__law_drawn ct__law_drawn : Value} {od__law_drawn an__law_drawn : Option Addr} {sl__law_drawn : Array (Option Value)} (l__law_drawn : K.lookup f__law_drawn = some ⟨oc__law_drawn, od__law_drawn, .func (PySem.W.fnOf "_law_drawn" "_law_drawn" (defArgs st__law_drawn) (defBody st__law_drawn) (defScope st__law_drawn) .none kV__law_drawn dc__law_drawn pm__law_drawn an__law_drawn cd__law_drawn ct__law_drawn), sl__law_drawn⟩)
    (c__law_drawn : PySem.W.codeIn K cd__law_drawn "_law_drawn" = true)
    (k__law_drawn : PySem.W.keepIn K (.ref f__law_drawn) = true)
    (g_is_answers : PySem.W.nsIn K mainGlobals "is_answers" = some (some (.ref f_is_answers)))
    {oc_is_answers kV_is_answers dc_is_answers pm_is_answers cd_is_answers ct_is_answers : Value} {od_is_answers an_is_answers : Option Addr} {sl_is_answers : Array (Option Value)} (l_is_answers : K.lookup f_is_answers = some ⟨oc_is_answers, od_is_answers, .func (PySem.W.fnOf "is_answers" "is_answers" (defArgs st_is_answers) (defBody st_is_answers) (defScope st_is_answers) .none kV_is_answers dc_is_answers pm_is_answers an_is_answers cd_is_answers ct_is_answers), sl_is_answers⟩)
    (c_is_answers : PySem.W.codeIn K cd_is_answers "is_answers" = true)
    (k_is_answers : PySem.W.keepIn K (.ref f_is_answers) = true)
    (g_are_rows : PySem.W.nsIn K mainGlobals "are_rows" = some (some (.ref f_are_rows)))
    {oc_are_rows kV_are_rows dc_are_rows pm_are_rows cd_are_rows ct_are_rows : Value} {od_are_rows an_are_rows : Option Addr} {sl_are_rows : Array (Option Value)} (l_are_rows : K.lookup f_are_rows = some ⟨oc_are_rows, od_are_rows, .func (PySem.W.fnOf "are_rows" "are_rows" (defArgs st_are_rows) (defBody st_are_rows) (defScope st_are_rows) .none kV_are_rows dc_are_rows pm_are_rows an_are_rows cd_are_rows ct_are_rows), sl_are_rows⟩)
    (c_are_rows : PySem.W.codeIn K cd_are_rows "are_rows" = true)
    (k_are_rows : PySem.W.keepIn K (.ref f_are_rows) = true)
    {oc_Board___init__ kV_Board___init__ dc_Board___init__ pm_Board___init__ cd_Board___init__ ct_Board___init__ : Value} {od_Board___init__ an_Board___init__ : Option Addr} {sl_Board___init__ : Array (Option Value)} (l_Board___init__ : K.lookup f_Board___init__ = some ⟨oc_Board___init__, od_Board___init__, .func (PySem.W.fnOf "__init__" "Board.__init__" (defArgs st_Board___init__) (defBody st_Board___init__) (defScope st_Board___init__) .none kV_Board___init__ dc_Board___init__ pm_Board___init__ an_Board___init__ cd_Board___init__ ct_Board___init__), sl_Board___init__⟩)
    (c_Board___init__ : PySem.W.codeIn K cd_Board___init__ "Board.__init__" = true)
    (k_Board___init__ : PySem.W.keepIn K (.ref f_Board___init__) = true)
    {oc_Board_read kV_Board_read dc_Board_read pm_Board_read cd_Board_read ct_Board_read : Value} {od_Board_read an_Board_read : Option Addr} {sl_Board_read : Array (Option Value)} (l_Board_read : K.lookup f_Board_read = some ⟨oc_Board_read, od_Board_read, .func (PySem.W.fnOf "read" "Board.read" (defArgs st_Board_read) (defBody st_Board_read) (defScope st_Board_read) .none kV_Board_read dc_Board_read pm_Board_read an_Board_read cd_Board_read ct_Board_read), sl_Board_read⟩)
    (c_Board_read : PySem.W.codeIn K cd_Board_read "Board.read" = true)
    (k_Board_read : PySem.W.keepIn K (.ref f_Board_read) = true)
    (g__law_shuffled : PySem.W.nsIn K mainGlobals "_law_shuffled" = some (some (.ref f__law_shuffled)))
    {oc__law_shuffled kV__law_shuffled dc__law_shuffled pm__law_shuffled cd__law_shuffled ct__law_shuffled : Value} {od__law_shuffled an__law_shuffled : Option Addr} {sl__law_shuffled : Array (Option Value)} (l__law_shuffled : K.lookup f__law_shuffled = some ⟨oc__law_shuffled, od__law_shuffled, .func (PySem.W.fnOf "_law_shuffled" "_law_shuffled" (defArgs st__law_shuffled) (defBody st__law_shuffled) (defScope st__law_shuffled) .none kV__law_shuffled dc__law_shuffled pm__law_shuffled an__law_shuffled cd__law_shuffled ct__law_shuffled), sl__law_shuffled⟩)
    (c__law_shuffled : PySem.W.codeIn K cd__law_shuffled "_law_shuffled" = true)
    (k__law_shuffled : PySem.W.keepIn K (.ref f__law_shuffled) = true)
    (g__law_all_parts : PySem.W.nsIn K mainGlobals "_law_all_parts" = some (some (.ref f__law_all_parts)))
    {oc__law_all_parts kV__law_all_parts dc__law_all_parts pm__law_all_parts cd__law_all_parts ct__law_all_parts : Value} {od__law_all_parts an__law_all_parts : Option Addr} {sl__law_all_parts : Array (Option Value)} (l__law_all_parts : K.lookup f__law_all_parts = some ⟨oc__law_all_parts, od__law_all_parts, .func (PySem.W.fnOf "_law_all_parts" "_law_all_parts" (defArgs st__law_all_parts) (defBody st__law_all_parts) (defScope st__law_all_parts) .none kV__law_all_parts dc__law_all_parts pm__law_all_parts an__law_all_parts cd__law_all_parts ct__law_all_parts), sl__law_all_parts⟩)
    (c__law_all_parts : PySem.W.codeIn K cd__law_all_parts "_law_all_parts" = true)
    (k__law_all_parts : PySem.W.keepIn K (.ref f__law_all_parts) = true)
    (g__law_has : PySem.W.nsIn K mainGlobals "_law_has" = some (some (.ref f__law_has)))
    {oc__law_has kV__law_has dc__law_has pm__law_has cd__law_has ct__law_has : Value} {od__law_has an__law_has : Option Addr} {sl__law_has : Array (Option Value)} (l__law_has : K.lookup f__law_has = some ⟨oc__law_has, od__law_has, .func (PySem.W.fnOf "_law_has" "_law_has" (defArgs st__law_has) (defBody st__law_has) (defScope st__law_has) .none kV__law_has dc__law_has pm__law_has an__law_has cd__law_has ct__law_has), sl__law_has⟩)
    (c__law_has : PySem.W.codeIn K cd__law_has "_law_has" = true)
    (k__law_has : PySem.W.keepIn K (.ref f__law_has) = true)
    (g__law_some_have : PySem.W.nsIn K mainGlobals "_law_some_have" = some (some (.ref f__law_some_have)))
    {oc__law_some_have kV__law_some_have dc__law_some_have pm__law_some_have cd__law_some_have ct__law_some_have : Value} {od__law_some_have an__law_some_have : Option Addr} {sl__law_some_have : Array (Option Value)} (l__law_some_have : K.lookup f__law_some_have = some ⟨oc__law_some_have, od__law_some_have, .func (PySem.W.fnOf "_law_some_have" "_law_some_have" (defArgs st__law_some_have) (defBody st__law_some_have) (defScope st__law_some_have) .none kV__law_some_have dc__law_some_have pm__law_some_have an__law_some_have cd__law_some_have ct__law_some_have), sl__law_some_have⟩)
    (c__law_some_have : PySem.W.codeIn K cd__law_some_have "_law_some_have" = true)
    (k__law_some_have : PySem.W.keepIn K (.ref f__law_some_have) = true)
    (g__law_issues : PySem.W.nsIn K mainGlobals "_law_issues" = some (some (.ref f__law_issues)))
    {oc__law_issues kV__law_issues dc__law_issues pm__law_issues cd__law_issues ct__law_issues : Value} {od__law_issues an__law_issues : Option Addr} {sl__law_issues : Array (Option Value)} (l__law_issues : K.lookup f__law_issues = some ⟨oc__law_issues, od__law_issues, .func (PySem.W.fnOf "_law_issues" "_law_issues" (defArgs st__law_issues) (defBody st__law_issues) (defScope st__law_issues) .none kV__law_issues dc__law_issues pm__law_issues an__law_issues cd__law_issues ct__law_issues), sl__law_issues⟩)
    (c__law_issues : PySem.W.codeIn K cd__law_issues "_law_issues" = true)
    (k__law_issues : PySem.W.keepIn K (.ref f__law_issues) = true)
    (g__law_does_clash : PySem.W.nsIn K mainGlobals "_law_does_clash" = some (some (.ref f__law_does_clash)))
    {oc__law_does_clash kV__law_does_clash dc__law_does_clash pm__law_does_clash cd__law_does_clash ct__law_does_clash : Value} {od__law_does_clash an__law_does_clash : Option Addr} {sl__law_does_clash : Array (Option Value)} (l__law_does_clash : K.lookup f__law_does_clash = some ⟨oc__law_does_clash, od__law_does_clash, .func (PySem.W.fnOf "_law_does_clash" "_law_does_clash" (defArgs st__law_does_clash) (defBody st__law_does_clash) (defScope st__law_does_clash) .none kV__law_does_clash dc__law_does_clash pm__law_does_clash an__law_does_clash cd__law_does_clash ct__law_does_clash), sl__law_does_clash⟩)
    (c__law_does_clash : PySem.W.codeIn K cd__law_does_clash "_law_does_clash" = true)
    (k__law_does_clash : PySem.W.keepIn K (.ref f__law_does_clash) = true)
    (g__law_clashes : PySem.W.nsIn K mainGlobals "_law_clashes" = some (some (.ref f__law_clashes)))
    {oc__law_clashes kV__law_clashes dc__law_clashes pm__law_clashes cd__law_clashes ct__law_clashes : Value} {od__law_clashes an__law_clashes : Option Addr} {sl__law_clashes : Array (Option Value)} (l__law_clashes : K.lookup f__law_clashes = some ⟨oc__law_clashes, od__law_clashes, .func (PySem.W.fnOf "_law_clashes" "_law_clashes" (defArgs st__law_clashes) (defBody st__law_clashes) (defScope st__law_clashes) .none kV__law_clashes dc__law_clashes pm__law_clashes an__law_clashes cd__law_clashes ct__law_clashes), sl__law_clashes⟩)
    (c__law_clashes : PySem.W.codeIn K cd__law_clashes "_law_clashes" = true)
    (k__law_clashes : PySem.W.keepIn K (.ref f__law_clashes) = true)
    (g_need_board : PySem.W.nsIn K mainGlobals "need_board" = some (some (.ref f_need_board)))
    {oc_need_board kV_need_board dc_need_board pm_need_board cd_need_board ct_need_board : Value} {od_need_board an_need_board : Option Addr} {sl_need_board : Array (Option Value)} (l_need_board : K.lookup f_need_board = some ⟨oc_need_board, od_need_board, .func (PySem.W.fnOf "need_board" "need_board" (defArgs st_need_board) (defBody st_need_board) (defScope st_need_board) .none kV_need_board dc_need_board pm_need_board an_need_board cd_need_board ct_need_board), sl_need_board⟩)
    (c_need_board : PySem.W.codeIn K cd_need_board "need_board" = true)
    (k_need_board : PySem.W.keepIn K (.ref f_need_board) = true)
    {oc_Board_rows kV_Board_rows dc_Board_rows pm_Board_rows cd_Board_rows ct_Board_rows : Value} {od_Board_rows an_Board_rows : Option Addr} {sl_Board_rows : Array (Option Value)} (l_Board_rows : K.lookup f_Board_rows = some ⟨oc_Board_rows, od_Board_rows, .func (PySem.W.fnOf "rows" "Board.rows" (defArgs st_Board_rows) (defBody st_Board_rows) (defScope st_Board_rows) .none kV_Board_rows dc_Board_rows pm_Board_rows an_Board_rows cd_Board_rows ct_Board_rows), sl_Board_rows⟩)
    (c_Board_rows : PySem.W.codeIn K cd_Board_rows "Board.rows" = true)
    (k_Board_rows : PySem.W.keepIn K (.ref f_Board_rows) = true)
    (g_held_parts : PySem.W.nsIn K mainGlobals "held_parts" = some (some (.ref f_held_parts)))
    {oc_held_parts kV_held_parts dc_held_parts pm_held_parts cd_held_parts ct_held_parts : Value} {od_held_parts an_held_parts : Option Addr} {sl_held_parts : Array (Option Value)} (l_held_parts : K.lookup f_held_parts = some ⟨oc_held_parts, od_held_parts, .func (PySem.W.fnOf "held_parts" "held_parts" (defArgs st_held_parts) (defBody st_held_parts) (defScope st_held_parts) .none kV_held_parts dc_held_parts pm_held_parts an_held_parts cd_held_parts ct_held_parts), sl_held_parts⟩)
    (c_held_parts : PySem.W.codeIn K cd_held_parts "held_parts" = true)
    (k_held_parts : PySem.W.keepIn K (.ref f_held_parts) = true)
    (g_parts : PySem.W.nsIn K mainGlobals "parts" = some (some (.ref f_parts)))
    {oc_parts kV_parts dc_parts pm_parts cd_parts ct_parts : Value} {od_parts an_parts : Option Addr} {sl_parts : Array (Option Value)} (l_parts : K.lookup f_parts = some ⟨oc_parts, od_parts, .func (PySem.W.fnOf "parts" "parts" (defArgs st_parts) (defBody st_parts) (defScope st_parts) .none kV_parts dc_parts pm_parts an_parts cd_parts ct_parts), sl_parts⟩)
    (c_parts : PySem.W.codeIn K cd_parts "parts" = true)
    (k_parts : PySem.W.keepIn K (.ref f_parts) = true)
    {oc_Board_issues kV_Board_issues dc_Board_issues pm_Board_issues cd_Board_issues ct_Board_issues : Value} {od_Board_issues an_Board_issues : Option Addr} {sl_Board_issues : Array (Option Value)} (l_Board_issues : K.lookup f_Board_issues = some ⟨oc_Board_issues, od_Board_issues, .func (PySem.W.fnOf "issues" "Board.issues" (defArgs st_Board_issues) (defBody st_Board_issues) (defScope st_Board_issues) .none kV_Board_issues dc_Board_issues pm_Board_issues an_Board_issues cd_Board_issues ct_Board_issues), sl_Board_issues⟩)
    (c_Board_issues : PySem.W.codeIn K cd_Board_issues "Board.issues" = true)
    (k_Board_issues : PySem.W.keepIn K (.ref f_Board_issues) = true)
    (g_answered : PySem.W.nsIn K mainGlobals "answered" = some (some (.ref f_answered)))
    {oc_answered kV_answered dc_answered pm_answered cd_answered ct_answered : Value} {od_answered an_answered : Option Addr} {sl_answered : Array (Option Value)} (l_answered : K.lookup f_answered = some ⟨oc_answered, od_answered, .func (PySem.W.fnOf "answered" "answered" (defArgs st_answered) (defBody st_answered) (defScope st_answered) .none kV_answered dc_answered pm_answered an_answered cd_answered ct_answered), sl_answered⟩)
    (c_answered : PySem.W.codeIn K cd_answered "answered" = true)
    (k_answered : PySem.W.keepIn K (.ref f_answered) = true)
    (g_without : PySem.W.nsIn K mainGlobals "without" = some (some (.ref f_without)))
    {oc_without kV_without dc_without pm_without cd_without ct_without : Value} {od_without an_without : Option Addr} {sl_without : Array (Option Value)} (l_without : K.lookup f_without = some ⟨oc_without, od_without, .func (PySem.W.fnOf "without" "without" (defArgs st_without) (defBody st_without) (defScope st_without) .none kV_without dc_without pm_without an_without cd_without ct_without), sl_without⟩)
    (c_without : PySem.W.codeIn K cd_without "without" = true)
    (k_without : PySem.W.keepIn K (.ref f_without) = true)
    (g_all_clashes : PySem.W.nsIn K mainGlobals "all_clashes" = some (some (.ref f_all_clashes)))
    {oc_all_clashes kV_all_clashes dc_all_clashes pm_all_clashes cd_all_clashes ct_all_clashes : Value} {od_all_clashes an_all_clashes : Option Addr} {sl_all_clashes : Array (Option Value)} (l_all_clashes : K.lookup f_all_clashes = some ⟨oc_all_clashes, od_all_clashes, .func (PySem.W.fnOf "all_clashes" "all_clashes" (defArgs st_all_clashes) (defBody st_all_clashes) (defScope st_all_clashes) .none kV_all_clashes dc_all_clashes pm_all_clashes an_all_clashes cd_all_clashes ct_all_clashes), sl_all_clashes⟩)
    (c_all_clashes : PySem.W.codeIn K cd_all_clashes "all_clashes" = true)
    (k_all_clashes : PySem.W.keepIn K (.ref f_all_clashes) = true)
    (g_clashes : PySem.W.nsIn K mainGlobals "clashes" = some (some (.ref f_clashes)))
    {oc_clashes kV_clashes dc_clashes pm_clashes cd_clashes ct_clashes : Value} {od_clashes an_clashes : Option Addr} {sl_clashes : Array (Option Value)} (l_clashes : K.lookup f_clashes = some ⟨oc_clashes, od_clashes, .func (PySem.W.fnOf "clashes" "clashes" (defArgs st_clashes) (defBody st_clashes) (defScope st_clashes) .none kV_clashes dc_clashes pm_clashes an_clashes cd_clashes ct_clashes), sl_clashes⟩)
    (c_clashes : PySem.W.codeIn K cd_clashes "clashes" = true)
    (k_clashes : PySem.W.keepIn K (.ref f_clashes) = true)
    (g_law : PySem.W.nsIn K mainGlobals "law" = some (some (.ref f_law)))
    {oc_law kV_law dc_law pm_law cd_law ct_law : Value} {od_law an_law : Option Addr} {sl_law : Array (Option Value)} (l_law : K.lookup f_law = some ⟨oc_law, od_law, .func (PySem.W.fnOf "law" "law" (defArgs st_law) (defBody st_law) (defScope st_law) .none kV_law dc_law pm_law an_law cd_law ct_law), sl_law⟩)
    (c_law : PySem.W.codeIn K cd_law "law" = true)
    (k_law : PySem.W.keepIn K (.ref f_law) = true)
    (pg_Board : PySem.W.plainGet K C_Board Str.empty = true)
    (hd_Board : PySem.W.hasDictIn K C_Board = true)
    (po_Board : PySem.W.plainOver K C_Board = true)
    (sa_Board : PySem.W.findIn K (.ref C_Board) "__setattr__" = some (some (.builtin "object.__setattr__")))
    (ns_Board : PySem.W.noSeq K C_Board = true)
    (ca_Board_read : PySem.W.findCls K (.ref C_Board) (.type "type") "read" = some (.get (.builtin "classmethod.__get__") (.ref p_Board_read) .none (.ref C_Board)))
    {rs_Board_read : List Value} (cb_Board_read : PySem.W.recIn K p_Board_read "classmethod" = some (.ref f_Board_read :: rs_Board_read))
    (cf_Board_read : PySem.W.fnIn K f_Board_read = true)
    (cra_Board : PySem.W.readsIn K C_Board (.type "type") = true)
    (crb_Board : PySem.W.specialIn K (.ref C_Board) "__getattribute__" = some (some (.builtin "type.__getattribute__")))
    {tk_MOST : Tok} (cv_MOST : PySem.W.findCls K (.ref C_Board) (.type "type") "MOST" = some (.val (.int 6 tk_MOST)))
    (n_Board_known : PySem.W.findIn K (.ref C_Board) "known" = some none)
    (ki_Board_0 : PySem.W.kitOne K (.type "NoneType") (.ref C_Board) = some false)
    (ki_Board_1 : PySem.W.kitOne K (.type "bool") (.ref C_Board) = some false)
    (ki_Board_2 : PySem.W.kitOne K (.type "int") (.ref C_Board) = some false)
    (ki_Board_3 : PySem.W.kitOne K (.type "str") (.ref C_Board) = some false)
    (ki_Board_4 : PySem.W.kitOne K (.type "tuple") (.ref C_Board) = some false)
    (ki_Board_5 : PySem.W.kitOne K (.type "list") (.ref C_Board) = some false)
    (ki_Board_6 : PySem.W.kitOne K (.type "dict") (.ref C_Board) = some false)
    (kj_Board : PySem.W.kitOne K (.ref C_Board) (.ref C_Board) = some true)
    (ic_Board : PySem.W.findIn K (.ref C_Board) "__class__" = some (some (.builtin "object.__class__")))
    (gs_get : PySem.W.specialIn K (.builtin "object.__class__") "__get__" = some (some (.builtin "getset_descriptor.__get__")))
    (gs_tk : PySem.W.takesIn K (.builtin "object.__class__") = some true)
    (mo_Board : PySem.W.mroIn K C_Board (.type "object") = some true)
    (mk_Board : PySem.W.makesIn K C_Board = true)
    (mi_Board : PySem.W.findIn K (.ref C_Board) "__init__" = some (some (.ref f_Board___init__)))
    (mf_Board : PySem.W.isFn K (.ref f_Board___init__) = true)
    (mk2_Board : PySem.W.keepIn K (.ref C_Board) = true)
    (pa_Board_issues : PySem.W.findIn K (.ref C_Board) "issues" = some (some (.ref p_Board_issues)))
    (pb_Board_issues : PySem.W.specialIn K (.ref p_Board_issues) "__get__" = some (some (.builtin "property.__get__")))
    (pc_Board_issues : PySem.W.takesIn K (.ref p_Board_issues) = some true)
    {rs_Board_issues : List Value} (pd_Board_issues : PySem.W.recIn K p_Board_issues "property" = some (.ref f_Board_issues :: rs_Board_issues))
    (pa_Board_rows : PySem.W.findIn K (.ref C_Board) "rows" = some (some (.ref p_Board_rows)))
    (pb_Board_rows : PySem.W.specialIn K (.ref p_Board_rows) "__get__" = some (some (.builtin "property.__get__")))
    (pc_Board_rows : PySem.W.takesIn K (.ref p_Board_rows) = some true)
    {rs_Board_rows : List Value} (pd_Board_rows : PySem.W.recIn K p_Board_rows "property" = some (.ref f_Board_rows :: rs_Board_rows))
    (x_RowsError : PySem.W.excIn K C_RowsError [.type "ValueError", .type "Exception", .type "BaseException", .type "object"] "ValueError.__new__" = true)
    (k_RowsError : PySem.W.keepIn K (.ref C_RowsError) = true)
    (b_RowsError : PySem.W.subIn K (.ref C_RowsError) (.type "BaseException") = some true)
    (t_RowsError : PySem.W.typeIn K (.ref C_RowsError) = some (.type "type"))
    (x_TextError : PySem.W.excIn K C_TextError [.type "ValueError", .type "Exception", .type "BaseException", .type "object"] "ValueError.__new__" = true)
    (k_TextError : PySem.W.keepIn K (.ref C_TextError) = true)
    (b_TextError : PySem.W.subIn K (.ref C_TextError) (.type "BaseException") = some true)
    (t_TextError : PySem.W.typeIn K (.ref C_TextError) = some (.type "type"))
    (x_BoardError : PySem.W.excIn K C_BoardError [.type "ValueError", .type "Exception", .type "BaseException", .type "object"] "ValueError.__new__" = true)
    (k_BoardError : PySem.W.keepIn K (.ref C_BoardError) = true)
    (b_BoardError : PySem.W.subIn K (.ref C_BoardError) (.type "BaseException") = some true)
    (t_BoardError : PySem.W.typeIn K (.ref C_BoardError) = some (.type "type"))
    : Hd K mg ⟨C_RowsError, C_TextError, C_BoardError, C_Board, f__law_pen, f__law_cell_at, f__law_draw, f__law_all, f__law_settling, f__law_drawn, f_is_answers, f_are_rows, f_Board___init__, f_Board_read, f__law_shuffled, f__law_all_parts, f__law_has, f__law_some_have, f__law_issues, f__law_does_clash, f__law_clashes, f_need_board, f_Board_rows, f_held_parts, f_parts, f_Board_issues, f_answered, f_without, f_all_clashes, f_clashes, f_law, p_Board_issues, p_Board_rows, p_Board_read⟩ where
  z_all := PySem.W.mg_none_of X G z_all
  z_enumerate := PySem.W.mg_none_of X G z_enumerate
  z_isinstance := PySem.W.mg_none_of X G z_isinstance
  z_len := PySem.W.mg_none_of X G z_len
  z_list := PySem.W.mg_none_of X G z_list
  z_max := PySem.W.mg_none_of X G z_max
  z_min := PySem.W.mg_none_of X G z_min
  z_range := PySem.W.mg_none_of X G z_range
  z_repr := PySem.W.mg_none_of X G z_repr
  z_set := PySem.W.mg_none_of X G z_set
  z_sorted := PySem.W.mg_none_of X G z_sorted
  z_str := PySem.W.mg_none_of X G z_str
  z_tuple := PySem.W.mg_none_of X G z_tuple
  z_zip := PySem.W.mg_none_of X G z_zip
  g_RowsError := PySem.W.mg_of X G g_RowsError
  g_TextError := PySem.W.mg_of X G g_TextError
  g_BoardError := PySem.W.mg_of X G g_BoardError
  g_Board := PySem.W.mg_of X G g_Board
  g__law_pen := PySem.W.mg_of X G g__law_pen
  F__law_pen := ⟨k__law_pen, fx_of ⟨_, _, _, _, _, _, _, _, _, l__law_pen, c__law_pen⟩ k__law_pen⟩
  g__law_cell_at := PySem.W.mg_of X G g__law_cell_at
  F__law_cell_at := ⟨k__law_cell_at, fx_of ⟨_, _, _, _, _, _, _, _, _, l__law_cell_at, c__law_cell_at⟩ k__law_cell_at⟩
  g__law_draw := PySem.W.mg_of X G g__law_draw
  F__law_draw := ⟨k__law_draw, fx_of ⟨_, _, _, _, _, _, _, _, _, l__law_draw, c__law_draw⟩ k__law_draw⟩
  g__law_all := PySem.W.mg_of X G g__law_all
  F__law_all := ⟨k__law_all, fx_of ⟨_, _, _, _, _, _, _, _, _, l__law_all, c__law_all⟩ k__law_all⟩
  g__law_settling := PySem.W.mg_of X G g__law_settling
  F__law_settling := ⟨k__law_settling, fx_of ⟨_, _, _, _, _, _, _, _, _, l__law_settling, c__law_settling⟩ k__law_settling⟩
  g__law_drawn := PySem.W.mg_of X G g__law_drawn
  F__law_drawn := ⟨k__law_drawn, fx_of ⟨_, _, _, _, _, _, _, _, _, l__law_drawn, c__law_drawn⟩ k__law_drawn⟩
  g_is_answers := PySem.W.mg_of X G g_is_answers
  F_is_answers := ⟨k_is_answers, fx_of ⟨_, _, _, _, _, _, _, _, _, l_is_answers, c_is_answers⟩ k_is_answers⟩
  g_are_rows := PySem.W.mg_of X G g_are_rows
  F_are_rows := ⟨k_are_rows, fx_of ⟨_, _, _, _, _, _, _, _, _, l_are_rows, c_are_rows⟩ k_are_rows⟩
  F_Board___init__ := ⟨k_Board___init__, fx_of ⟨_, _, _, _, _, _, _, _, _, l_Board___init__, c_Board___init__⟩ k_Board___init__⟩
  F_Board_read := ⟨k_Board_read, fx_of ⟨_, _, _, _, _, _, _, _, _, l_Board_read, c_Board_read⟩ k_Board_read⟩
  g__law_shuffled := PySem.W.mg_of X G g__law_shuffled
  F__law_shuffled := ⟨k__law_shuffled, fx_of ⟨_, _, _, _, _, _, _, _, _, l__law_shuffled, c__law_shuffled⟩ k__law_shuffled⟩
  g__law_all_parts := PySem.W.mg_of X G g__law_all_parts
  F__law_all_parts := ⟨k__law_all_parts, fx_of ⟨_, _, _, _, _, _, _, _, _, l__law_all_parts, c__law_all_parts⟩ k__law_all_parts⟩
  g__law_has := PySem.W.mg_of X G g__law_has
  F__law_has := ⟨k__law_has, fx_of ⟨_, _, _, _, _, _, _, _, _, l__law_has, c__law_has⟩ k__law_has⟩
  g__law_some_have := PySem.W.mg_of X G g__law_some_have
  F__law_some_have := ⟨k__law_some_have, fx_of ⟨_, _, _, _, _, _, _, _, _, l__law_some_have, c__law_some_have⟩ k__law_some_have⟩
  g__law_issues := PySem.W.mg_of X G g__law_issues
  F__law_issues := ⟨k__law_issues, fx_of ⟨_, _, _, _, _, _, _, _, _, l__law_issues, c__law_issues⟩ k__law_issues⟩
  g__law_does_clash := PySem.W.mg_of X G g__law_does_clash
  F__law_does_clash := ⟨k__law_does_clash, fx_of ⟨_, _, _, _, _, _, _, _, _, l__law_does_clash, c__law_does_clash⟩ k__law_does_clash⟩
  g__law_clashes := PySem.W.mg_of X G g__law_clashes
  F__law_clashes := ⟨k__law_clashes, fx_of ⟨_, _, _, _, _, _, _, _, _, l__law_clashes, c__law_clashes⟩ k__law_clashes⟩
  g_need_board := PySem.W.mg_of X G g_need_board
  F_need_board := ⟨k_need_board, fx_of ⟨_, _, _, _, _, _, _, _, _, l_need_board, c_need_board⟩ k_need_board⟩
  F_Board_rows := ⟨k_Board_rows, fx_of ⟨_, _, _, _, _, _, _, _, _, l_Board_rows, c_Board_rows⟩ k_Board_rows⟩
  g_held_parts := PySem.W.mg_of X G g_held_parts
  F_held_parts := ⟨k_held_parts, fx_of ⟨_, _, _, _, _, _, _, _, _, l_held_parts, c_held_parts⟩ k_held_parts⟩
  g_parts := PySem.W.mg_of X G g_parts
  F_parts := ⟨k_parts, fx_of ⟨_, _, _, _, _, _, _, _, _, l_parts, c_parts⟩ k_parts⟩
  F_Board_issues := ⟨k_Board_issues, fx_of ⟨_, _, _, _, _, _, _, _, _, l_Board_issues, c_Board_issues⟩ k_Board_issues⟩
  g_answered := PySem.W.mg_of X G g_answered
  F_answered := ⟨k_answered, fx_of ⟨_, _, _, _, _, _, _, _, _, l_answered, c_answered⟩ k_answered⟩
  g_without := PySem.W.mg_of X G g_without
  F_without := ⟨k_without, fx_of ⟨_, _, _, _, _, _, _, _, _, l_without, c_without⟩ k_without⟩
  g_all_clashes := PySem.W.mg_of X G g_all_clashes
  F_all_clashes := ⟨k_all_clashes, fx_of ⟨_, _, _, _, _, _, _, _, _, l_all_clashes, c_all_clashes⟩ k_all_clashes⟩
  g_clashes := PySem.W.mg_of X G g_clashes
  F_clashes := ⟨k_clashes, fx_of ⟨_, _, _, _, _, _, _, _, _, l_clashes, c_clashes⟩ k_clashes⟩
  g_law := PySem.W.mg_of X G g_law
  F_law := ⟨k_law, fx_of ⟨_, _, _, _, _, _, _, _, _, l_law, c_law⟩ k_law⟩
  cl_Board := ⟨pg_Board, hd_Board, po_Board, sa_Board⟩
  ns_Board := ns_Board
  cm_Board_read := ⟨ca_Board_read, ⟨_, cb_Board_read⟩, cf_Board_read⟩
  cr_Board := ⟨cra_Board, crb_Board⟩
  cv_MOST := ⟨_, cv_MOST, _, rfl⟩
  n_Board_known := n_Board_known
  is_Board := isok_obj (kit7 ki_Board_0 ki_Board_1 ki_Board_2 ki_Board_3 ki_Board_4 ki_Board_5 ki_Board_6) (fun t b e => by obtain ⟨rfl, rfl⟩ := one_inv2 e; exact ⟨kj_Board, ⟨pg_Board, hd_Board, po_Board, sa_Board⟩, ic_Board, gs_get, gs_tk, mo_Board⟩)
  mk_Board := ⟨mk_Board, mi_Board, mf_Board, mk2_Board⟩
  p_Board_issues := ⟨pa_Board_issues, pb_Board_issues, pc_Board_issues, ⟨_, pd_Board_issues⟩⟩
  p_Board_rows := ⟨pa_Board_rows, pb_Board_rows, pc_Board_rows, ⟨_, pd_Board_rows⟩⟩
  x_RowsError := x_RowsError
  k_RowsError := k_RowsError
  b_RowsError := b_RowsError
  t_RowsError := t_RowsError
  x_TextError := x_TextError
  k_TextError := k_TextError
  b_TextError := b_TextError
  t_TextError := t_TextError
  x_BoardError := x_BoardError
  k_BoardError := k_BoardError
  b_BoardError := b_BoardError
  t_BoardError := t_BoardError
end Lw
end
section
set_option maxRecDepth 100000
set_option maxHeartbeats 4000000
/-! MA: loops and comprehensions computed. -/
namespace Dt
open PySem
section
variable {vs : List Nat} {t : D → Sl → Option Sl} {c : M Bool} {f : M EV}
end
/-- strings as data -/
abbrev strL (ss : List (List Nat)) : List D := ss.map D.str
@[simp] theorem strsOf_map (ss : List (List Nat)) : strsOf (ss.map D.str) = some ss := by
  induction ss with
  | nil => rfl
  | cons s ss ih => simp [strsOf, ih]
@[simp] theorem toPL_strs (ss : List (List Nat)) : toPL (ss.map D.str) = some (ss.map fun s => .str (mkS s)) := by
  induction ss with
  | nil => simp [toPL]
  | cons s ss ih => simp [toPL, toP, ih]
@[simp] theorem blsOf_map (bs : List Bool) : blsOf (bs.map D.bl) = some bs := by
  induction bs with
  | nil => rfl
  | cons s ss ih => simp [blsOf, ih]
@[simp] theorem intsOf_map (bs : List Int) : intsOf (bs.map D.int) = some bs := by
  induction bs with
  | nil => rfl
  | cons s ss ih => simp [intsOf, ih]
end Dt
end
section
set_option maxRecDepth 100000
set_option maxHeartbeats 4000000
/-! WA: weakest preconditions of the readings, rule by rule. -/
namespace Dt
open PySem L2

def wp {α : Type} (f : M α) (env : Sl) (Q : α → Sl → Prop) (X : ExD → Sl → Prop) : Prop := match f env with
  | some (.ok a e) => Q a e
  | some (.exc x e) => X x e
  | none => False
structure Ps where
  rt : EV → Sl → Prop
  bk : Sl → Prop
  ct : Sl → Prop
  ex : ExD → Sl → Prop
def wps (f : S) (env : Sl) (N : Sl → Prop) (P : Ps) : Prop := match f env with
  | some (.nx e) => N e
  | some (.rt v e) => P.rt v e
  | some (.bk e) => P.bk e
  | some (.ct e) => P.ct e
  | some (.exc x e) => P.ex x e
  | none => False
def wpo {α : Type} (o : Option α) (K : α → Prop) : Prop := match o with
  | some a => K a
  | none => False
def NoX : ExD → Sl → Prop := fun _ _ => False
section
variable {α β : Type} {f : M α} {k : α → M β} {env e1 : Sl} {Q : α → Sl → Prop} {Q' : β → Sl → Prop} {X : ExD → Sl → Prop} {N : Sl → Prop} {P : Ps}
theorem wp_mono {R : α → Sl → Prop} {Y : ExD → Sl → Prop} (h : wp f env R Y) (k : ∀ a e, R a e → Q a e) (kx : ∀ x e, Y x e → X x e) : wp f env Q X := by
  unfold wp at h ⊢
  cases q : f env with
  | none => rw [q] at h; exact h
  | some r => rw [q] at h; cases r with
    | ok a e => exact k a e h
    | exc x e => exact kx x e h
theorem wp_bind (h : wp f env (fun a e => wp (k a) e Q' X) X) : wp (M.bind f k) env Q' X := by
  unfold wp at h ⊢
  unfold M.bind
  cases q : f env with
  | none => rw [q] at h; exact h
  | some r => rw [q] at h; cases r with
    | ok a e => exact h
    | exc x e => exact h
theorem wp_ret {a : α} (h : Q a env) : wp (M.ret a) env Q X := h
theorem wp_lift {o : Option α} (h : wpo o fun a => Q a env) : wp (lift o) env Q X := by
  unfold wp lift; cases o with
  | none => exact h
  | some a => exact h
theorem wpo_bind {o : Option α} {k : α → Option β} {K : β → Prop} (h : wpo o fun a => wpo (k a) K) : wpo (o.bind k) K := by
  cases o with
  | none => exact h
  | some a => exact h
theorem wpo_map {o : Option α} {k : α → β} {K : β → Prop} (h : wpo o fun a => K (k a)) : wpo (o.map k) K := by
  cases o with
  | none => exact h
  | some a => exact h
theorem wpo_of {o : Option α} {K : α → Prop} {a : α} (h : o = some a) (k : K a) : wpo o K := by rw [h]; exact k
end

/-! names, constants -/
section
variable {env e1 : Sl} {X : ExD → Sl → Prop} {N : Sl → Prop} {P : Ps}
theorem wp_oName_v {Q : AV → Sl → Prop} {i : Nat} {d : D} (h : env[i]? = some (.val d)) (k : Q (.v d) env) : wp (oName i) env Q X := by
  unfold wp oName; rw [h]; exact k
theorem wp_oName_o {Q : AV → Sl → Prop} {i : Nat} {c : OC} (h : env[i]? = some (.own c)) (k : Q (.s i) env) : wp (oName i) env Q X := by
  unfold wp oName; rw [h]; exact k
theorem wp_eName_v {Q : EV → Sl → Prop} {i : Nat} {d : D} (h : env[i]? = some (.val d)) (k : Q (.v d) env) : wp (eName i) env Q X := by
  unfold wp eName; rw [h]; exact k
theorem wp_eName_o {Q : EV → Sl → Prop} {i : Nat} {c : OC} {d : D} (h : env[i]? = some (.own c)) (hf : frzC c = some d) (k : ∀ e', env.set i (.val d) = e' → Q (.v d) e') : wp (eName i) env Q X := by
  unfold wp eName; rw [h]; dsimp only; rw [hf]; exact k _ rfl
theorem wp_toA {f : M EV} {Q : AV → Sl → Prop} (h : wp f env (fun ev e => wpo (frz ev) fun d => Q (.v d) e) X) : wp (toA f) env Q X := by
  unfold toA
  refine wp_bind (wp_mono h (fun a e q => ?_) fun _ _ q => q)
  cases z : frz a with
  | none => rw [z] at q; exact q.elim
  | some d => rw [z] at q; exact q
theorem wp_eC {Q : EV → Sl → Prop} {d : D} (k : Q (.v d) env) : wp (eC d) env Q X := k
theorem wp_opM {Q : EV → Sl → Prop} {op : D → D → Option EV} {x y : AV} {d1 d2 : D} (h1 : deref env x = some d1) (h2 : deref env y = some d2) (k : wpo (op d1 d2) fun r => Q r env) : wp (opM op x y) env Q X := by
  unfold wp opM; rw [h1, h2]; dsimp only [Option.bind]; unfold lift
  cases z : op d1 d2 with
  | none => rw [z] at k; exact k
  | some r => rw [z] at k; exact k
theorem wp_eOp {Q : EV → Sl → Prop} {op : D → D → Option EV} {fa fb : M AV} (h : wp fa env (fun x e => wp fb e (fun y e' => wp (opM op x y) e' Q X) X) X) : wp (eOp op fa fb) env Q X := by
  unfold eOp; exact wp_bind (wp_mono h (fun _ _ q => wp_bind q) fun _ _ q => q)
theorem wp_toB {Q : Bool → Sl → Prop} {f : M EV} (h : wp f env (fun v e => ∃ b, v = .v (.bl b) ∧ Q b e) X) : wp (toB f) env Q X := by
  unfold toB
  refine wp_bind (wp_mono h (fun a e q => ?_) fun _ _ q => q)
  obtain ⟨b, rfl, q⟩ := q
  exact q
theorem isbl {Q : Bool → Prop} {b : Bool} (h : Q b) : ∃ b', (EV.v (.bl b)) = .v (.bl b') ∧ Q b' := ⟨b, rfl, h⟩
theorem wp_eChain {Q : EV → Sl → Prop} {op op' : D → D → Option EV} {fa fb fc : M AV} (h : wp fa env (fun x e => wp fb e (fun y e2 => wp (opM op x y) e2 (fun v e3 => ∃ b, v = .v (.bl b) ∧ ((b = true → wp fc e3 (fun z e4 => wp (opM op' y z) e4 Q X) X) ∧ (b = false → Q (.v (.bl false)) e3))) X) X) X) : wp (eChain op op' fa fb fc) env Q X := by
  unfold eChain
  refine wp_bind (wp_mono h (fun _ _ q => wp_bind (wp_mono q (fun _ _ q => wp_bind (wp_toB (wp_mono q (fun v e q => ?_) fun _ _ q => q))) fun _ _ q => q)) fun _ _ q => q)
  obtain ⟨b, rfl, q1, q2⟩ := q
  refine ⟨b, rfl, ?_⟩
  cases b with
  | true => exact wp_bind (q1 rfl)
  | false => exact q2 rfl
theorem wp_bAnd {Q : Bool → Sl → Prop} {f g : M Bool} (h : wp f env (fun b e => (b = true → wp g e Q X) ∧ (b = false → Q false e)) X) : wp (bAnd f g) env Q X := by
  unfold bAnd
  refine wp_bind (wp_mono h (fun b e q => ?_) fun _ _ q => q)
  cases b with
  | true => exact q.1 rfl
  | false => exact q.2 rfl
theorem wp_bOr {Q : Bool → Sl → Prop} {f g : M Bool} (h : wp f env (fun b e => (b = true → Q true e) ∧ (b = false → wp g e Q X)) X) : wp (bOr f g) env Q X := by
  unfold bOr
  refine wp_bind (wp_mono h (fun b e q => ?_) fun _ _ q => q)
  cases b with
  | true => exact q.1 rfl
  | false => exact q.2 rfl
theorem wp_bNot {Q : Bool → Sl → Prop} {f : M Bool} (h : wp f env (fun b e => Q (!b) e) X) : wp (bNot f) env Q X := wp_bind h
theorem wp_eAnd {Q : EV → Sl → Prop} {f g : M EV} (h : wp f env (fun v e => ∃ b, v = .v (.bl b) ∧ ((b = true → wp g e Q X) ∧ (b = false → Q (.v (.bl false)) e))) X) : wp (eAnd f g) env Q X := by
  unfold eAnd
  refine wp_bind (wp_toB (wp_mono h (fun v e q => ?_) fun _ _ q => q))
  obtain ⟨b, rfl, q1, q2⟩ := q
  refine ⟨b, rfl, ?_⟩
  cases b with
  | true => exact q1 rfl
  | false => exact q2 rfl
theorem wp_eIf {Q : EV → Sl → Prop} {c : M Bool} {f g : M EV} (h : wp c env (fun b e => (b = true → wp f e Q X) ∧ (b = false → wp g e Q X)) X) : wp (eIf c f g) env Q X := by
  unfold eIf
  refine wp_bind (wp_mono h (fun b e q => ?_) fun _ _ q => q)
  cases b with
  | true => exact q.1 rfl
  | false => exact q.2 rfl
theorem wp_asNil {Q : List AV → Sl → Prop} (h : Q [] env) : wp asNil env Q X := h
theorem wp_asCons {Q : List AV → Sl → Prop} {f : M AV} {g : M (List AV)} (h : wp f env (fun a e => wp g e (fun as e' => Q (a :: as) e') X) X) : wp (asCons f g) env Q X := by
  unfold asCons
  exact wp_bind (wp_mono h (fun _ _ q => wp_bind q) fun _ _ q => q)
theorem wp_eTup {Q : EV → Sl → Prop} {g : M (List AV)} (h : wp g env (fun as e => wpo (vals as) fun ds => ds.length ≤ 4000 ∧ Q (.v (.tup ds)) e) X) : wp (eTup g) env Q X := by
  unfold eTup
  refine wp_bind (wp_mono h (fun as e q => ?_) fun _ _ q => q)
  cases z : vals as with
  | none => rw [z] at q; exact q.elim
  | some ds => rw [z] at q; unfold wp; dsimp only; rw [if_pos q.1]; exact q.2
theorem wp_eLst {Q : EV → Sl → Prop} {g : M (List AV)} (h : wp g env (fun as e => wpo (vals as) fun ds => ds.length ≤ 4000 ∧ Q (.o (.lst ds)) e) X) : wp (eLst g) env Q X := by
  unfold eLst
  refine wp_bind (wp_mono h (fun as e q => ?_) fun _ _ q => q)
  cases z : vals as with
  | none => rw [z] at q; exact q.elim
  | some ds => rw [z] at q; unfold wp; dsimp only; rw [if_pos q.1]; exact q.2
/-! calls -/
theorem wp_callM {Q : EV → Sl → Prop} {g : M EV} {as : List AV} {sl : Sl} (hn : (sidx as).Nodup) (ha : argsOf env as = some sl) (h : wp g sl (fun v o => ∀ e', back env as o = e' → Q v e') (fun x o => ∀ e', back env as o = e' → X x e')) : wp (callM g as) env Q X := by
  unfold wp callM
  rw [if_pos hn, ha]
  dsimp only [Option.bind]
  unfold wp at h
  cases z : g sl with
  | none => rw [z] at h; exact h
  | some r => rw [z] at h; cases r with
    | ok a e => exact h _ rfl
    | exc x e => exact h _ rfl
theorem wp_eCall {Q : EV → Sl → Prop} {g : M EV} {fs : M (List AV)} (h : wp fs env (fun as e => wp (callM g as) e Q X) X) : wp (eCall g fs) env Q X := wp_bind h
theorem wp_funD {Q : EV → Sl → Prop} {n np : Nat} {body : S} {args env0 : Sl} (hn : args.length = np) (ha : args ++ List.replicate (n - np) .emp = env0) (h : wps body env0 (fun e => ∀ e', e.take np = e' → Q (.v .non) e') ⟨fun v e => ∀ e', e.take np = e' → Q v e', fun _ => False, fun _ => False, fun x e => ∀ e', e.take np = e' → X x e'⟩) : wp (funD n np body) args Q X := by
  unfold wp funD
  rw [if_pos hn, ha]
  unfold wps at h
  cases z : body env0 with
  | none => rw [z] at h; exact h
  | some r => rw [z] at h; cases r with
    | nx e => exact h _ rfl
    | rt v e => exact h _ rfl
    | bk e => exact h
    | ct e => exact h
    | exc x e => exact h _ rfl
/-- a def of self and *rest -/
theorem wp_funV {Q : EV → Sl → Prop} {n : Nat} {body : S} {a : Slot} {rest : Sl} {ds : List D} (hv : valsOf rest = some ds) (hl : ds.length ≤ 5000) (h : wp (funD n 2 body) [a, .val (.tup ds)] (fun v e => ∃ a' r, e = a' :: r ∧ Q v (a' :: rest)) (fun x e => ∃ a' r, e = a' :: r ∧ X x (a' :: rest))) : wp (funV n body) (a :: rest) Q X := by
  unfold wp funV
  dsimp only
  rw [hv]
  dsimp only [Option.bind]
  rw [if_pos hl]
  unfold wp at h
  cases z : funD n 2 body [a, .val (.tup ds)] with
  | none => rw [z] at h; exact h
  | some r => rw [z] at h; cases r with
    | ok v e => obtain ⟨a', r, rfl, q⟩ := h; exact q
    | exc x e => obtain ⟨a', r, rfl, q⟩ := h; exact q
theorem isCons {a : Slot} {r : Sl} {K : Slot → Prop} (h : K a) : ∃ a' r', a :: r = a' :: r' ∧ K a' := ⟨a, r, rfl, h⟩
end

/-! statements -/
section
variable {env e1 : Sl} {X : ExD → Sl → Prop} {N : Sl → Prop} {P : Ps}
theorem wps_sE {α : Type} {f : M α} {k : α → S} (h : wp f env (fun a e => wps (k a) e N P) P.ex) : wps (sE f k) env N P := by
  unfold wps sE
  unfold wp at h
  cases z : f env with
  | none => rw [z] at h; exact h
  | some r => rw [z] at h; cases r with
    | ok a e => exact h
    | exc x e => exact h
theorem wps_seq {f g : S} (h : wps f env (fun e => wps g e N P) P) : wps (sSeq f g) env N P := by
  unfold wps sSeq
  unfold wps at h
  cases z : f env with
  | none => rw [z] at h; exact h
  | some r => rw [z] at h; cases r with
    | nx e => exact h
    | rt v e => exact h
    | bk e => exact h
    | ct e => exact h
    | exc x e => exact h
theorem wps_nil (h : N env) : wps sNil env N P := h
theorem wps_expr {f : M EV} (h : wp f env (fun _ e => N e) P.ex) : wps (sExpr f) env N P := wps_sE h
theorem wps_ret {f : M EV} (h : wp f env (fun v e => P.rt v e) P.ex) : wps (sRet f) env N P := wps_sE h
theorem wps_if {c : M Bool} {f g : S} (h : wp c env (fun b e => (b = true → wps f e N P) ∧ (b = false → wps g e N P)) P.ex) : wps (sIf c f g) env N P := by
  refine wps_sE (wp_mono h (fun b e q => ?_) fun _ _ q => q)
  cases b with
  | true => exact q.1 rfl
  | false => exact q.2 rfl
theorem wps_set {i : Nat} {f : M EV} (h : wp f env (fun v e => ∀ e', e.set i (slotOf v) = e' → N e') P.ex) : wps (sSet i f) env N P :=
  wps_sE (wp_mono h (fun _ _ q => q _ rfl) fun _ _ q => q)
theorem wps_retV_v {np : Nat → Bool} {i : Nat} {d : D} (h : env[i]? = some (.val d)) (k : P.rt (.v d) env) : wps (sRetV np i) env N P := by
  unfold wps sRetV; rw [h]; exact k
theorem wps_retV_o {np : Nat → Bool} {i : Nat} {c : OC} (h : env[i]? = some (.own c)) (hn : np i = false) (k : ∀ e', env.set i .emp = e' → P.rt (.o c) e') : wps (sRetV np i) env N P := by
  unfold wps sRetV; rw [h]; dsimp only; rw [if_pos hn]; exact k _ rfl
theorem wps_par {i j : Nat} {f g : M EV} (h : wp f env (fun a e => wp g e (fun b e2 => ∀ e', (e2.set j (slotOf b)).set i (slotOf a) = e' → N e') P.ex) P.ex) : wps (sPar i j f g) env N P := by
  unfold wps sPar
  unfold wp at h
  cases z : f env with
  | none => rw [z] at h; exact h
  | some r => rw [z] at h; cases r with
    | exc x e => exact h
    | ok a e =>
      dsimp only at h ⊢
      cases z2 : g e with
      | none => rw [z2] at h; exact h
      | some r => rw [z2] at h; cases r with
        | exc x e => exact h
        | ok b e2 => exact h _ rfl
theorem wps_for {f : M (List D)} {t : D → Sl → Option Sl} {body : S} (h : wp f env (fun ds e => wps (forL t body ds) e N P) P.ex) : wps (sFor f t body) env N P := wps_sE h
/-- a loop: I of what is done -/
theorem forW {α : Type} {inj : α → D} {t : D → Sl → Option Sl} {body : S} (I : List α → Sl → Prop) : ∀ (l pre : List α) (env : Sl), I pre env → (∀ mid a post, l = mid ++ a :: post → ∀ e, I (pre ++ mid) e → ∃ e1, t (inj a) e = some e1 ∧ wps body e1 (I (pre ++ mid ++ [a])) ⟨P.rt, N, I (pre ++ mid ++ [a]), P.ex⟩) → (∀ e, I (pre ++ l) e → N e) → wps (forL t body (l.map inj)) env N P
  | [], pre, env, h, _, hN => by show N env; exact hN env (by simpa using h)
  | a :: l, pre, env, h, st, hN => by
    obtain ⟨e1, h1, h2⟩ := st [] a l rfl env (by simpa using h)
    unfold wps at h2 ⊢
    rw [List.map_cons]
    unfold forL
    rw [h1]
    dsimp only
    have go : ∀ e, I (pre ++ [a]) e → wps (forL t body (l.map inj)) e N P := fun e he => forW I l (pre ++ [a]) e he (fun mid b post hm e he => by
      have := st (a :: mid) b post (by rw [hm]; rfl) e (by simpa using he)
      simpa using this) fun e he => hN e (by simpa using he)
    cases z : body e1 with
    | none => rw [z] at h2; exact h2
    | some r => rw [z] at h2; cases r with
      | nx e => exact go e (by simpa using h2)
      | ct e => exact go e (by simpa using h2)
      | bk e => exact h2
      | rt v e => exact h2
      | exc x e => exact h2
theorem wps_forI {α : Type} {inj : α → D} {t : D → Sl → Option Sl} {body : S} {l : List α} (I : List α → Sl → Prop) (h0 : I [] env) (st : ∀ pre a post, l = pre ++ a :: post → ∀ e, I pre e → ∃ e1, t (inj a) e = some e1 ∧ wps body e1 (I (pre ++ [a])) ⟨P.rt, N, I (pre ++ [a]), P.ex⟩) (hN : ∀ e, I l e → N e) : wps (forL t body (l.map inj)) env N P :=
  forW I l [] env h0 (fun mid a post hm e he => by simpa using st mid a post hm e (by simpa using he)) fun e he => hN e (by simpa using he)
/-- .. over 0, 1, .. n - 1 -/
theorem wps_forN {t : D → Sl → Option Sl} {body : S} {n : Nat} (I : Nat → Sl → Prop) (h0 : I 0 env) (st : ∀ j e, j < n → I j e → ∃ e1, t (.int (j : Int)) e = some e1 ∧ wps body e1 (I (j + 1)) ⟨P.rt, N, I (j + 1), P.ex⟩) (hN : ∀ e, I n e → N e) : wps (forL t body (rangeD 0 (n : Int))) env N P := by
  have e : rangeD 0 (n : Int) = (List.range n).map fun i : Nat => D.int (i : Int) := by simp [rangeD]
  rw [e]
  refine wps_forI (fun pre => I pre.length) h0 (fun pre a post hp e he => ?_) fun e he => hN e (by simpa using he)
  have h1 := congrArg List.length hp
  rw [List.length_range, List.length_append, List.length_cons] at h1
  have h2 : (List.range n)[pre.length]? = some a := by rw [hp]; simp
  have h3 : pre.length = a := by
    rw [List.getElem?_range (by omega)] at h2
    exact Option.some.inj h2
  subst h3
  simpa using st pre.length e (by omega) he
theorem wps_while {fuel : Nat} {c : M Bool} {body : S} (I : Nat → Sl → Prop) : ∀ (fuel m : Nat) (env : Sl), m < fuel → I m env → (∀ m e, I m e → wp c e (fun b e1 => (b = true → wps body e1 (fun e2 => ∃ m', m' < m ∧ I m' e2) ⟨P.rt, N, fun e2 => ∃ m', m' < m ∧ I m' e2, P.ex⟩) ∧ (b = false → N e1)) P.ex) → wps (whileL c body fuel) env N P
  | 0, m, env, h, _, _ => absurd h (by omega)
  | fuel + 1, m, env, h, hi, st => by
    have h1 := st m env hi
    unfold wps whileL
    unfold wp at h1
    cases z : c env with
    | none => rw [z] at h1; exact h1
    | some r => rw [z] at h1; cases r with
      | exc x e => exact h1
      | ok b e =>
        cases b with
        | false => exact h1.2 rfl
        | true =>
          have h2 := h1.1 rfl
          unfold wps at h2
          dsimp only
          have go : ∀ e, (∃ m', m' < m ∧ I m' e) → wps (whileL c body fuel) e N P := fun e ⟨m', hm, he⟩ => wps_while (fuel := fuel) I fuel m' e (by omega) he st
          cases z2 : body e with
          | none => rw [z2] at h2; exact h2
          | some r => rw [z2] at h2; cases r with
            | nx e => exact go e h2
            | ct e => exact go e h2
            | bk e => exact h2
            | rt v e => exact h2
            | exc x e => exact h2
end
end Dt
end
section
set_option maxRecDepth 100000
set_option maxHeartbeats 4000000
/-! WB: weakest preconditions: built-in calls, mutation, comprehensions, objects. -/
namespace Dt
open PySem L2
inductive All2 {α β : Type} (R : α → β → Prop) : List α → List β → Prop
  | nil : All2 R [] []
  | cons {a : α} {b : β} {as : List α} {bs : List β} : R a b → All2 R as bs → All2 R (a :: as) (b :: bs)
theorem All2.length {α β : Type} {R : α → β → Prop} {as : List α} {bs : List β} (h : All2 R as bs) : as.length = bs.length := by
  induction h with
  | nil => rfl
  | cons _ _ ih => simp [ih]
theorem All2.mem {α β : Type} {R : α → β → Prop} {as : List α} {bs : List β} (h : All2 R as bs) : ∀ b ∈ bs, ∃ a, a ∈ as ∧ R a b := by
  induction h with
  | nil => intro b hb; cases hb
  | cons h1 _ ih =>
    intro b hb
    rcases List.mem_cons.mp hb with rfl | hb
    · exact ⟨_, List.mem_cons_self .., h1⟩
    · obtain ⟨a, h2, h3⟩ := ih b hb
      exact ⟨a, List.mem_cons_of_mem _ h2, h3⟩
/-- what each gives, as typed data -/
theorem All2.typed {α β γ : Type} {P : γ → Prop} {i : γ → β} {as : List α} {bs : List β} (h : All2 (fun _ b => ∃ c, b = i c ∧ P c) as bs) : ∃ cs : List γ, bs = cs.map i ∧ cs.length = as.length ∧ ∀ c ∈ cs, P c := by
  induction h with
  | nil => exact ⟨[], rfl, rfl, fun _ h => by cases h⟩
  | cons h1 _ ih =>
    obtain ⟨c, rfl, hc⟩ := h1
    obtain ⟨cs, rfl, h2, h3⟩ := ih
    refine ⟨c :: cs, rfl, by simp [h2], fun x hx => ?_⟩
    rcases List.mem_cons.mp hx with rfl | hx
    · exact hc
    · exact h3 x hx
section
variable {env : Sl} {X : ExD → Sl → Prop} {N : Sl → Prop} {P : Ps}
theorem wp_bM {Q : EV → Sl → Prop} {op : List D → Option EV} {as : List AV} {ds : List D} (h : derefs env as = some ds) (k : wpo (op ds) fun r => Q r env) : wp (bM op as) env Q X := by
  unfold wp bM; rw [h]; dsimp only [Option.bind]; unfold lift
  cases z : op ds with
  | none => rw [z] at k; exact k
  | some r => rw [z] at k; exact k
theorem wp_eB {Q : EV → Sl → Prop} {op : List D → Option EV} {fs : M (List AV)} (h : wp fs env (fun as e => wp (bM op as) e Q X) X) : wp (eB op fs) env Q X := wp_bind h
theorem wp_tyM {Q : EV → Sl → Prop} {ty : D → Bool} {a : AV} {m : M EV} {d : D} (h : deref env a = some d) (ht : ty d = true) (k : wp m env Q X) : wp (tyM ty a m) env Q X := by
  unfold wp tyM; rw [h]; dsimp only; rw [if_pos ht]; exact k
theorem wp_eBM {Q : EV → Sl → Prop} {ty : D → Bool} {op : List D → Option EV} {fo : M AV} {fs : M (List AV)} (h : wp fo env (fun a e => wp (tyM ty a (M.bind fs fun as => bM op (a :: as))) e Q X) X) : wp (eBM ty op fo fs) env Q X := wp_bind h
/-! mutation -/
def wpMut (op : List D → List D → Option (D × List D)) (i : Nat) (as : List AV) (e : Sl) (Q : EV → Sl → Prop) : Prop := ∃ xs ds p, e[i]? = some (.own (.lst xs)) ∧ vals as = some ds ∧ op xs ds = some p ∧ ∀ e', e.set i (.own (.lst p.2)) = e' → Q (.v p.1) e'
theorem wp_mutM {Q : EV → Sl → Prop} {op : List D → List D → Option (D × List D)} {i : Nat} {fs : M (List AV)} (h0 : ownLst env[i]? = true) (h : wp fs env (fun as e => wpMut op i as e Q) X) : wp (mutM op i fs) env Q X := by
  unfold mutM
  unfold wp; try dsimp only
  rw [if_pos h0]
  have : wp (M.bind fs fun as => fun env => match env[i]? with
    | some (.own (.lst xs)) => (vals as).bind fun ds => (op xs ds).bind fun p => some (.ok (.v p.1) (env.set i (.own (.lst p.2))))
    | _ => none) env Q X := by
    refine wp_bind (wp_mono h (fun as e q => ?_) fun _ _ q => q)
    obtain ⟨xs, ds, p, h1, h2, h3, h4⟩ := q
    unfold wp; try dsimp only
    rw [h1]
    dsimp only
    rw [h2]
    dsimp only [Option.bind]
    rw [h3]
    exact h4 _ rfl
  exact this
theorem wpMut_append {Q : EV → Sl → Prop} {i : Nat} {d : D} {xs : List D} {e : Sl} (h : e[i]? = some (.own (.lst xs))) (hl : xs.length < 1000000) (k : ∀ e', e.set i (.own (.lst (xs ++ [d]))) = e' → Q (.v .non) e') : wpMut opAppend i [.v d] e Q :=
  ⟨xs, [d], (.non, xs ++ [d]), h, rfl, if_pos hl, k⟩
theorem opPop_k {xs : List D} {k : Nat} {d : D} (hk : xs[k]? = some d) (hkb : k < 1000000) : opPop xs [.int (k : Int)] = some (d, xs.eraseIdx k) := by
  show (if 0 ≤ (k : Int) ∧ (k : Int) < 1000000 then xs[(k : Int).toNat]?.map fun d => (d, xs.eraseIdx (k : Int).toNat) else none) = _
  rw [if_pos ⟨by omega, by omega⟩, Int.toNat_natCast, hk]
  rfl
theorem wpMut_pop {Q : EV → Sl → Prop} {i : Nat} {j : Int} {d : D} {xs : List D} {e : Sl} (h : e[i]? = some (.own (.lst xs))) (h0 : 0 ≤ j) (hl : j < 1000000) (hd : xs[j.toNat]? = some d) (k : ∀ e', e.set i (.own (.lst (xs.eraseIdx j.toNat))) = e' → Q (.v d) e') : wpMut opPop i [.v (.int j)] e Q := by
  refine ⟨xs, [.int j], (d, xs.eraseIdx j.toNat), h, rfl, ?_, k⟩
  have := opPop_k hd (by omega)
  rwa [show ((j.toNat : Nat) : Int) = j by omega] at this
theorem wp_atV {α : Type} {Q : α → Sl → Prop} {f : M AV} {k : D → M α} (h : wp f env (fun a e => ∃ d, a = .v d ∧ wp (k d) e Q X) X) : wp (atV f k) env Q X := by
  unfold atV
  refine wp_bind (wp_mono h (fun a e q => ?_) fun _ _ q => q)
  obtain ⟨d, rfl, q⟩ := q
  exact q
theorem isV {Q : D → Prop} {d : D} (h : Q d) : ∃ d', AV.v d = .v d' ∧ Q d' := ⟨d, rfl, h⟩
theorem wp_grd {α : Type} {Q : α → Sl → Prop} {x : Nat} {m : M α} (h : isOwn env[x]? = true) (k : wp m env Q X) : wp (grd x m) env Q X := by
  unfold wp grd; rw [if_pos h]; exact k
theorem wp_setLM {Q : Unit → Sl → Prop} {x : Nat} {d : D} {k : Int} {xs : List D} {j : Nat} (h : env[x]? = some (.own (.lst xs))) (hj : ixN xs.length k = some j) (q : ∀ e', env.set x (.own (.lst (xs.set j d))) = e' → Q () e') : wp (setLM x d (.int k)) env Q X := by
  unfold wp setLM; rw [h]; dsimp only; rw [hj]; exact q _ rfl
theorem wp_setDM {Q : Unit → Sl → Prop} {x : Nat} {d kd : D} {key : Key} {ks : List Key} {vs : List D} (h : env[x]? = some (.own (.dic ks vs))) (hk : keyD kd = some key) (hl : ks.length < 1000000) (he : ks.length = vs.length) (hn : ks.Nodup) (q : ∀ e', env.set x (.own (.dic (dicPut ks vs key d).1 (dicPut ks vs key d).2)) = e' → Q () e') : wp (setDM x d kd) env Q X := by
  unfold wp setDM; rw [h]; dsimp only; rw [hk]; dsimp only [Option.bind]; rw [if_pos ⟨hl, he, hn⟩]; exact q _ rfl
theorem wps_setL {x : Nat} {fe fi : M AV} (h : wp (atV fe fun d => grd x (atV fi fun kd => setLM x d kd)) env (fun _ e => N e) P.ex) : wps (sSetL x fe fi) env N P := wps_sE h
theorem wps_setD {x : Nat} {fe fi : M AV} (h : wp (atV fe fun d => grd x (atV fi fun kd => setDM x d kd)) env (fun _ e => N e) P.ex) : wps (sSetD x fe fi) env N P := wps_sE h
theorem wp_eDict0 {Q : EV → Sl → Prop} (h : Q (.o (.dic [] [])) env) : wp eDict0 env Q X := h
/-! what is walked -/
theorem wp_iOf {Q : List D → Sl → Prop} {f : M EV} (h : wp f env (fun ev e => wpo (frz ev) fun d => wpo (itemsOf d) fun ds => Q ds e) X) : wp (iOf f) env Q X := by
  unfold iOf
  refine wp_bind (wp_mono h (fun ev e q => ?_) fun _ _ q => q)
  cases z : frz ev with
  | none => rw [z] at q; exact q.elim
  | some d =>
    rw [z] at q
    dsimp only
    exact wp_lift q
theorem wp_iRange1 {Q : List D → Sl → Prop} {fs : M (List AV)} (h : wp fs env (fun as e => ∃ j, as = [.v (.int j)] ∧ (-1000000 ≤ j ∧ j ≤ 1000000) ∧ Q (rangeD 0 j) e) X) : wp (iRange1 fs) env Q X := by
  unfold iRange1
  refine wp_bind (wp_mono h (fun as e q => ?_) fun _ _ q => q)
  obtain ⟨j, rfl, h1, h2⟩ := q
  unfold wp; dsimp only
  rw [if_pos (show small62 j = true from decide_eq_true h1)]
  exact h2
theorem is1i {K : Int → Prop} {j : Int} (h : K j) : ∃ j', [AV.v (.int j)] = [.v (.int j')] ∧ K j' := ⟨j, rfl, h⟩
theorem wp_iEnum1 {Q : List D → Sl → Prop} {fs : M (List AV)} (h : wp fs env (fun as e => ∃ d, as = [.v d] ∧ wpo (itemsOf d) fun ds => Q (enumL 0 ds) e) X) : wp (iEnum1 fs) env Q X := by
  unfold iEnum1
  refine wp_bind (wp_mono h (fun as e q => ?_) fun _ _ q => q)
  obtain ⟨d, rfl, h1⟩ := q
  dsimp only
  exact wp_lift (wpo_map h1)
theorem is1v {K : D → Prop} {d : D} (h : K d) : ∃ d', [AV.v d] = [.v d'] ∧ K d' := ⟨d, rfl, h⟩
theorem wp_iZip2 {Q : List D → Sl → Prop} {fs : M (List AV)} (h : wp fs env (fun as e => ∃ a b, as = [.v a, .v b] ∧ wpo (itemsOf a) fun x => wpo (itemsOf b) fun y => Q (zipL x y) e) X) : wp (iZip2 fs) env Q X := by
  unfold iZip2
  refine wp_bind (wp_mono h (fun as e q => ?_) fun _ _ q => q)
  obtain ⟨a, b, rfl, h1⟩ := q
  dsimp only
  refine wp_lift (wpo_bind ?_)
  cases z : itemsOf a with
  | none => rw [z] at h1; exact h1
  | some x => rw [z] at h1; exact wpo_map h1
theorem is2v {K : D → D → Prop} {a b : D} (h : K a b) : ∃ a' b', [AV.v a, AV.v b] = [.v a', .v b'] ∧ K a' b' := ⟨a, b, rfl, h⟩
theorem wp_eSlice {Q : EV → Sl → Prop} {fa : M AV} {fl fh : M (Option Int)} (h : wp fa env (fun a e => wp fl e (fun lo e2 => wp fh e2 (fun hi e3 => wpo (deref e3 a) fun d => wpo (sliceD d lo hi) fun r => Q r e3) X) X) X) : wp (eSlice fa fl fh) env Q X := by
  unfold eSlice
  refine wp_bind (wp_mono h (fun a e q => wp_bind (wp_mono q (fun lo e q => wp_bind (wp_mono q (fun hi e3 q => ?_) fun _ _ q => q)) fun _ _ q => q)) fun _ _ q => q)
  unfold wp; try dsimp only
  cases z : deref e3 a with
  | none => rw [z] at q; exact q.elim
  | some d =>
    rw [z] at q
    dsimp only [Option.bind]
    exact wp_lift q
theorem wp_pNo {Q : Option Int → Sl → Prop} (h : Q none env) : wp pNo env Q X := h
theorem wp_pYes {Q : Option Int → Sl → Prop} {f : M AV} (h : wp f env (fun a e => ∃ i, a = .v (.int i) ∧ Q (some i) e) X) : wp (pYes f) env Q X := by
  unfold pYes
  refine wp_bind (wp_mono h (fun a e q => ?_) fun _ _ q => q)
  obtain ⟨i, rfl, q⟩ := q
  exact q
theorem isI {K : Int → Prop} {i : Int} (h : K i) : ∃ i', AV.v (.int i) = .v (.int i') ∧ K i' := ⟨i, rfl, h⟩
theorem wp_eIsi {Q : EV → Sl → Prop} {I : IsT} {fa : M AV} (h : wp fa env (fun a e => wpo (eIsi.objIs e a) fun d => wpo (isiB I d) fun b => Q (.v (.bl b)) e) X) : wp (eIsi I fa) env Q X := by
  unfold eIsi
  refine wp_bind (wp_mono h (fun a e q => ?_) fun _ _ q => q)
  unfold wp; try dsimp only
  cases z : eIsi.objIs e a with
  | none => rw [z] at q; exact q.elim
  | some d =>
    rw [z] at q
    dsimp only [Option.bind]
    exact wp_lift (wpo_map q)
theorem wp_eNeg {Q : EV → Sl → Prop} {fa : M AV} (h : wp fa env (fun a e => ∃ i, a = .v (.int i) ∧ Q (.v (.int (-i))) e) X) : wp (eNeg fa) env Q X := by
  unfold eNeg
  refine wp_bind (wp_mono h (fun a e q => ?_) fun _ _ q => q)
  obtain ⟨i, rfl, q⟩ := q
  exact q
/-! objects -/
theorem wp_eFld {Q : EV → Sl → Prop} {fi : Nat → Option Nat} {fa : M AV} (h : wp fa env (fun a e => wpo (objOf e a) fun p => wpo (fi p.1) fun j => wpo (p.2[j]?) fun d => Q (.v d) e) X) : wp (eFld fi fa) env Q X := by
  unfold eFld
  refine wp_bind (wp_mono h (fun a e q => ?_) fun _ _ q => q)
  unfold wp; try dsimp only
  cases z : objOf e a with
  | none => rw [z] at q; exact q.elim
  | some p =>
    rw [z] at q
    dsimp only [Option.bind] at q ⊢
    unfold wpo at q
    dsimp only at q
    cases z2 : fi p.1 with
    | none => rw [z2] at q; exact q.elim
    | some j =>
      rw [z2] at q
      dsimp only
      exact wp_lift (wpo_map q)
theorem wp_setFM {Q : Unit → Sl → Prop} {x : Nat} {fi : Nat → Option Nat} {d : D} {t j : Nat} {ds : List D} (h : env[x]? = some (.own (.ins t ds))) (hf : fi t = some j) (hj : j = ds.length) (q : ∀ e', env.set x (.own (.ins t (ds ++ [d]))) = e' → Q () e') : wp (setFM x fi d) env Q X := by
  unfold wp setFM; rw [h]; dsimp only; rw [hf]; dsimp only [Option.bind]; rw [if_pos hj]; exact q _ rfl
theorem wps_setF {x : Nat} {fi : Nat → Option Nat} {fe : M AV} (h : wp (atV fe fun d => setFM x fi d) env (fun _ e => N e) P.ex) : wps (sSetF x fi fe) env N P := wps_sE h
theorem wp_eProp {Q : EV → Sl → Prop} {mt : Nat → Option (M EV)} {fa : M AV} (h : wp fa env (fun a e => wpo (objOf e a) fun p => wpo (mt p.1) fun g => wp (callM g [a]) e Q NoX) X) : wp (eProp mt fa) env Q X := by
  unfold eProp
  refine wp_bind (wp_mono h (fun a e q => ?_) fun _ _ q => q)
  unfold wp; try dsimp only
  cases z : objOf e a with
  | none => rw [z] at q; exact q.elim
  | some p =>
    rw [z] at q
    dsimp only [Option.bind] at q ⊢
    unfold wpo at q
    dsimp only at q
    cases z2 : mt p.1 with
    | none => rw [z2] at q; exact q.elim
    | some g =>
      rw [z2] at q
      dsimp only at q ⊢
      unfold wp at q
      cases z3 : callM g [a] e with
      | none => rw [z3] at q; exact q.elim
      | some r => rw [z3] at q; cases r with
        | ok v e => exact q
        | exc x e => exact q.elim
theorem wp_eCMeth {Q : EV → Sl → Prop} {C : Addr} {g : M EV} {fs : M (List AV)} (h : wp fs env (fun as e => wp (callM g (.v (.raw (.ref C)) :: as)) e Q X) X) : wp (eCMeth C g fs) env Q X := wp_bind h
/-- an object made: its own slot stands behind the others -/
theorem wp_makeM {Q : EV → Sl → Prop} {t : Nat} {g : M EV} {as : List AV} {sl : Sl} (hn : (sidx (.s env.length :: as)).Nodup) (ha : argsOf (env ++ [.own (.ins t [])]) (.s env.length :: as) = some sl)
    (h : wp g sl (fun v o => v = .v .non ∧ ∃ ds o', o = .own (.ins t ds) :: o' ∧ ds.length = (FL t).length ∧ ∀ e', (back (env ++ [.own (.ins t [])]) (.s env.length :: as) o).take env.length = e' → ((back (env ++ [.own (.ins t [])]) (.s env.length :: as) o)[env.length]? = some (.own (.ins t ds)) ∧ Q (.v (.obj t ds)) e')) (fun x o => ∀ e', (back (env ++ [.own (.ins t [])]) (.s env.length :: as) o).take env.length = e' → X x e')) : wp (makeM t g as) env Q X := by
  unfold wp makeM
  unfold callM
  rw [if_pos hn, ha]
  dsimp only [Option.bind]
  unfold wp at h
  cases z : g sl with
  | none => rw [z] at h; exact h
  | some r => rw [z] at h; cases r with
    | exc x o => exact h _ rfl
    | ok v o =>
      obtain ⟨rfl, ds, o', rfl, h1, h2⟩ := h
      obtain ⟨h3, h4⟩ := h2 _ rfl
      dsimp only
      rw [h3]
      dsimp only
      rw [if_pos ⟨rfl, h1⟩]
      exact h4
theorem wp_eMakeS {Q : EV → Sl → Prop} {t : Nat} {g : M EV} {fa : M AV} (h : wp fa env (fun a e => wpo (deref e a) fun d => wpo (starD d) fun ds => wp (makeM t g (ds.map AV.v)) e Q X) X) : wp (eMakeS t g fa) env Q X := by
  unfold eMakeS
  refine wp_bind (wp_mono h (fun a e q => ?_) fun _ _ q => q)
  unfold wp; try dsimp only
  cases z : deref e a with
  | none => rw [z] at q; exact q.elim
  | some d =>
    rw [z] at q
    dsimp only [Option.bind] at q ⊢
    unfold wpo at q
    dsimp only at q
    cases z2 : starD d with
    | none => rw [z2] at q; exact q.elim
    | some ds => rw [z2] at q; exact q
theorem wp_eMakeSL {Q : EV → Sl → Prop} {i : Nat} {C : Addr} {t : Nat} {g : M EV} {fa : M AV} (h0 : env[i]? = some (.val (.raw (.ref C)))) (h : wp (eMakeS t g fa) env Q X) : wp (eMakeSL i C t g fa) env Q X := by
  unfold wp eMakeSL; rw [h0]; dsimp only; rw [if_pos rfl]; exact h
/-! comprehensions -/
def wpc (vs : List Nat) (t : D → Sl → Option Sl) (c : M Bool) (f : M EV) (ds : List D) (acc : List D) (env : Sl) (K : List D → Sl → Prop) : Prop := match compL vs t c f ds acc env with
  | some (xs, e) => K xs e
  | none => False
theorem wp_eComp {Q : EV → Sl → Prop} {vs : List Nat} {items : M (List D)} {t : D → Sl → Option Sl} {c : M Bool} {f : M EV} (h : wp items env (fun ds e => ∀ e', wipeE e vs = e' → wpc vs t c f ds [] e' fun xs e2 => Q (.o (.lst xs)) e2) X) : wp (eComp vs items t c f) env Q X := by
  unfold eComp
  refine wp_bind (wp_mono h (fun ds e q => ?_) fun _ _ q => q)
  have q := q _ rfl
  unfold wpc at q
  unfold wp; try dsimp only
  cases z : compL vs t c f ds [] (wipeE e vs) with
  | none => rw [z] at q; exact q
  | some p => rw [z] at q; exact q
section
variable {vs : List Nat} {t : D → Sl → Option Sl} {c : M Bool} {f : M EV} {K : List D → Sl → Prop} {acc : List D}
theorem wpc_cons {d : D} {ds : List D} (h : ∃ e1, t d env = some e1 ∧ wp c e1 (fun b e2 => (b = true → wp f e2 (fun v e3 => wpo (frz v) fun x => ∀ e', wipeE e3 vs = e' → wpc vs t c f ds (acc ++ [x]) e' K) NoX) ∧ (b = false → ∀ e', wipeE e2 vs = e' → wpc vs t c f ds acc e' K)) NoX) : wpc vs t c f (d :: ds) acc env K := by
  obtain ⟨e1, h1, h2⟩ := h
  unfold wpc compL
  rw [h1]
  unfold wp at h2
  dsimp only
  cases z : c e1 with
  | none => rw [z] at h2; exact h2
  | some r => rw [z] at h2; cases r with
    | exc x e => exact h2.elim
    | ok b e2 =>
      cases b with
      | false => exact h2.2 rfl _ rfl
      | true =>
        have h3 := h2.1 rfl
        dsimp only at h3 ⊢
        cases z2 : f e2 with
        | none => rw [z2] at h3; exact h3
        | some r => rw [z2] at h3; cases r with
          | exc x e => exact h3.elim
          | ok v e3 =>
            dsimp only at h3 ⊢
            cases z3 : frz v with
            | none => rw [z3] at h3; exact h3
            | some x => rw [z3] at h3; exact h3 _ rfl
/-- I of what is walked and what is made -/
theorem wpc_I {α : Type} {inj : α → D} (I : List α → List D → Sl → Prop) : ∀ (l pre : List α) (acc : List D) (env : Sl), I pre acc env → (∀ mid a post, l = mid ++ a :: post → ∀ acc e, I (pre ++ mid) acc e → ∃ e1, t (inj a) e = some e1 ∧ wp c e1 (fun b e2 => (b = true → wp f e2 (fun v e3 => wpo (frz v) fun x => ∀ e', wipeE e3 vs = e' → I (pre ++ mid ++ [a]) (acc ++ [x]) e') NoX) ∧ (b = false → ∀ e', wipeE e2 vs = e' → I (pre ++ mid ++ [a]) acc e')) NoX) → (∀ xs e, I (pre ++ l) xs e → K xs e) → wpc vs t c f (l.map inj) acc env K
  | [], pre, acc, env, h, _, hK => hK _ _ (by simpa using h)
  | a :: l, pre, acc, env, h, st, hK => by
    obtain ⟨e1, h1, h2⟩ := st [] a l rfl acc env (by simpa using h)
    have go : ∀ xs e, I (pre ++ [a]) xs e → wpc vs t c f (l.map inj) xs e K := fun xs e he => wpc_I I l (pre ++ [a]) xs e he (fun mid b post hm acc e he => by
      have := st (a :: mid) b post (by rw [hm]; rfl) acc e (by simpa using he)
      simpa using this) fun xs e he => hK xs e (by simpa using he)
    refine wpc_cons ⟨e1, h1, wp_mono h2 (fun b e2 q => ⟨fun hb => wp_mono (q.1 hb) (fun v e3 q => ?_) fun _ _ q => q, fun hb e' he' => go _ _ (by simpa using q.2 hb e' he')⟩) fun _ _ q => q⟩
    cases z : frz v with
    | none => rw [z] at q; exact q
    | some x => rw [z] at q; exact fun e' he' => go _ _ (by simpa using q e' he')
/-- without effects, all items -/
theorem wpc_map {α : Type} {inj : α → D} {l : List α} (g : α → D) (st : ∀ a, a ∈ l → ∃ e1, t (inj a) env = some e1 ∧ wp f e1 (fun v e3 => frz v = some (g a) ∧ wipeE e3 vs = env) NoX) (k : K (l.map g) env) : wpc vs t bYes f (l.map inj) [] env K := by
  refine wpc_I (fun pre xs e => xs = pre.map g ∧ e = env) l [] [] env ⟨rfl, rfl⟩ (fun mid a post hm acc e ⟨h1, h2⟩ => ?_) fun xs e ⟨h1, h2⟩ => by subst h1; subst h2; simpa using k
  subst h1; subst h2
  obtain ⟨e1, h3, h4⟩ := st a (by rw [hm]; simp)
  refine ⟨e1, h3, wp_ret ⟨fun _ => wp_mono h4 (fun v e3 q => ?_) fun _ _ q => q, fun h => by cases h⟩⟩
  rw [q.1]
  exact fun e' he' => ⟨by simp, by rw [← he', q.2]⟩
/-- without effects, those that pass -/
theorem wpc_filter {α : Type} {inj : α → D} {l : List α} (p : α → Bool) (g : α → D) (st : ∀ a, a ∈ l → ∃ e1, t (inj a) env = some e1 ∧ wp c e1 (fun b e2 => b = p a ∧ (b = true → wp f e2 (fun v e3 => frz v = some (g a) ∧ wipeE e3 vs = env) NoX) ∧ (b = false → wipeE e2 vs = env)) NoX) (k : K ((l.filter p).map g) env) : wpc vs t c f (l.map inj) [] env K := by
  refine wpc_I (fun pre xs e => xs = (pre.filter p).map g ∧ e = env) l [] [] env ⟨rfl, rfl⟩ (fun mid a post hm acc e ⟨h1, h2⟩ => ?_) fun xs e ⟨h1, h2⟩ => by subst h1; subst h2; simpa using k
  subst h1; subst h2
  obtain ⟨e1, h3, h4⟩ := st a (by rw [hm]; simp)
  refine ⟨e1, h3, wp_mono h4 (fun b e2 ⟨hb, q1, q2⟩ => ⟨fun h => wp_mono (q1 h) (fun v e3 q => ?_) fun _ _ q => q, fun h e' he' => ?_⟩) fun _ _ q => q⟩
  · rw [q.1]
    refine fun e' he' => ⟨?_, by rw [← he', q.2]⟩
    have : p a = true := by rw [← hb]; exact h
    simp [List.filter_append, this]
  · refine ⟨?_, by rw [← he', q2 h]⟩
    have : p a = false := by rw [← hb]; exact h
    simp [List.filter_append, this]
end
end
end Dt
end
section
set_option maxRecDepth 100000
set_option maxHeartbeats 4000000
/-! WC: operators and built-in functions on data of known kinds. -/
namespace Dt
open PySem L2
class Op2 (op : D → D → Option EV) (x y : D) (c : outParam Prop) (r : outParam EV) : Prop where
  of : c → op x y = some r
class Op1 (op : List D → Option EV) (ds : List D) (c : outParam Prop) (r : outParam EV) : Prop where
  of : c → op ds = some r
theorem wpo_op2 {op : D → D → Option EV} {x y : D} {c : Prop} {r : EV} {K : EV → Prop} [o : Op2 op x y c r] (h : c) (k : K r) : wpo (op x y) K := wpo_of (o.of h) k
theorem wpo_op1 {op : List D → Option EV} {ds : List D} {c : Prop} {r : EV} {K : EV → Prop} [o : Op1 op ds c r] (h : c) (k : K r) : wpo (op ds) K := wpo_of (o.of h) k
section
variable {a b : Int} {s u : List Nat} {xs ys : List D}
instance : Op2 addD (.int a) (.int b) True (.v (.int (a + b))) := ⟨fun _ => rfl⟩
instance : Op2 subD (.int a) (.int b) True (.v (.int (a - b))) := ⟨fun _ => rfl⟩
theorem opI2_of {c : Int → Int → Bool} {g : Int → Int → D} (h : c a b = true) : opI2 c g (.int a) (.int b) = some (.v (g a b)) := if_pos h
instance : Op2 mulX (.int a) (.int b) ((-18446744073709551616 < a ∧ a < 18446744073709551616) ∨ (-18446744073709551616 < b ∧ b < 18446744073709551616)) (.v (.int (a * b))) := ⟨fun h => by
  show orD (orD mulI _) _ _ _ = _
  unfold orD mulI
  rw [opI2_of (show okMul a b = true from decide_eq_true h)]⟩
instance : Op2 mulX (.str s) (.int b) ((s.length ≤ 100 ∧ 1 ≤ s.length) ∧ -1000 ≤ b ∧ b ≤ 1000) (.v (.str (repS s b))) := ⟨fun h => by
  show orD (orD mulI (orD mulS _)) _ _ _ = _
  have e : mulS (.str s) (.int b) = some (.v (.str (repS s b))) := if_pos h
  unfold orD
  rw [show mulI (.str s) (.int b) = none from rfl]
  dsimp only
  rw [e]⟩
instance : Op2 mulX (.lst xs) (.int b) (xs.length ≤ 1000 ∧ -1000 ≤ b ∧ b ≤ 1000) (.o (.lst (List.replicate b.toNat xs).flatten)) := ⟨fun h => by
  show orD (orD mulI (orD mulS (orD mulL mulT))) _ _ _ = _
  have e : mulL (.lst xs) (.int b) = some (.o (.lst (List.replicate b.toNat xs).flatten)) := if_pos h
  unfold orD
  rw [show mulI (.lst xs) (.int b) = none from rfl, show mulS (.lst xs) (.int b) = none from rfl]
  dsimp only
  rw [e]⟩
/-- (x, ..) * n -/
instance : Op2 mulX (.tup xs) (.int b) ((1 ≤ xs.length ∧ xs.length ≤ 1000) ∧ 1 ≤ b ∧ b ≤ 1000) (.v (.tup (List.replicate b.toNat xs).flatten)) := ⟨fun h => by
  show orD (orD mulI (orD mulS (orD mulL mulT))) mulT1 _ _ = _
  unfold orD
  rw [show mulI (.tup xs) (.int b) = none from rfl, show mulS (.tup xs) (.int b) = none from rfl, show mulL (.tup xs) (.int b) = none from rfl]
  dsimp only
  by_cases h1 : b = 1
  · subst h1
    rw [show mulT (.tup xs) (.int 1) = none from if_neg (by omega)]
    dsimp only
    rw [show mulT1 (.tup xs) (.int 1) = some (.v (.tup xs)) by simp [mulT1]]
    simp
  · rw [show mulT (.tup xs) (.int b) = some (.v (.tup (List.replicate b.toNat xs).flatten)) from if_pos ⟨h.1, by omega, h.2.2⟩]⟩
instance : Op2 divD (.int a) (.int b) (0 < b ∧ b < 1073741824) (.v (.int (a / b))) := ⟨fun h => opI2_of (decide_eq_true h)⟩
instance : Op2 modD (.int a) (.int b) (0 < b) (.v (.int (a % b))) := ⟨fun h => opI2_of (decide_eq_true h)⟩
instance : Op2 powD (.int a) (.int b) (-18446744073709551616 < a ∧ a < 18446744073709551616 ∧ 0 ≤ b ∧ b ≤ 1000000) (.v (.int (a ^ b.toNat))) := ⟨fun h => opI2_of (decide_eq_true (by omega))⟩
instance : Op2 ltD (.int a) (.int b) True (.v (.bl (decide (a < b)))) := ⟨fun _ => rfl⟩
instance : Op2 leD (.int a) (.int b) True (.v (.bl (decide (a ≤ b)))) := ⟨fun _ => rfl⟩
instance : Op2 leD (.str s) (.str u) True (.v (.bl (!decide (u < s)))) := ⟨fun _ => rfl⟩
instance : Op2 geD (.str s) (.str u) True (.v (.bl (!decide (s < u)))) := ⟨fun _ => rfl⟩
instance : Op2 gtI (.int a) (.int b) True (.v (.bl (decide (b < a)))) := ⟨fun _ => rfl⟩
instance : Op2 geD (.int a) (.int b) True (.v (.bl (decide (b ≤ a)))) := ⟨fun _ => rfl⟩
instance : Op2 addD (.str s) (.str u) (s.length + u.length ≤ 1000000) (.v (.str (s ++ u))) := ⟨fun h => by
  show (match addS (.str s) (.str u) with | some r => some r | none => _) = _
  rw [show addS (.str s) (.str u) = some (.v (.str (s ++ u))) from if_pos h]⟩
instance : Op2 addD (.lst xs) (.lst ys) (xs.length + ys.length ≤ 1000000) (.o (.lst (xs ++ ys))) := ⟨fun h => by
  show (match addL (.lst xs) (.lst ys) with | some r => some r | none => _) = _
  rw [show addL (.lst xs) (.lst ys) = some (.o (.lst (xs ++ ys))) from if_pos h]⟩
instance : Op2 addD (.tup xs) (.tup ys) (xs.length + ys.length ≤ 1000000) (.v (.tup (xs ++ ys))) := ⟨fun h => by
  show addT (.tup xs) (.tup ys) = _
  exact if_pos h⟩
instance : Op2 ltD (.str s) (.str u) True (.v (.bl (decide (s < u)))) := ⟨fun _ => rfl⟩
theorem eqD_sc {x y : D} (h : scalD x y = true) : eqD x y = some (vB (scEq x y)) := by
  show (match eqS x y with | some r => some r | none => _) = _
  rw [show eqS x y = some (vB (scEq x y)) from if_pos h]
theorem neD_sc {x y : D} (h : scalD x y = true) : neD x y = some (vB (!scEq x y)) := by
  show (match neS x y with | some r => some r | none => _) = _
  rw [show neS x y = some (vB (!scEq x y)) from if_pos h]
instance : Op2 eqD (.int a) (.int b) True (.v (.bl (a == b))) := ⟨fun _ => eqD_sc rfl⟩
instance : Op2 eqD (.str s) (.str u) True (.v (.bl (s == u))) := ⟨fun _ => eqD_sc rfl⟩
instance {p q : Bool} : Op2 eqD (.bl p) (.bl q) True (.v (.bl (p == q))) := ⟨fun _ => eqD_sc rfl⟩
instance : Op2 eqD (.int a) (.str u) True (.v (.bl false)) := ⟨fun _ => eqD_sc rfl⟩
instance : Op2 eqD (.str s) (.int a) True (.v (.bl false)) := ⟨fun _ => eqD_sc rfl⟩
instance : Op2 eqD .non .non True (.v (.bl true)) := ⟨fun _ => eqD_sc rfl⟩
instance : Op2 eqD .non (.str u) True (.v (.bl false)) := ⟨fun _ => eqD_sc rfl⟩
instance : Op2 eqD (.str u) .non True (.v (.bl false)) := ⟨fun _ => eqD_sc rfl⟩
instance : Op2 neD (.int a) (.int b) True (.v (.bl (!(a == b)))) := ⟨fun _ => neD_sc rfl⟩
instance : Op2 neD (.str s) (.str u) True (.v (.bl (!(s == u)))) := ⟨fun _ => neD_sc rfl⟩
instance {p q : Bool} : Op2 neD (.bl p) (.bl q) True (.v (.bl (!(p == q)))) := ⟨fun _ => neD_sc rfl⟩
instance : Op2 (isD false) .non .non True (.v (.bl true)) := ⟨fun _ => rfl⟩
instance : Op2 (isD false) (.int a) .non True (.v (.bl false)) := ⟨fun _ => rfl⟩
instance : Op2 (isD false) (.str s) .non True (.v (.bl false)) := ⟨fun _ => rfl⟩
instance : Op2 (isD false) (.tup xs) .non True (.v (.bl false)) := ⟨fun _ => rfl⟩
instance : Op2 (isD false) (.lst xs) .non True (.v (.bl false)) := ⟨fun _ => rfl⟩
instance {p : Bool} : Op2 (isD false) (.bl p) .non True (.v (.bl false)) := ⟨fun _ => rfl⟩
instance {ks : List Key} : Op2 (isD false) (.dic ks xs) .non True (.v (.bl false)) := ⟨fun _ => rfl⟩
instance : Op2 (isD true) .non .non True (.v (.bl false)) := ⟨fun _ => rfl⟩
instance : Op2 (isD true) (.int a) .non True (.v (.bl true)) := ⟨fun _ => rfl⟩
instance : Op2 (isD true) (.str s) .non True (.v (.bl true)) := ⟨fun _ => rfl⟩
instance : Op2 (isD true) (.tup xs) .non True (.v (.bl true)) := ⟨fun _ => rfl⟩
instance : Op2 (isD true) (.lst xs) .non True (.v (.bl true)) := ⟨fun _ => rfl⟩
instance {p q : Bool} : Op2 (isB false) (.bl p) (.bl q) True (.v (.bl (p == q))) := ⟨fun _ => by simp [isB, vB]⟩
/-! items -/
theorem ixN_nat {n k : Nat} (h : k < n) : ixN n (k : Int) = some k := by
  unfold ixN; rw [if_pos (by omega), if_pos (by omega)]; simp
theorem ixN_of {n : Nat} {i : Int} (h0 : 0 ≤ i) (h : i < n) : ixN n i = some i.toNat := by
  unfold ixN; rw [if_pos h0, if_pos h]
/-- an item of a list or a tuple -/
class IxD (x : D) (xs : outParam (List D)) : Prop where
  of : seqD x = some xs ∧ ∀ s, x ≠ .str s
instance : IxD (.lst xs) xs := ⟨rfl, fun _ h => by cases h⟩
instance : IxD (.tup xs) xs := ⟨rfl, fun _ h => by cases h⟩
instance {ns : List Int} : IxD (.scr ns) (ns.map D.int) := ⟨rfl, fun _ h => by cases h⟩
theorem ixD_of {x d : D} {i : Int} {k : Nat} [o : IxD x xs] (hi : ixN xs.length i = some k) (hd : xs[k]? = some d) : ixD x (.int i) = some (.v d) := by
  obtain ⟨h1, h2⟩ := o.of
  have h3 : atI xs i = some d := by unfold atI; rw [hi]; exact hd
  cases x with
  | str s => exact absurd rfl (h2 s)
  | lst zs => cases h1; simp only [ixD, seqD, Option.bind, h3, Option.map]
  | tup zs => cases h1; simp only [ixD, seqD, Option.bind, h3, Option.map]
  | scr zs => cases h1; simp only [ixD, seqD, Option.bind, h3, Option.map]
  | _ => cases h1
theorem ixS_of {i : Int} {k c : Nat} (hl : s.length ≤ 1000000) (hi : ixN s.length i = some k) (hd : s[k]? = some c) : ixD (.str s) (.int i) = some (.v (.str [c])) := by
  have h3 : atI s i = some c := by unfold atI; rw [hi]; exact hd
  simp only [ixD]
  rw [if_pos (show s.length ≤ big from hl), h3]; rfl
theorem wpo_ix {x d : D} {i : Int} {k : Nat} {K : EV → Prop} [o : IxD x xs] (hi : ixN xs.length i = some k) (hd : xs[k]? = some d) (q : K (.v d)) : wpo (ixD x (.int i)) K := wpo_of (ixD_of hi hd) q
theorem wpo_ixS {i : Int} {k c : Nat} {K : EV → Prop} (hl : s.length ≤ 1000000) (hi : ixN s.length i = some k) (hd : s[k]? = some c) (q : K (.v (.str [c]))) : wpo (ixD (.str s) (.int i)) K := wpo_of (ixS_of hl hi hd) q
/-! built-in functions -/
instance : Op1 lenD [.str s] (s.length ≤ 1000000) (.v (.int s.length)) := ⟨fun h => if_pos h⟩
instance : Op1 lenD [.lst xs] True (.v (.int xs.length)) := ⟨fun _ => rfl⟩
instance : Op1 lenD [.tup xs] True (.v (.int xs.length)) := ⟨fun _ => rfl⟩
instance {ns : List Int} : Op1 lenD [.scr ns] True (.v (.int ns.length)) := ⟨fun _ => by show some (vI ((ns.map D.int).length : Int)) = _; rw [List.length_map]; rfl⟩
instance : Op1 listD [.lst xs] True (.o (.lst xs)) := ⟨fun _ => rfl⟩
instance : Op1 listD [.tup xs] True (.o (.lst xs)) := ⟨fun _ => rfl⟩
instance : Op1 tupD [.lst xs] True (.v (.tup xs)) := ⟨fun _ => rfl⟩
instance : Op1 tupD [.tup xs] True (.v (.tup xs)) := ⟨fun _ => rfl⟩
instance : Op1 maxI [.int a, .int b] True (.v (.int (if b > a then b else a))) := ⟨fun _ => rfl⟩
instance : Op1 minI [.int a, .int b] True (.v (.int (if b < a then b else a))) := ⟨fun _ => rfl⟩
instance : Op1 absD [.int a] True (.v (.int (if a < 0 then -a else a))) := ⟨fun _ => rfl⟩
instance : Op1 intD [.int a] True (.v (.int a)) := ⟨fun _ => rfl⟩
instance {p : Bool} : Op1 intD [.bl p] True (.v (.int (if p then 1 else 0))) := ⟨fun _ => rfl⟩
theorem blsOf_m (f : α → Bool) (l : List α) : blsOf (l.map fun a => D.bl (f a)) = some (l.map f) := by
  induction l with
  | nil => rfl
  | cons a l ih => simp [blsOf, ih]
theorem intsOf_m (f : α → Int) (l : List α) : intsOf (l.map fun a => D.int (f a)) = some (l.map f) := by
  induction l with
  | nil => rfl
  | cons a l ih => simp [intsOf, ih]
theorem strsOf_m (f : α → List Nat) (l : List α) : strsOf (l.map fun a => D.str (f a)) = some (l.map f) := by
  induction l with
  | nil => rfl
  | cons a l ih => simp [strsOf, ih]
instance {f : α → Bool} {l : List α} : Op1 allD [.lst (l.map fun a => D.bl (f a))] True (.v (.bl (l.all f))) := ⟨fun _ => by simp [allD, blsOf_m, List.all_map, vB]⟩
instance {f : α → Bool} {l : List α} : Op1 anyD [.lst (l.map fun a => D.bl (f a))] True (.v (.bl (l.any f))) := ⟨fun _ => by simp [anyD, blsOf_m, List.any_map, vB]⟩
instance {f : α → Int} {l : List α} : Op1 sumD [.lst (l.map fun a => D.int (f a))] True (.v (.int ((l.map f).sum))) := ⟨fun _ => by simp [sumD, intsOf_m, vI]⟩
/-! texts -/
instance : Op1 countD [.str s, .str u] True (.v (.int (Txt.count (mkS s) (mkS u)))) := ⟨fun _ => rfl⟩
instance {f : α → List Nat} {l : List α} : Op1 lcountD [.lst (l.map fun a => D.str (f a)), .str u] True (.v (.int ((l.map f).count u : Nat))) := ⟨fun _ => by simp [lcountD, strsOf_m, vI]⟩
instance {f : α → List Nat} {l : List α} : Op1 joinD [.str s, .lst (l.map fun a => D.str (f a))] (((l.map f).map (·.length)).sum + l.length * s.length ≤ 1000000) (.v (.str (joinS s (l.map f)))) := ⟨fun h => by
  unfold joinD
  dsimp only
  rw [strsOf_m]
  dsimp only [Option.bind]
  rw [if_pos]
  simpa [big] using h⟩
instance {f : α → List Nat} {l : List α} : Op1 joinD [.str s, .tup (l.map fun a => D.str (f a))] (((l.map f).map (·.length)).sum + l.length * s.length ≤ 1000000) (.v (.str (joinS s (l.map f)))) := ⟨fun h => by
  unfold joinD
  dsimp only
  rw [strsOf_m]
  dsimp only [Option.bind]
  rw [if_pos]
  simpa [big] using h⟩
theorem strsOf_m0 (l : List (List Nat)) : strsOf (l.map D.str) = some l := by have := strsOf_m (fun a : List Nat => a) l; rwa [List.map_id'] at this
instance {l : List (List Nat)} : Op1 joinD [.str s, .lst (l.map D.str)] ((l.map (·.length)).sum + l.length * s.length ≤ 1000000) (.v (.str (joinS s l))) := ⟨fun h => by
  unfold joinD
  dsimp only
  rw [strsOf_m0]
  exact if_pos h⟩
instance {l : List (List Nat)} : Op1 joinD [.str s, .tup (l.map D.str)] ((l.map (·.length)).sum + l.length * s.length ≤ 1000000) (.v (.str (joinS s l))) := ⟨fun h => by
  unfold joinD
  dsimp only
  rw [strsOf_m0]
  exact if_pos h⟩
instance {l : List (List Nat)} : Op1 lcountD [.lst (l.map D.str), .str u] True (.v (.int (l.count u : Nat))) := ⟨fun _ => by simp [lcountD, strsOf_m0, vI]⟩
instance {l : List Bool} : Op1 allD [.lst (l.map D.bl)] True (.v (.bl (l.all id))) := ⟨fun _ => by have := blsOf_m (fun a : Bool => a) l; rw [List.map_id'] at this; simp only [allD, Option.map]; rw [this]; rfl⟩
instance {l : List Int} : Op1 sumD [.lst (l.map D.int)] True (.v (.int l.sum)) := ⟨fun _ => by have := intsOf_m (fun a : Int => a) l; rw [List.map_id'] at this; simp only [sumD, Option.map]; rw [this]; rfl⟩
instance : Op1 splitD [.str s, .str u] (u ≠ [] ∧ s.length ≤ 1000000) (.o (.lst ((splitS s u).map D.str))) := ⟨fun h => if_pos h⟩
end
/-! slices -/
theorem cutD_pre {α : Type} (xs : List α) (k : Nat) : cutD xs none (some (k : Int)) = xs.take k := by
  simp only [cutD, HT.sIx_none, HT.sIx_nat, List.drop_zero, Nat.sub_zero]
  rw [Nat.min_comm]
  by_cases h : k ≤ xs.length
  · rw [Nat.min_eq_right h]
  · rw [Nat.min_eq_left (by omega), List.take_of_length_le (by omega), List.take_of_length_le (by omega)]
theorem cutD_suf {α : Type} (xs : List α) (k : Nat) : cutD xs (some (k : Int)) none = xs.drop k := by
  simp only [cutD, HT.sIx_none, HT.sIx_nat]
  by_cases h : k ≤ xs.length
  · rw [Nat.min_eq_left h, List.take_of_length_le (by simp)]
  · rw [Nat.min_eq_right (by omega), List.drop_of_length_le (by omega), List.drop_of_length_le (by omega)]; simp
section
variable {xs : List D} {s : List Nat} {K : EV → Prop}
theorem wpo_slS {lo hi : Option Int} (hl : s.length ≤ 1000000) (k : K (.v (.str (cutD s lo hi)))) : wpo (sliceD (.str s) lo hi) K := wpo_of (if_pos hl) k
end
def TxtOk (n : Nat) (s : List Nat) : Prop := s.length ≤ n ∧ ∀ c ∈ s, c < 1114112
def StrsOk (n : Nat) (l : List (List Nat)) : Prop := ∀ s ∈ l, TxtOk n s
theorem StrsOk.shwL {n : Nat} {l : List (List Nat)} (h : StrsOk n l) : ShwL (l.map D.str) (l.length * (n + 1)) 0 := shwL_map fun s hs => (shw_str (h s hs).2).mono (h s hs).1 (Nat.le_refl _)
theorem StrsOk.shw {n : Nat} {l : List (List Nat)} (h : StrsOk n l) : Shw (.lst (l.map D.str)) (l.length * (n + 1)) 1 := shw_lst h.shwL
theorem StrsOk.shwT {n : Nat} {l : List (List Nat)} (h : StrsOk n l) : Shw (.tup (l.map D.str)) (l.length * (n + 1)) 1 := shw_tup h.shwL
theorem neD_nil {ds : List D} {w k : Nat} (h : ShwL ds w k) (hk : k ≤ 50) : neD (.lst ds) (.lst []) = some (vB (!ds.isEmpty)) := by
  rw [neD_P rfl, eqP_shw (shw_lst h) (shw_lst shwL_nil) (by omega) (by omega), pOf_lst h, pOf_lst shwL_nil]
  simp only [PyData.eqv, List.map_nil, eqvAll_nil]
  cases ds <;> rfl
theorem eqD_nil {ds : List D} {w k : Nat} (h : ShwL ds w k) (hk : k ≤ 50) : eqD (.lst ds) (.lst []) = some (vB ds.isEmpty) := by
  rw [eqD_P rfl, eqP_shw (shw_lst h) (shw_lst shwL_nil) (by omega) (by omega), pOf_lst h, pOf_lst shwL_nil]
  simp only [PyData.eqv, List.map_nil, eqvAll_nil]
  cases ds <;> rfl
theorem wpo_neNil {ds : List D} {K : EV → Prop} (h : ∃ w k, ShwL ds w k ∧ k ≤ 50) (q : K (.v (.bl (!ds.isEmpty)))) : wpo (neD (.lst ds) (.lst [])) K := let ⟨_, _, h1, h2⟩ := h; wpo_of (neD_nil h1 h2) q
theorem wpo_eqNil {ds : List D} {K : EV → Prop} (h : ∃ w k, ShwL ds w k ∧ k ≤ 50) (q : K (.v (.bl ds.isEmpty))) : wpo (eqD (.lst ds) (.lst [])) K := let ⟨_, _, h1, h2⟩ := h; wpo_of (eqD_nil h1 h2) q
theorem rangeD_nat (n : Nat) : rangeD 0 (n : Int) = (List.range n).map fun i : Nat => D.int (i : Int) := by simp [rangeD]
/-! data met -/
section
variable {α β : Type} {K : α → Prop}
theorem cond_t {A B : Prop} (h : A) : (true = true → A) ∧ (true = false → B) := ⟨fun _ => h, fun h => (by cases h)⟩
theorem cond_f {A B : Prop} (h : B) : (false = true → A) ∧ (false = false → B) := ⟨fun h => (by cases h), fun _ => h⟩
theorem cond_d {p : Prop} [Decidable p] {A B : Prop} (h1 : p → A) (h2 : ¬ p → B) : (decide p = true → A) ∧ (decide p = false → B) := ⟨fun h => h1 (of_decide_eq_true h), fun h => h2 (of_decide_eq_false h)⟩
theorem wpo_frz_v {d : D} {K : D → Prop} (h : K d) : wpo (frz (.v d)) K := h
theorem wpo_frz_l {ds : List D} {K : D → Prop} (h : K (.lst ds)) : wpo (frz (.o (.lst ds))) K := h
theorem wpo_it_l {ds : List D} {K : List D → Prop} (k : K ds) : wpo (itemsOf (.lst ds)) K := k
theorem wpo_it_t {ds : List D} {K : List D → Prop} (k : K ds) : wpo (itemsOf (.tup ds)) K := k
theorem wpo_it_s {s : List Nat} {K : List D → Prop} (h : s.length ≤ 1000000) (k : K (s.map fun c => .str [c])) : wpo (itemsOf (.str s)) K := wpo_of (if_pos h) k
theorem wpo_one {γ : Type} {t0 t : Nat} {g : γ} {K : γ → Prop} (h : t = t0) (k : K g) : wpo (one t0 g t) K := wpo_of (if_pos h) k
end
end Dt
end
section
set_option maxRecDepth 100000
set_option maxHeartbeats 4000000
/-! WV: the same rules, what is to be found out behind ∃. -/
namespace Dt
open PySem L2
theorem cond_eq {a b : Int} {A B : Prop} (h1 : a = b → A) (h2 : a ≠ b → B) : ((a == b) = true → A) ∧ ((a == b) = false → B) := ⟨fun h => h1 (by simpa using h), fun h => h2 (by simpa using h)⟩
theorem cond_seq {a b : List Nat} {A B : Prop} (h1 : a = b → A) (h2 : a ≠ b → B) : ((a == b) = true → A) ∧ ((a == b) = false → B) := ⟨fun h => h1 (by simpa using h), fun h => h2 (by simpa using h)⟩
theorem cond_not {b : Bool} {A B : Prop} (h : (b = true → B) ∧ (b = false → A)) : ((!b) = true → A) ∧ ((!b) = false → B) := ⟨fun q => h.2 (by simpa using q), fun q => h.1 (by simpa using q)⟩
theorem cond_b {b : Bool} {A B : Prop} (h1 : b = true → A) (h2 : b = false → B) : (b = true → A) ∧ (b = false → B) := ⟨h1, h2⟩
theorem le_and {a b : Nat} {A : Prop} (h : a ≤ b) (k : A) : a ≤ b ∧ A := ⟨h, k⟩
theorem rg1_and {j : Int} {A : Prop} (h : -1000000 ≤ j ∧ j ≤ 1000000) (k : A) : (-1000000 ≤ j ∧ j ≤ 1000000) ∧ A := ⟨h, k⟩
theorem eq_and {α : Type} {a : α} {A : Prop} (k : A) : a = a ∧ A := ⟨rfl, k⟩
theorem cond_nil {α : Type} {l : List α} {A B : Prop} (h1 : l = [] → A) (h2 : l ≠ [] → B) : (l.isEmpty = true → A) ∧ (l.isEmpty = false → B) := ⟨fun h => h1 (List.isEmpty_iff.mp h), fun h => h2 (by simpa using h)⟩
theorem cond_yes {b : Bool} {A B : Prop} (h : b = true) (k : A) : (b = true → A) ∧ (b = false → B) := ⟨fun _ => k, fun q => (by rw [h] at q; cases q)⟩
theorem cond_no {b : Bool} {A B : Prop} (h : b = false) (k : B) : (b = true → A) ∧ (b = false → B) := ⟨fun q => (by rw [h] at q; cases q), fun _ => k⟩
/-- an end of slots to be written out -/
def FinG (a : Sl) (K : Sl → Prop) : Prop := K a
theorem fin_g {a : Sl} {K : Sl → Prop} (h : FinG a K) : ∀ e', a = e' → K e' := fun e' h' => h' ▸ h
theorem fin_mk {a b : Sl} {K : Sl → Prop} (h : a = b) (k : K b) : FinG a K := by subst h; exact k
def IxG (n : Nat) (i : Int) (K : Nat → Prop) : Prop := ∃ j, ixN n i = some j ∧ K j
theorem ixg_of {n : Nat} {i : Int} {K : Nat → Prop} (h : 0 ≤ i ∧ i < n) (k : K i.toNat) : IxG n i K := ⟨_, ixN_of h.1 h.2, k⟩
theorem ixg_nat {n j : Nat} {K : Nat → Prop} (h : j < n) (k : K j) : IxG n (j : Int) K := ⟨_, ixN_nat h, k⟩
theorem ixg_neg {n : Nat} {K : Nat → Prop} (h : 0 < n) (k : K (n - 1)) : IxG n (-1) K := ⟨n - 1, by unfold ixN; rw [if_neg (by omega), if_pos (by omega)]; congr 1; omega, k⟩
theorem ixg_mk {n : Nat} {i : Int} {K : Nat → Prop} (h : ∃ j, ixN n i = some j ∧ K j) : IxG n i K := h
def GetG {α : Type} (xs : List α) (k : Nat) (K : α → Prop) : Prop := ∃ d, xs[k]? = some d ∧ K d
theorem get_mk {α : Type} {xs : List α} {k : Nat} {K : α → Prop} (h : ∃ d, xs[k]? = some d ∧ K d) : GetG xs k K := h
theorem get_map {α β : Type} {l : List α} {inj : α → β} {k : Nat} {K : β → Prop} (h : k < l.length) (q : K (inj l[k])) : GetG (l.map inj) k K := ⟨_, by rw [List.getElem?_map, List.getElem?_eq_getElem h]; rfl, q⟩
theorem get_mapI {l : List Int} {k : Nat} {K : D → Prop} (h : k < l.length) (q : K (.int (l.getD k 0))) : GetG (l.map D.int) k K := ⟨_, by rw [List.getElem?_map, List.getElem?_eq_getElem h]; rfl, by rw [List.getD_eq_getElem?_getD, List.getElem?_eq_getElem h] at q; exact q⟩
theorem get_mapS {l : List (List Nat)} {k : Nat} {K : D → Prop} (h : k < l.length) (q : K (.str (l.getD k []))) : GetG (l.map D.str) k K := ⟨_, by rw [List.getElem?_map, List.getElem?_eq_getElem h]; rfl, by rw [List.getD_eq_getElem?_getD, List.getElem?_eq_getElem h] at q; exact q⟩
theorem sing_beq (a b : Nat) : ([a] == [b]) = (a == b) := by rw [Bool.eq_iff_iff]; simp
theorem get_mapE {α β : Type} {l : List α} {inj : α → β} {k : Nat} {K : β → Prop} (h : ∃ a, l[k]? = some a ∧ K (inj a)) : GetG (l.map inj) k K := let ⟨_, h, q⟩ := h; ⟨_, by rw [List.getElem?_map, h]; rfl, q⟩
theorem get_c {r : List Nat} {k : Nat} {K : Nat → Prop} (h : k < r.length) (q : K (r.getD k 0)) : GetG r k K := ⟨_, List.getElem?_eq_getElem h, by rw [List.getD_eq_getElem?_getD, List.getElem?_eq_getElem h] at q; exact q⟩
theorem guard_E {α : Type} {f : M α} {env : Sl} {Q : α → Sl → Prop} {X : ExD → Sl → Prop} (h : wp f env Q X) : wp f env Q X := h
theorem guard_S {f : S} {env : Sl} {N : Sl → Prop} {P : Ps} (h : wps f env N P) : wps f env N P := h
theorem guard_O {α : Type} {o : Option α} {K : α → Prop} (h : wpo o K) : wpo o K := h
section
variable {env e1 : Sl} {X : ExD → Sl → Prop} {N : Sl → Prop} {P : Ps}
theorem v_oName {Q : AV → Sl → Prop} {i : Nat} (h : ∃ d, env[i]? = some (.val d) ∧ Q (.v d) env) : wp (oName i) env Q X := let ⟨_, h, k⟩ := h; wp_oName_v h k
theorem o_oName {Q : AV → Sl → Prop} {i : Nat} (h : ∃ c, env[i]? = some (.own c) ∧ Q (.s i) env) : wp (oName i) env Q X := let ⟨_, h, k⟩ := h; wp_oName_o h k
theorem v_eName {Q : EV → Sl → Prop} {i : Nat} (h : ∃ d, env[i]? = some (.val d) ∧ Q (.v d) env) : wp (eName i) env Q X := let ⟨_, h, k⟩ := h; wp_eName_v h k
theorem o_eName {Q : EV → Sl → Prop} {i : Nat} (h : ∃ c d, env[i]? = some (.own c) ∧ frzC c = some d ∧ ∀ e', env.set i (.val d) = e' → Q (.v d) e') : wp (eName i) env Q X := let ⟨_, _, h, hf, k⟩ := h; wp_eName_o h hf k
/-- a slot that is read as d -/
def Rds (sl : Slot) (d : D) : Prop := sl = .val d ∨ ∃ c, sl = .own c ∧ frzC c = some d
theorem Rds.v (d : D) : Rds (.val d) d := .inl rfl
theorem Rds.o {c : OC} {d : D} (h : frzC c = some d) : Rds (.own c) d := .inr ⟨c, rfl, h⟩
theorem Rds.l (ds : List D) : Rds (.own (.lst ds)) (.lst ds) := .inr ⟨_, rfl, rfl⟩
theorem Rds.ev {v : EV} {d : D} (h : frz v = some d) : Rds (slotOf v) d := by
  cases v with
  | v d' => cases h; exact .inl rfl
  | o c => exact .inr ⟨c, rfl, h⟩
theorem set_self {i : Nat} {s : Slot} (h : env[i]? = some s) : env.set i s = env := by
  refine List.ext_getElem? fun j => ?_
  rw [List.getElem?_set]
  split
  · rename_i e; subst e
    have := (List.getElem?_eq_some_iff.mp h).1
    rw [if_pos this, h]
  · rfl
theorem r_eName {Q : EV → Sl → Prop} {i : Nat} (h : ∃ sl d, env[i]? = some sl ∧ Rds sl d ∧ ∀ e', env.set i (.val d) = e' → Q (.v d) e') : wp (eName i) env Q X := by
  obtain ⟨sl, d, h, hr, k⟩ := h
  rcases hr with rfl | ⟨c, rfl, hf⟩
  · exact wp_eName_v h (k _ (set_self h))
  · exact wp_eName_o h hf k
theorem v_opM {Q : EV → Sl → Prop} {op : D → D → Option EV} {x y : AV} (h : ∃ d1 d2, deref env x = some d1 ∧ deref env y = some d2 ∧ wpo (op d1 d2) fun r => Q r env) : wp (opM op x y) env Q X := let ⟨_, _, h1, h2, k⟩ := h; wp_opM h1 h2 k
def ArgG (env : Sl) (as : List AV) (K : Sl → Prop) : Prop := ∃ sl, argsOf env as = some sl ∧ K sl
theorem arg_nil {K : Sl → Prop} (k : K []) : ArgG env [] K := ⟨[], rfl, k⟩
theorem arg_v {d : D} {r : List AV} {K : Sl → Prop} (k : ArgG env r fun sl => K (.val d :: sl)) : ArgG env (.v d :: r) K := by
  obtain ⟨sl, h, k⟩ := k
  exact ⟨.val d :: sl, by unfold argsOf; rw [h]; rfl, k⟩
theorem arg_s {i : Nat} {r : List AV} {K : Sl → Prop} (k : ∃ s, argS env[i]? = some s ∧ ArgG env r fun sl => K (s :: sl)) : ArgG env (.s i :: r) K := by
  obtain ⟨s, h1, sl, h, k⟩ := k
  exact ⟨s :: sl, by unfold argsOf argOf; rw [h]; dsimp only; rw [h1]; rfl, k⟩
theorem v_callM {Q : EV → Sl → Prop} {g : M EV} {as : List AV} (hn : (sidx as).Nodup) (h : ArgG env as fun sl => wp g sl (fun v o => ∀ e', back env as o = e' → Q v e') (fun x o => ∀ e', back env as o = e' → X x e')) : wp (callM g as) env Q X := let ⟨_, ha, h⟩ := h; wp_callM hn ha h
theorem v_funD {Q : EV → Sl → Prop} {n np : Nat} {body : S} {args : Sl} (hn : args.length = np) (h : FinG (args ++ List.replicate (n - np) .emp) fun env0 => wps body env0 (fun e => ∀ e', e.take np = e' → Q (.v .non) e') ⟨fun v e => ∀ e', e.take np = e' → Q v e', fun _ => False, fun _ => False, fun x e => ∀ e', e.take np = e' → X x e'⟩) : wp (funD n np body) args Q X := wp_funD hn rfl h
theorem v_funV {Q : EV → Sl → Prop} {n : Nat} {body : S} {a : Slot} {rest : Sl} (h : ∃ ds, valsOf rest = some ds ∧ ds.length ≤ 5000 ∧ wp (funD n 2 body) [a, .val (.tup ds)] (fun v e => ∃ a' r, e = a' :: r ∧ Q v (a' :: rest)) (fun x e => ∃ a' r, e = a' :: r ∧ X x (a' :: rest))) : wp (funV n body) (a :: rest) Q X := let ⟨_, h1, h2, h3⟩ := h; wp_funV h1 h2 h3
theorem v_retV {np : Nat → Bool} {i : Nat} (h : ∃ d, env[i]? = some (.val d) ∧ P.rt (.v d) env) : wps (sRetV np i) env N P := let ⟨_, h, k⟩ := h; wps_retV_v h k
theorem o_retV {np : Nat → Bool} {i : Nat} (h : ∃ c, env[i]? = some (.own c) ∧ np i = false ∧ ∀ e', env.set i .emp = e' → P.rt (.o c) e') : wps (sRetV np i) env N P := let ⟨_, h, h2, k⟩ := h; wps_retV_o h h2 k
def DerG (env : Sl) (as : List AV) (K : List D → Prop) : Prop := ∃ ds, derefs env as = some ds ∧ K ds
theorem der_nil {K : List D → Prop} (k : K []) : DerG env [] K := ⟨[], rfl, k⟩
theorem der_v {d : D} {r : List AV} {K : List D → Prop} (k : DerG env r fun ds => K (d :: ds)) : DerG env (.v d :: r) K := by
  obtain ⟨ds, h, k⟩ := k
  exact ⟨d :: ds, by unfold derefs; rw [h]; rfl, k⟩
theorem der_s {i : Nat} {r : List AV} {K : List D → Prop} (k : ∃ d, rdS env[i]? = some d ∧ DerG env r fun ds => K (d :: ds)) : DerG env (.s i :: r) K := by
  obtain ⟨d, h1, ds, h, k⟩ := k
  exact ⟨d :: ds, by unfold derefs deref; rw [h]; dsimp only; rw [h1]; rfl, k⟩
def ValG (as : List AV) (K : List D → Prop) : Prop := ∃ ds, vals as = some ds ∧ K ds
theorem val_nil {K : List D → Prop} (k : K []) : ValG [] K := ⟨[], rfl, k⟩
theorem val_v {d : D} {r : List AV} {K : List D → Prop} (k : ValG r fun ds => K (d :: ds)) : ValG (.v d :: r) K := by
  obtain ⟨ds, h, k⟩ := k
  exact ⟨d :: ds, by unfold vals; rw [h]; rfl, k⟩
theorem v_bM {Q : EV → Sl → Prop} {op : List D → Option EV} {as : List AV} (h : DerG env as fun ds => wpo (op ds) fun r => Q r env) : wp (bM op as) env Q X := let ⟨_, h, k⟩ := h; wp_bM h k
theorem v_tyM {Q : EV → Sl → Prop} {ty : D → Bool} {a : AV} {m : M EV} (h : ∃ d, deref env a = some d ∧ ty d = true ∧ wp m env Q X) : wp (tyM ty a m) env Q X := let ⟨_, h, h2, k⟩ := h; wp_tyM h h2 k
theorem v_append {Q : EV → Sl → Prop} {i : Nat} {d : D} (h : ∃ xs, env[i]? = some (.own (.lst xs)) ∧ xs.length < 1000000 ∧ ∀ e', env.set i (.own (.lst (xs ++ [d]))) = e' → Q (.v .non) e') : wpMut opAppend i [.v d] env Q := let ⟨_, h, h2, k⟩ := h; wpMut_append h h2 k
theorem v_pop {Q : EV → Sl → Prop} {i : Nat} {j : Int} (h : ∃ xs, env[i]? = some (.own (.lst xs)) ∧ (0 ≤ j ∧ j < 1000000) ∧ GetG xs j.toNat fun d => ∀ e', env.set i (.own (.lst (xs.eraseIdx j.toNat))) = e' → Q (.v d) e') : wpMut opPop i [.v (.int j)] env Q := let ⟨_, h, h2, _, h3, k⟩ := h; wpMut_pop h h2.1 h2.2 h3 k
theorem v_setLM {Q : Unit → Sl → Prop} {x : Nat} {d : D} {k : Int} (h : ∃ xs, env[x]? = some (.own (.lst xs)) ∧ IxG xs.length k fun j => ∀ e', env.set x (.own (.lst (xs.set j d))) = e' → Q () e') : wp (setLM x d (.int k)) env Q X := let ⟨_, h, _, h3, k⟩ := h; wp_setLM h h3 k
theorem v_setDM {Q : Unit → Sl → Prop} {x : Nat} {d kd : D} (h : ∃ ks vs key, env[x]? = some (.own (.dic ks vs)) ∧ keyD kd = some key ∧ (ks.length < 1000000 ∧ ks.length = vs.length ∧ ks.Nodup) ∧ ∀ e', env.set x (.own (.dic (dicPut ks vs key d).1 (dicPut ks vs key d).2)) = e' → Q () e') : wp (setDM x d kd) env Q X := let ⟨_, _, _, h, h2, h3, k⟩ := h; wp_setDM h h2 h3.1 h3.2.1 h3.2.2 k
theorem v_setFM {Q : Unit → Sl → Prop} {x : Nat} {fi : Nat → Option Nat} {d : D} (h : ∃ t ds j, env[x]? = some (.own (.ins t ds)) ∧ fi t = some j ∧ j = ds.length ∧ ∀ e', env.set x (.own (.ins t (ds ++ [d]))) = e' → Q () e') : wp (setFM x fi d) env Q X := let ⟨_, _, _, h, h2, h3, k⟩ := h; wp_setFM h h2 h3 k
theorem v_ix {x : D} {xs : List D} {i : Int} {K : EV → Prop} [o : IxD x xs] (h : IxG xs.length i fun k => GetG xs k fun d => K (.v d)) : wpo (ixD x (.int i)) K := let ⟨_, h, _, h2, k⟩ := h; wpo_ix h h2 k
theorem v_ixS {s : List Nat} {i : Int} {K : EV → Prop} (hl : s.length ≤ 1000000) (h : IxG s.length i fun k => GetG s k fun c => K (.v (.str [c]))) : wpo (ixD (.str s) (.int i)) K := let ⟨_, h, _, h2, k⟩ := h; wpo_ixS hl h h2 k
theorem v_vals {as : List AV} {K : List D → Prop} (h : ValG as K) : wpo (vals as) K := let ⟨_, h, k⟩ := h; wpo_of h k
theorem v_objOf {e : Sl} {a : AV} {K : Nat × List D → Prop} (h : ∃ p, objOf e a = some p ∧ K p) : wpo (objOf e a) K := let ⟨_, h, k⟩ := h; wpo_of h k
theorem v_objIs {e : Sl} {a : AV} {K : D → Prop} (h : ∃ p, eIsi.objIs e a = some p ∧ K p) : wpo (eIsi.objIs e a) K := let ⟨_, h, k⟩ := h; wpo_of h k
class IsiC (I : IsT) (d : D) (b : outParam Bool) : Prop where
  of : isiB I d = some b
instance : IsiC isInt .non false := ⟨rfl⟩
instance {b : Bool} : IsiC isInt (.bl b) true := ⟨rfl⟩
instance {i : Int} : IsiC isInt (.int i) true := ⟨rfl⟩
instance {s : List Nat} : IsiC isInt (.str s) false := ⟨rfl⟩
instance {xs : List D} : IsiC isInt (.tup xs) false := ⟨rfl⟩
instance {xs : List D} : IsiC isInt (.lst xs) false := ⟨rfl⟩
instance {ks : List L2.Key} {xs : List D} : IsiC isInt (.dic ks xs) false := ⟨rfl⟩
instance : IsiC isBool .non false := ⟨rfl⟩
instance {b : Bool} : IsiC isBool (.bl b) true := ⟨rfl⟩
instance {i : Int} : IsiC isBool (.int i) false := ⟨rfl⟩
instance {s : List Nat} : IsiC isBool (.str s) false := ⟨rfl⟩
instance {xs : List D} : IsiC isBool (.tup xs) false := ⟨rfl⟩
instance {xs : List D} : IsiC isBool (.lst xs) false := ⟨rfl⟩
instance {ks : List L2.Key} {xs : List D} : IsiC isBool (.dic ks xs) false := ⟨rfl⟩
instance : IsiC isStr .non false := ⟨rfl⟩
instance {b : Bool} : IsiC isStr (.bl b) false := ⟨rfl⟩
instance {i : Int} : IsiC isStr (.int i) false := ⟨rfl⟩
instance {s : List Nat} : IsiC isStr (.str s) true := ⟨rfl⟩
instance {xs : List D} : IsiC isStr (.tup xs) false := ⟨rfl⟩
instance {xs : List D} : IsiC isStr (.lst xs) false := ⟨rfl⟩
instance {ks : List L2.Key} {xs : List D} : IsiC isStr (.dic ks xs) false := ⟨rfl⟩
instance : IsiC isTup .non false := ⟨rfl⟩
instance {b : Bool} : IsiC isTup (.bl b) false := ⟨rfl⟩
instance {i : Int} : IsiC isTup (.int i) false := ⟨rfl⟩
instance {s : List Nat} : IsiC isTup (.str s) false := ⟨rfl⟩
instance {xs : List D} : IsiC isTup (.tup xs) true := ⟨rfl⟩
instance {xs : List D} : IsiC isTup (.lst xs) false := ⟨rfl⟩
instance {ks : List L2.Key} {xs : List D} : IsiC isTup (.dic ks xs) false := ⟨rfl⟩
instance : IsiC isLst .non false := ⟨rfl⟩
instance {b : Bool} : IsiC isLst (.bl b) false := ⟨rfl⟩
instance {i : Int} : IsiC isLst (.int i) false := ⟨rfl⟩
instance {s : List Nat} : IsiC isLst (.str s) false := ⟨rfl⟩
instance {xs : List D} : IsiC isLst (.tup xs) false := ⟨rfl⟩
instance {xs : List D} : IsiC isLst (.lst xs) true := ⟨rfl⟩
instance {ks : List L2.Key} {xs : List D} : IsiC isLst (.dic ks xs) false := ⟨rfl⟩
instance : IsiC isDic .non false := ⟨rfl⟩
instance {b : Bool} : IsiC isDic (.bl b) false := ⟨rfl⟩
instance {i : Int} : IsiC isDic (.int i) false := ⟨rfl⟩
instance {s : List Nat} : IsiC isDic (.str s) false := ⟨rfl⟩
instance {xs : List D} : IsiC isDic (.tup xs) false := ⟨rfl⟩
instance {xs : List D} : IsiC isDic (.lst xs) false := ⟨rfl⟩
instance {ks : List L2.Key} {xs : List D} : IsiC isDic (.dic ks xs) true := ⟨rfl⟩
instance : IsiC is_Board .non false := ⟨rfl⟩
instance {b : Bool} : IsiC is_Board (.bl b) false := ⟨rfl⟩
instance {i : Int} : IsiC is_Board (.int i) false := ⟨rfl⟩
instance {s : List Nat} : IsiC is_Board (.str s) false := ⟨rfl⟩
instance {xs : List D} : IsiC is_Board (.tup xs) false := ⟨rfl⟩
instance {xs : List D} : IsiC is_Board (.lst xs) false := ⟨rfl⟩
instance {ks : List L2.Key} {xs : List D} : IsiC is_Board (.dic ks xs) false := ⟨rfl⟩
instance {fs : List D} : IsiC is_Board (.obj 0 fs) true := ⟨rfl⟩
theorem wpo_isi {I : IsT} {d : D} {b : Bool} {K : Bool → Prop} [o : IsiC I d b] (k : K b) : wpo (isiB I d) K := wpo_of o.of k
theorem v_deref {e : Sl} {a : AV} {K : D → Prop} (h : ∃ b, deref e a = some b ∧ K b) : wpo (deref e a) K := let ⟨_, h, k⟩ := h; wpo_of h k
theorem v_get {γ : Type} {l : List γ} {j : Nat} {K : γ → Prop} (h : GetG l j K) : wpo (l[j]?) K := let ⟨_, h, k⟩ := h; wpo_of h k
theorem v_starD {d : D} {K : List D → Prop} (h : ∃ ds, starD d = some ds ∧ K ds) : wpo (starD d) K := let ⟨_, h, k⟩ := h; wpo_of h k
theorem tgt_gN {i : Nat} {d : D} {e : Sl} {K : Sl → Prop} (k : ∀ e', e.set i (.val d) = e' → K e') : ∃ e', gN i d e = some e' ∧ K e' := ⟨_, rfl, k _ rfl⟩
theorem tgt_gT2 {i j : Nat} {a b : D} {e : Sl} {K : Sl → Prop} (k : ∀ e', (e.set i (.val a)).set j (.val b) = e' → K e') : ∃ e', gT (gsCons (gN i) (gsCons (gN j) gsNil)) (.tup [a, b]) e = some e' ∧ K e' := ⟨_, rfl, k _ rfl⟩
theorem wps_par1 {i : Nat} {f : M EV} {g : S} (h : wp f env (fun a e => wps g e (fun e2 => ∀ e', e2.set i (slotOf a) = e' → N e') ⟨fun _ _ => False, fun _ => False, fun _ => False, P.ex⟩) P.ex) : wps (sPar1 i f g) env N P := by
  unfold wps sPar1
  unfold wp at h
  cases z : f env with
  | none => rw [z] at h; exact h
  | some r => rw [z] at h; cases r with
    | exc x e => exact h
    | ok a e =>
      dsimp only at h ⊢
      unfold wps at h
      cases z2 : g e with
      | none => rw [z2] at h; exact h
      | some r => rw [z2] at h; cases r with
        | nx e2 => exact h _ rfl
        | exc x e2 => exact h
        | rt v e2 => exact h.elim
        | bk e2 => exact h.elim
        | ct e2 => exact h.elim
theorem wps_parC' {i : Nat} {f : M EV} {r : List (Nat × M EV)} (h : wps (sPar1 i f (parL r)) env N P) : wps (parL ((i, f) :: r)) env N P := h
theorem wps_parN (h : N env) : wps (parL []) env N P := h
end
end Dt
end
section
set_option maxRecDepth 100000
set_option maxHeartbeats 4000000
/-! DS: sorted, len(set(..)), join and split, in plain data. -/
namespace Dt
open PySem PySem.W
open PyProof.Rows hiding St
/-! ### sorted -/
def tkD (d : D) : List (Int ⊕ List Nat) := keyToks (pOf d)
def leT (a b : D) : Bool := sortLe (listOrd itemOrd) false tkD a b
theorem sortL_eq {xs : List D} {ps : List PyData} (h : ps = xs.map pOf) : sortL xs ps = xs.mergeSort leT := by
  subst h
  unfold sortL
  rw [sort_maps (s := leT) (fun p : D × PyData => p.1)]
  · rw [List.map_fst_zip (by simp)]
  · intro a ha b hb
    have key : ∀ p ∈ xs.zip (xs.map pOf), p.2 = pOf p.1 := fun p hp => by
      obtain ⟨i, hi, rfl⟩ := List.mem_iff_getElem.mp hp
      simp
    unfold dataLe leT sortLe tkD
    dsimp only
    rw [key a ha, key b hb]
theorem sortD_of {d : D} {xs : List D} {w k : Nat} (hi : sortItems d = some xs) (h : ShwL xs w k) (hs : okSort (xs.map pOf) = true) (hl : xs.length ≤ 1000000) : sortD [d] = some (.o (.lst (xs.mergeSort leT))) := by
  obtain ⟨ps, h1, _⟩ := h
  have := toPL_pOf h1
  subst this
  simp only [sortD, hi, Option.bind, h1]
  rw [if_pos ⟨hs, hl⟩, sortL_eq rfl]
theorem sort_is {l l' : List D} (hp : l'.Perm l) (hs : l'.Pairwise fun a b => leT a b = true) (hi : ∀ a ∈ l, ∀ b ∈ l, tkD a = tkD b → a = b) : l.mergeSort leT = l' := by
  have tot := sortLe_total (listOrd itemOrd) false tkD
  refine List.Perm.eq_of_pairwise (le := fun a b => leT a b = true) ?_ (sort_pairwise tot l) hs ((List.mergeSort_perm ..).trans hp.symm)
  intro a b ha hb h1 h2
  refine hi a (List.mem_mergeSort.mp ha) b (hp.mem_iff.mp hb) ?_
  have h1' : (!(listOrd itemOrd).blt (tkD b) (tkD a)) = true := h1
  have h2' : (!(listOrd itemOrd).blt (tkD a) (tkD b)) = true := h2
  exact (listOrd itemOrd).total _ _ (by simpa using h2') (by simpa using h1')
theorem leT_str (a b : List Nat) : leT (.str a) (.str b) = !decide (b < a) := by
  show (!PyProof.Rows.lexLt itemOrd [Sum.inr (mkS b).cps.toList] [Sum.inr (mkS a).cps.toList]) = _
  rw [mkS_cps, mkS_cps]
  congr 1
  by_cases e : b = a
  · subst e
    rw [decide_eq_false (List.lt_irrefl b)]
    exact lex_irrefl (O := itemOrd) _
  · have hne : (Sum.inr b : Int ⊕ List Nat) ≠ Sum.inr a := fun z => e (by cases z; rfl)
    rw [lex_diff (O := itemOrd) hne]
    rfl
theorem tk_str_inj {a b : List Nat} (h : tkD (.str a) = tkD (.str b)) : a = b := by
  have h' : [Sum.inr (mkS a).cps.toList] = [(Sum.inr (mkS b).cps.toList : Int ⊕ List Nat)] := h
  rw [mkS_cps, mkS_cps] at h'
  cases h'
  rfl
theorem okSort_strs (l : List (List Nat)) : okSort ((l.map D.str).map pOf) = true := by
  rw [List.map_map]
  show okSort (l.map fun s => PyData.str (mkS s)) = true
  simp [okSort]
  exact ⟨⟨fun x _ y _ => rfl, .inr fun x _ => rfl⟩, fun x _ => by simp [PyData.depth]⟩
/-- a list of texts in order -/
def SortedS (l : List (List Nat)) : Prop := l.Pairwise fun a b => ¬ b < a
theorem sort_strs {l l' : List (List Nat)} (hp : l'.Perm l) (hs : SortedS l') : (l.map D.str).mergeSort leT = l'.map D.str := by
  refine sort_is (hp.map _) (List.Pairwise.map _ (fun a b h => ?_) hs) fun a ha b hb h => ?_
  · rw [leT_str, decide_eq_false h]; rfl
  · obtain ⟨x, _, rfl⟩ := List.mem_map.mp ha
    obtain ⟨y, _, rfl⟩ := List.mem_map.mp hb
    rw [tk_str_inj h]
theorem wpo_sortS {l l' : List (List Nat)} {d : D} {n : Nat} {K : EV → Prop} (hd : sortItems d = some (l.map D.str)) (hp : l'.Perm l) (hs : SortedS l') (ho : StrsOk n l) (hl : l.length ≤ 1000000) (k : K (.o (.lst (l'.map D.str)))) : wpo (sortD [d]) K :=
  wpo_of ((sortD_of hd ho.shwL (okSort_strs l) (by simpa using hl)).trans (by rw [sort_strs hp hs])) k
/-! ### len(set(..)) -/
theorem met_nodup {l : List (List Nat)} (h : l.Nodup) : DtS.met l = l := by
  have key : ∀ (l σ : List (List Nat)), (σ ++ l).Nodup → l.foldl DtS.stepM σ = σ ++ l := by
    intro l
    induction l with
    | nil => intro σ _; simp
    | cons x l ih =>
      intro σ h
      have hx : σ.any (· == x) = false := by
        rw [List.any_eq_false]
        intro y hy e
        have e := eq_of_beq e
        subst e
        have := (List.nodup_append.mp h).2.2 y hy y (List.mem_cons_self ..)
        exact this rfl
      rw [List.foldl_cons]
      have e : DtS.stepM σ x = σ ++ [x] := by unfold DtS.stepM; rw [hx]; rfl
      rw [e, ih _ (by simpa using h)]
      simp
  exact (key l [] (by simpa using h)).trans (by simp)
theorem wpo_lenSet {α : Type} {f : α → List Nat} {l : List α} {d : D} {K : EV → Prop} (hd : seqD d = some (l.map fun a => D.str (f a))) (hl : l.length ≤ 4000) (k : K (.v (.int (DtS.met (l.map f)).length))) : wpo (lenSetD [d]) K :=
  wpo_of (by simp only [lenSetD, hd, Option.bind, strsOf_m]; rw [if_pos (by simpa using hl)]; rfl) k
/-! ### " ".join(..), split -/
theorem sum_le {n : Nat} : ∀ {l : List (List Nat)}, (∀ r ∈ l, r.length ≤ n) → (l.map (·.length)).sum ≤ l.length * n
  | [], _ => by simp
  | r :: l, h => by
    have h1 := h r (List.mem_cons_self ..)
    have h2 := sum_le fun r hr => h r (List.mem_cons_of_mem _ hr)
    simp only [List.map_cons, List.sum_cons, List.length_cons, Nat.succ_mul]
    omega
theorem join_len (s : List Nat) (rs : List (List Nat)) : (joinS s rs).length ≤ (rs.map (·.length)).sum + rs.length * s.length := by
  have h := StrLaws.join_length_le (mkS s) (rs.map mkS)
  rw [← TL.join_eq] at h
  have e : (joinS s rs).length = (Txt.join (mkS s) (rs.map mkS)).length := by
    show (Txt.join (mkS s) (rs.map mkS)).cps.toList.length = (Txt.join (mkS s) (rs.map mkS)).cps.size
    simp
  rw [List.map_map, List.length_map] at h
  have e2 : (rs.map ((fun x => x.length) ∘ mkS)) = rs.map (·.length) := List.map_congr_left fun r _ => mkS_len r
  rw [e2, mkS_len] at h
  rw [e]; exact h
theorem split_join {rs : List (List Nat)} (hne : rs ≠ []) (h : ∀ r ∈ rs, (32 : Nat) ∉ r) : splitS (joinS [32] rs) [32] = rs := by
  unfold splitS joinS
  have e : mkS (Txt.join (mkS [32]) (rs.map mkS)).cps.toList = Txt.join (mkS [32]) (rs.map mkS) := by simp [mkS]
  rw [e, TL.split_join (y := mkS [32]) (s := 32) (S := []) rfl (by decide +kernel) (by simpa using hne)]
  · rw [List.map_map]
    refine (List.map_congr_left fun r _ => ?_).trans (List.map_id rs)
    simp [mkS]
  · intro p hp
    obtain ⟨r, hr, rfl⟩ := List.mem_map.mp hp
    intro h'
    exact h r hr (by simpa [TL.tl, mkS] using h')
/-! "".join of single signs -/
theorem joinS_nil : ∀ rs : List (List Nat), joinS [] rs = rs.flatten := by
  intro rs
  unfold joinS
  rw [TL.join_eq]
  have app : ∀ a b : Str, (a ++ b).cps.toList = a.cps.toList ++ b.cps.toList := fun a b => by
    show (a.cps ++ b.cps).toList = _
    simp
  have key : ∀ rs : List (List Nat), (Str.join (mkS []) (rs.map mkS)).cps.toList = rs.flatten := by
    intro rs
    induction rs with
    | nil => rfl
    | cons r rs ih =>
      cases rs with
      | nil => simp [Str.join, mkS]
      | cons r' rs =>
        show (mkS r ++ mkS [] ++ Str.join (mkS []) ((r' :: rs).map mkS)).cps.toList = _
        rw [app, app, ih]
        simp [mkS]
  exact key rs
end Dt
end
section
set_option maxRecDepth 100000
set_option maxHeartbeats 4000000
/-! PM: rows, parts, clashes: plain. -/
namespace Pm
/-- a row has a part -/
def has : List Nat → List Nat → Bool
  | [], [] => true
  | a :: r, b :: p => (b == 45 || b == a) && has r p
  | _, _ => false
theorem has_len : ∀ {r p : List Nat}, has r p = true → p.length = r.length
  | [], [], _ => rfl
  | a :: r, b :: p, h => by
    simp only [has, Bool.and_eq_true] at h
    simp [has_len h.2]
  | [], _ :: _, h => by simp [has] at h
  | _ :: _, [], h => by simp [has] at h
def hasAny (l : List (List Nat)) (p : List Nat) : Bool := l.any fun r => has r p
/-- the parts of a row, sign by sign -/
def grow (found : List (List Nat)) (c : Nat) : List (List Nat) := found.flatMap fun p => [p ++ [45], p ++ [c]]
def gens (r : List Nat) : List (List Nat) := r.foldl grow [[]]
theorem mem_grow {found : List (List Nat)} {c : Nat} {p : List Nat} : p ∈ grow found c ↔ ∃ q ∈ found, p = q ++ [45] ∨ p = q ++ [c] := by
  simp [grow]
theorem mem_fold : ∀ {r : List Nat} {found : List (List Nat)} {p : List Nat}, p ∈ r.foldl grow found ↔ ∃ q ∈ found, ∃ s, p = q ++ s ∧ has r s = true
  | [], found, p => by
    constructor
    · intro h; exact ⟨p, h, [], by simp, rfl⟩
    · rintro ⟨q, hq, s, rfl, h⟩
      cases s with
      | nil => simpa using hq
      | cons a s => simp [has] at h
  | c :: r, found, p => by
    rw [List.foldl_cons, mem_fold]
    constructor
    · rintro ⟨q, hq, s, rfl, h⟩
      obtain ⟨t, ht, rfl | rfl⟩ := mem_grow.mp hq
      · exact ⟨t, ht, 45 :: s, by simp, by simp [has, h]⟩
      · exact ⟨t, ht, c :: s, by simp, by simp [has, h]⟩
    · rintro ⟨q, hq, s, rfl, h⟩
      cases s with
      | nil => simp [has] at h
      | cons b s =>
        simp only [has, Bool.and_eq_true, Bool.or_eq_true, beq_iff_eq] at h
        rcases h.1 with rfl | rfl
        · exact ⟨q ++ [45], mem_grow.mpr ⟨q, hq, .inl rfl⟩, s, by simp, h.2⟩
        · exact ⟨q ++ [b], mem_grow.mpr ⟨q, hq, .inr rfl⟩, s, by simp, h.2⟩
theorem mem_gens {r p : List Nat} : p ∈ gens r ↔ has r p = true := by
  unfold gens
  rw [mem_fold]
  simp
theorem len_grow (found : List (List Nat)) (c : Nat) : (grow found c).length = 2 * found.length := by
  induction found with
  | nil => rfl
  | cons p l ih => simp only [grow, List.flatMap_cons, List.length_append, List.length_cons, List.length_nil] at ih ⊢; omega
theorem len_fold : ∀ (r : List Nat) (found : List (List Nat)), (r.foldl grow found).length = 2 ^ r.length * found.length
  | [], found => by simp
  | c :: r, found => by rw [List.foldl_cons, len_fold, len_grow, List.length_cons, Nat.pow_succ, Nat.mul_assoc]
theorem fold_lens {k : Nat} : ∀ {r : List Nat} {found : List (List Nat)}, (∀ p ∈ found, p.length = k) → ∀ p ∈ r.foldl grow found, p.length = k + r.length := by
  intro r found h p hp
  obtain ⟨q, hq, s, rfl, hs⟩ := mem_fold.mp hp
  simp [h q hq, has_len hs]
/-- all parts for n issues, in the order of texts -/
def grow3 (found : List (List Nat)) : List (List Nat) := found.flatMap fun p => [p ++ [45], p ++ [48], p ++ [49]]
def partsL : Nat → List (List Nat)
  | 0 => [[]]
  | n + 1 => grow3 (partsL n)
theorem len_grow3 (found : List (List Nat)) : (grow3 found).length = 3 * found.length := by
  induction found with
  | nil => rfl
  | cons p l ih => simp only [grow3, List.flatMap_cons, List.length_append, List.length_cons, List.length_nil] at ih ⊢; omega
theorem len_partsL : ∀ n, (partsL n).length = 3 ^ n
  | 0 => rfl
  | n + 1 => by rw [partsL, len_grow3, len_partsL n, Nat.pow_succ]; omega
theorem mem_partsL {p : List Nat} : ∀ {n}, p ∈ partsL n ↔ p.length = n ∧ ∀ c ∈ p, c = 45 ∨ c = 48 ∨ c = 49
  | 0 => by
    simp only [partsL, List.mem_singleton]
    constructor
    · rintro rfl; simp
    · rintro ⟨h, _⟩; exact List.length_eq_zero_iff.mp h
  | n + 1 => by
    simp only [partsL, grow3, List.mem_flatMap, mem_partsL (n := n)]
    constructor
    · rintro ⟨q, ⟨h1, h2⟩, h⟩
      simp only [List.mem_cons, List.not_mem_nil, or_false] at h
      rcases h with rfl | rfl | rfl
      · exact ⟨by simp [h1], fun c hc => (List.mem_append.mp hc).elim (h2 c) fun q => .inl (by simpa using q)⟩
      · exact ⟨by simp [h1], fun c hc => (List.mem_append.mp hc).elim (h2 c) fun q => .inr (.inl (by simpa using q))⟩
      · exact ⟨by simp [h1], fun c hc => (List.mem_append.mp hc).elim (h2 c) fun q => .inr (.inr (by simpa using q))⟩
    · rintro ⟨h1, h2⟩
      have hne : p ≠ [] := by rintro rfl; simp at h1
      refine ⟨p.dropLast, ⟨by simp [h1], fun c hc => h2 c (List.dropLast_subset _ hc)⟩, ?_⟩
      have := h2 _ (List.getLast_mem hne)
      have e := List.dropLast_concat_getLast hne
      simp only [List.mem_cons, List.not_mem_nil, or_false]
      rcases this with q | q | q
      · exact .inl (by rw [q] at e; exact e.symm)
      · exact .inr (.inl (by rw [q] at e; exact e.symm))
      · exact .inr (.inr (by rw [q] at e; exact e.symm))
/-- the issues to which a part has answers -/
def ans (p : List Nat) : List Nat := (List.range p.length).filter fun i => !(p.getD i 0 == 45)
theorem mem_ans {p : List Nat} {i : Nat} : i ∈ ans p ↔ i < p.length ∧ p.getD i 0 ≠ 45 := by
  simp [ans]
theorem len_ans (p : List Nat) : (ans p).length ≤ p.length := by
  have := List.length_filter_le (fun i => !(p.getD i 0 == 45)) (List.range p.length)
  simpa [ans] using this
/-- a part without an answer -/
def wo (p : List Nat) (i : Nat) : List Nat := p.take i ++ [45] ++ p.drop (i + 1)
theorem wo_len {p : List Nat} {i : Nat} (h : i < p.length) : (wo p i).length = p.length := by
  simp [wo]; omega
def isClash (l : List (List Nat)) (p : List Nat) : Bool := !hasAny l p && (ans p).all fun i => hasAny l (wo p i)
/-- as the sort has it -/
def enc (p : List Nat) : Dt.D := .tup [.int (ans p).length, .str p]
def clashes (n : Nat) (l : List (List Nat)) : List (List Nat) := ((partsL n).filter (isClash l)).mergeSort fun a b => Dt.leT (enc a) (enc b)
theorem mem_clashes {n : Nat} {l : List (List Nat)} {p : List Nat} : p ∈ clashes n l ↔ p ∈ partsL n ∧ isClash l p = true := by
  unfold clashes
  rw [List.mem_mergeSort, List.mem_filter]
theorem len_clashes (n : Nat) (l : List (List Nat)) : (clashes n l).length ≤ 3 ^ n := by
  unfold clashes
  rw [List.length_mergeSort, ← len_partsL n]
  exact List.length_filter_le ..
/-- how many voters can reject an answer that wins -/
def room (n q : Int) (c : Nat) : Int := if c = 49 then n - q else q - 1
def rooms (n : Int) (qs : List Int) (p : List Nat) : List Int := (ans p).map fun i => room n (qs.getD i 0) (p.getD i 0)
end Pm
end
section
set_option maxRecDepth 100000
set_option maxHeartbeats 4000000
/-! WG: comprehensions of two clauses; keys of dicts. -/
namespace Dt
open PySem
def wpG (vs : List Nat) (t : D → Sl → Option Sl) (B : Sl → List D → Option (List D × Sl)) (ds acc : List D) (env : Sl) (K : List D → Sl → Prop) : Prop := match compG vs t B ds acc env with
  | some (xs, e) => K xs e
  | none => False
def wpB (B : Sl → List D → Option (List D × Sl)) (env : Sl) (acc : List D) (K : List D → Sl → Prop) : Prop := match B env acc with
  | some (xs, e) => K xs e
  | none => False
section
variable {vs vs1 : List Nat} {t t1 : D → Sl → Option Sl} {B : Sl → List D → Option (List D × Sl)} {c c1 : M Bool} {f : M EV} {fi : M (List D)} {env : Sl} {K : List D → Sl → Prop} {acc : List D}
theorem wp_eComp2 {Q : EV → Sl → Prop} {X : ExD → Sl → Prop} {items : M (List D)} (h : wp items env (fun ds e => ∀ e', wipeE e vs = e' → wpG vs t (bTwo vs1 c fi t1 (bOne c1 f)) ds [] e' fun xs e2 => xs.length ≤ 1000000 ∧ Q (.o (.lst xs)) e2) X) : wp (eComp2 vs vs1 items t c fi t1 c1 f) env Q X := by
  unfold eComp2
  refine wp_bind (wp_mono h (fun ds e q => ?_) fun _ _ q => q)
  have q := q _ rfl
  unfold wpG at q
  unfold wp
  cases z : compG vs t (bTwo vs1 c fi t1 (bOne c1 f)) ds [] (wipeE e vs) with
  | none => rw [z] at q; exact q.elim
  | some p =>
    rw [z] at q
    dsimp only at q ⊢
    rw [z]
    dsimp only
    rw [if_pos q.1]
    exact q.2
theorem wpG_nil (h : K acc env) : wpG vs t B [] acc env K := h
theorem wpG_cons {d : D} {ds : List D} (h : ∃ e1, t d env = some e1 ∧ wpB B e1 acc fun p e3 => ∀ e', wipeE e3 vs = e' → wpG vs t B ds p e' K) : wpG vs t B (d :: ds) acc env K := by
  obtain ⟨e1, h1, h2⟩ := h
  unfold wpG compG
  rw [h1]
  unfold wpB at h2
  dsimp only [Option.bind]
  cases z : B e1 acc with
  | none => rw [z] at h2; exact h2
  | some p => rw [z] at h2; exact h2 _ rfl
theorem wpG_mnil {α : Type} {inj : α → D} (h : K acc env) : wpG vs t B (([] : List α).map inj) acc env K := h
theorem wpG_mcons {α : Type} {inj : α → D} {a : α} {l : List α} (h : ∃ e1, t (inj a) env = some e1 ∧ wpB B e1 acc fun p e3 => ∀ e', wipeE e3 vs = e' → wpG vs t B (l.map inj) p e' K) : wpG vs t B ((a :: l).map inj) acc env K := wpG_cons h
theorem wpG_I {α : Type} {inj : α → D} (I : List α → List D → Sl → Prop) : ∀ (l pre : List α) (acc : List D) (env : Sl), I pre acc env → (∀ mid a post, l = mid ++ a :: post → ∀ acc e, I (pre ++ mid) acc e → ∃ e1, t (inj a) e = some e1 ∧ wpB B e1 acc fun p e3 => ∀ e', wipeE e3 vs = e' → I (pre ++ mid ++ [a]) p e') → (∀ xs e, I (pre ++ l) xs e → K xs e) → wpG vs t B (l.map inj) acc env K
  | [], pre, acc, env, h, _, hK => hK _ _ (by simpa using h)
  | a :: l, pre, acc, env, h, st, hK => by
    obtain ⟨e1, h1, h2⟩ := st [] a l rfl acc env (by simpa using h)
    refine wpG_mcons ⟨e1, h1, ?_⟩
    unfold wpB at h2 ⊢
    cases z : B e1 acc with
    | none => rw [z] at h2; exact h2
    | some p =>
      rw [z] at h2
      exact fun e' he' => wpG_I I l (pre ++ [a]) p.1 e' (by simpa using h2 e' he') (fun mid b post hm acc e he => by
        have := st (a :: mid) b post (by rw [hm]; rfl) acc e (by simpa using he)
        simpa using this) fun xs e he => hK xs e (by simpa using he)
/-- without effects -/
theorem wpG_flat {α : Type} {inj : α → D} {l : List α} (g : α → List D) (st : ∀ a, a ∈ l → ∀ acc, ∃ e1, t (inj a) env = some e1 ∧ wpB B e1 acc fun p e3 => p = acc ++ g a ∧ wipeE e3 vs = env) (k : K (l.flatMap g) env) : wpG vs t B (l.map inj) [] env K := by
  refine wpG_I (fun pre xs e => xs = pre.flatMap g ∧ e = env) l [] [] env ⟨rfl, rfl⟩ (fun mid a post hm acc e ⟨h1, h2⟩ => ?_) fun xs e ⟨h1, h2⟩ => by subst h1; subst h2; simpa using k
  subst h1; subst h2
  obtain ⟨e1, h3, h4⟩ := st a (by rw [hm]; simp) (([] ++ mid).flatMap g)
  refine ⟨e1, h3, ?_⟩
  unfold wpB at h4 ⊢
  cases z : B e1 (([] ++ mid).flatMap g) with
  | none => rw [z] at h4; exact h4
  | some p =>
    rw [z] at h4
    exact fun e' he' => ⟨by rw [h4.1]; simp, by rw [← he', h4.2]⟩
theorem wpB_two (h : wp fi env (fun items e3 => ∀ e', wipeE e3 vs1 = e' → wpG vs1 t1 (bOne c1 f) items acc e' K) NoX) : wpB (bTwo vs1 bYes fi t1 (bOne c1 f)) env acc K := by
  unfold wpB bTwo
  unfold wp at h
  show (match (match fi env with
    | some (.ok items e3) => compG vs1 t1 (bOne c1 f) items acc (wipeE e3 vs1)
    | _ => none) with | some (xs, e) => K xs e | none => False)
  cases z : fi env with
  | none => rw [z] at h; exact h
  | some r => rw [z] at h; cases r with
    | exc x e => exact h.elim
    | ok items e3 => exact h _ rfl
theorem wpB_one (h : wp f env (fun v e3 => wpo (frz v) fun x => K (acc ++ [x]) e3) NoX) : wpB (bOne bYes f) env acc K := by
  unfold wpB bOne
  unfold wp at h
  show (match (match f env with
    | some (.ok ev e3) => (frz ev).map fun x => (acc ++ [x], e3)
    | _ => none) with | some (xs, e) => K xs e | none => False)
  cases z : f env with
  | none => rw [z] at h; exact h
  | some r => rw [z] at h; cases r with
    | exc x e => exact h.elim
    | ok v e3 =>
      dsimp only at h ⊢
      cases z2 : frz v with
      | none => rw [z2] at h; exact h
      | some x => rw [z2] at h; exact h
end
/-! ### objects made of values -/
theorem sidx_vals (ds : List D) : sidx (ds.map AV.v) = [] := by
  induction ds with
  | nil => rfl
  | cons d ds ih => simpa [sidx] using ih
theorem argsOf_vals (e : Sl) (ds : List D) : argsOf e (ds.map AV.v) = some (ds.map Dt.Slot.val) := by
  induction ds with
  | nil => rfl
  | cons d ds ih => simp [argsOf, argOf, ih]
theorem back_vals : ∀ (ds : List D) (e os : Sl), back e (ds.map AV.v) os = e
  | [], e, os => by cases os <;> rfl
  | d :: ds, e, [] => rfl
  | d :: ds, e, o :: os => back_vals ds e os
theorem put_last (env : Sl) (c : OC) (o : Dt.Slot) : put1 (env ++ [.own c]) env.length o = env ++ [o] := by
  unfold put1
  rw [if_pos (by simp [isOwn])]
  simp
theorem wp_makeVals {Q : EV → Sl → Prop} {X : ExD → Sl → Prop} {t : Nat} {g : M EV} {ds : List D} {env : Sl} (h : wp g (.own (.ins t []) :: ds.map Dt.Slot.val) (fun v o => v = .v .non ∧ ∃ fs o', o = .own (.ins t fs) :: o' ∧ fs.length = (FL t).length ∧ Q (.v (.obj t fs)) env) (fun x o => X x env)) : wp (makeM t g (ds.map AV.v)) env Q X := by
  have ha : argsOf (env ++ [.own (.ins t [])]) (.s env.length :: ds.map AV.v) = some (.own (.ins t []) :: ds.map Dt.Slot.val) := by
    have h1 : argOf (env ++ [.own (.ins t [])]) (.s env.length) = some (.own (.ins t [])) := by simp [argOf, argS]
    show (argOf (env ++ [.own (.ins t [])]) (.s env.length)).bind _ = _
    rw [h1]
    show (argsOf (env ++ [.own (.ins t [])]) (ds.map AV.v)).map _ = _
    rw [argsOf_vals]; rfl
  refine wp_makeM (by simp [sidx, sidx_vals]) ha (wp_mono h (fun v o hh => ?_) fun x o hh e' he' => ?_)
  · obtain ⟨h1, fs, o', rfl, h2, h3⟩ := hh
    refine ⟨h1, fs, o', rfl, h2, fun e' he' => ?_⟩
    have e1 : back (env ++ [.own (.ins t [])]) (.s env.length :: ds.map AV.v) (.own (.ins t fs) :: o') = env ++ [.own (.ins t fs)] := by
      show back (put1 _ _ _) _ _ = _
      rw [back_vals, put_last]
    rw [e1] at he' ⊢
    have : env = e' := by rw [← he']; simp
    subst this
    exact ⟨by simp, h3⟩
  · have : e' = env := by
      cases o with
      | nil => rw [← he']; show List.take env.length (env ++ [_]) = env; simp
      | cons s o =>
        have e1 : back (env ++ [.own (.ins t [])]) (.s env.length :: ds.map AV.v) (s :: o) = env ++ [s] := by
          show back (put1 _ _ _) _ _ = _
          rw [back_vals, put_last]
        rw [← he', e1]; simp
    subst this
    exact hh
/-! ### keys -/
theorem put_keys : ∀ {ks : List L2.Key} {vs : List D} {k : L2.Key} {d : D}, ks.length = vs.length → (dicPut ks vs k d).1.length = (dicPut ks vs k d).2.length ∧ (∀ x, x ∈ (dicPut ks vs k d).1 ↔ x ∈ ks ∨ x = k) ∧ (ks.Nodup → (dicPut ks vs k d).1.Nodup) ∧ (dicPut ks vs k d).1.length ≤ ks.length + 1
  | [], [], _, _, _ => by simp [dicPut]
  | [], _ :: _, _, _, h => by simp at h
  | _ :: _, [], _, _, h => by simp at h
  | a :: ks, x :: vs, k, d, h => by
    have h' : ks.length = vs.length := by simpa using h
    obtain ⟨i1, i2, i3, i4⟩ := put_keys (k := k) (d := d) h'
    by_cases e : a = k
    · subst e
      refine ⟨by simp [dicPut, h'], fun x => ?_, fun n => by simpa [dicPut] using n, by simp [dicPut]⟩
      simp only [dicPut, if_true, List.mem_cons]
      constructor
      · rintro (q | q) <;> simp [q]
      · rintro ((q | q) | q) <;> simp [q]
    · refine ⟨by simp [dicPut, e, i1], fun x => ?_, fun n => ?_, by simp [dicPut, e]; omega⟩
      · simp only [dicPut, e, if_false, List.mem_cons, i2, or_assoc]
      · obtain ⟨n1, n2⟩ := List.nodup_cons.mp n
        simp only [dicPut, e, if_false]
        refine List.nodup_cons.mpr ⟨fun q => ?_, i3 n2⟩
        rcases (i2 a).mp q with q | q
        · exact n1 q
        · exact e q
/-- a dict that is a set of texts -/
structure DSet (ks : List L2.Key) (vs : List D) (P : List Nat → Prop) (n : Nat) : Prop where
  len : ks.length = vs.length
  nd : ks.Nodup
  mem : ∀ k, k ∈ ks ↔ ∃ s, k = .inr (mkS s) ∧ P s
  sz : ks.length ≤ n
theorem DSet.nil {n : Nat} : DSet [] [] (fun _ => False) n := ⟨rfl, List.nodup_nil, fun k => by simp, Nat.zero_le _⟩
theorem DSet.put {ks : List L2.Key} {vs : List D} {P : List Nat → Prop} {n : Nat} (h : DSet ks vs P n) (s : List Nat) (d : D) : DSet (dicPut ks vs (.inr (mkS s)) d).1 (dicPut ks vs (.inr (mkS s)) d).2 (fun x => P x ∨ x = s) (n + 1) := by
  obtain ⟨h1, h2, h3, h4⟩ := put_keys (k := .inr (mkS s)) (d := d) h.len
  refine ⟨h1, h3 h.nd, fun k => ?_, by have := h.sz; omega⟩
  rw [h2, h.mem]
  constructor
  · rintro (⟨x, e, hx⟩ | e)
    · exact ⟨x, e, .inl hx⟩
    · exact ⟨s, e, .inr rfl⟩
  · rintro ⟨x, e, hx | rfl⟩
    · exact .inl ⟨x, e, hx⟩
    · exact .inr e
theorem DSet.congr {ks : List L2.Key} {vs : List D} {P P' : List Nat → Prop} {n n' : Nat} (h : DSet ks vs P n) (e : ∀ x, P x ↔ P' x) (hn : n ≤ n') : DSet ks vs P' n' :=
  ⟨h.len, h.nd, fun k => by rw [h.mem]; exact ⟨fun ⟨s, a, b⟩ => ⟨s, a, (e s).mp b⟩, fun ⟨s, a, b⟩ => ⟨s, a, (e s).mpr b⟩⟩, Nat.le_trans h.sz hn⟩
theorem DSet.has {ks : List L2.Key} {vs : List D} {P : List Nat → Prop} {n : Nat} (h : DSet ks vs P n) (s : List Nat) {b : Bool} (hb : b = true ↔ P s) : (ks.any fun a => decide (a = .inr (mkS s))) = b := by
  rw [Bool.eq_iff_iff, hb, List.any_eq_true]
  constructor
  · rintro ⟨a, ha, e⟩
    obtain ⟨x, rfl, hx⟩ := (h.mem a).mp ha
    have e := of_decide_eq_true e
    have e2 : mkS x = mkS s := by injection e
    rw [mkS_inj] at e2
    exact e2 ▸ hx
  · intro hs
    exact ⟨_, (h.mem _).mpr ⟨s, rfl, hs⟩, by simp⟩
theorem wpo_inDic {ks : List L2.Key} {vs : List D} {P : List Nat → Prop} {n : Nat} {s : List Nat} {b : Bool} {K : EV → Prop} (h : DSet ks vs P n) (hb : b = true ↔ P s) (k : K (.v (.bl b))) : wpo (inX (.str s) (.dic ks vs)) K := by
  refine wpo_of (a := .v (.bl b)) ?_ k
  have e : dinD false (.str s) (.dic ks vs) = some (.v (.bl b)) := by
    show some (vB (false ^^ ks.any fun a => decide (a = .inr (mkS s)))) = _
    rw [h.has s hb]
    cases b <;> rfl
  have e1 : inD (.str s) (.dic ks vs) = none := by
    cases s with
    | nil => rfl
    | cons a s => cases s <;> rfl
  show (match inD (.str s) (.dic ks vs) with | some r => some r | none => orD (inP false) (dinD false) (.str s) (.dic ks vs)) = _
  rw [e1]
  exact e
theorem wpo_ninDic {ks : List L2.Key} {vs : List D} {P : List Nat → Prop} {n : Nat} {s : List Nat} {b : Bool} {K : EV → Prop} (h : DSet ks vs P n) (hb : b = true ↔ P s) (k : K (.v (.bl (!b)))) : wpo (ninX (.str s) (.dic ks vs)) K := by
  refine wpo_of (a := .v (.bl (!b))) ?_ k
  have e : dinD true (.str s) (.dic ks vs) = some (.v (.bl (!b))) := by
    show some (vB (true ^^ ks.any fun a => decide (a = .inr (mkS s)))) = _
    rw [h.has s hb]
    cases b <;> rfl
  have e1 : ninD (.str s) (.dic ks vs) = none := by
    cases s with
    | nil => rfl
    | cons a s => cases s <;> rfl
  show (match ninD (.str s) (.dic ks vs) with | some r => some r | none => orD (inP true) (dinD true) (.str s) (.dic ks vs)) = _
  rw [e1]
  exact e
/-- a sign among signs -/
theorem wpo_inSign {c : Nat} {s : List Nat} {K : EV → Prop} (k : K (.v (.bl (decide (c ∈ s))))) : wpo (inX (.str [c]) (.str s)) K := by
  refine wpo_of (a := .v (.bl (decide (c ∈ s)))) ?_ k
  show some (vB (false ^^ decide (c ∈ s))) = _
  simp [vB]
end Dt
end
section
set_option maxRecDepth 100000
set_option maxHeartbeats 4000000
/-! WH: e[::-1], repr with dicts, values of any kind. -/
namespace Dt
open PySem L2
section
variable {env : Sl} {X : ExD → Sl → Prop}
end
/-! ### plain values of any kind -/
def Pln (d : D) : Prop := (∃ p, toP d = some p) ∨ ∃ p, toQ d = some p
theorem toPL_mem : ∀ {ds : List D} {ps : List PyData}, toPL ds = some ps → ∀ d ∈ ds, ∃ p, toP d = some p
  | [], _, _, d, h => by cases h
  | e :: ds, _, h, d, hd => by
    unfold toPL at h
    obtain ⟨p, h1, h⟩ := opt_bind h
    obtain ⟨qs, h2, rfl⟩ := Option.map_eq_some_iff.mp h
    rcases List.mem_cons.mp hd with rfl | hd
    · exact ⟨p, h1⟩
    · exact toPL_mem h2 d hd
theorem toQL_mem : ∀ {ds : List D} {ps : List PyData}, toQL ds = some ps → ∀ d ∈ ds, ∃ p, toQ d = some p
  | [], _, _, d, h => by cases h
  | e :: ds, _, h, d, hd => by
    unfold toQL at h
    obtain ⟨p, h1, h⟩ := opt_bind h
    obtain ⟨qs, h2, rfl⟩ := Option.map_eq_some_iff.mp h
    rcases List.mem_cons.mp hd with rfl | hd
    · exact ⟨p, h1⟩
    · exact toQL_mem h2 d hd
theorem Pln.tup {ds : List D} (h : Pln (.tup ds)) : ∀ d ∈ ds, Pln d := by
  rcases h with ⟨p, h⟩ | ⟨p, h⟩
  · unfold toP at h
    obtain ⟨ps, h1, _⟩ := Option.map_eq_some_iff.mp h
    exact fun d hd => .inl (toPL_mem h1 d hd)
  · unfold toQ at h
    obtain ⟨ps, h1, _⟩ := Option.map_eq_some_iff.mp h
    exact fun d hd => .inr (toQL_mem h1 d hd)
theorem Pln.lst {ds : List D} (h : Pln (.lst ds)) : ∀ d ∈ ds, Pln d := by
  rcases h with ⟨p, h⟩ | ⟨p, h⟩
  · unfold toP at h
    obtain ⟨ps, h1, _⟩ := Option.map_eq_some_iff.mp h
    exact fun d hd => .inl (toPL_mem h1 d hd)
  · cases h
/-- it can be shown: by both roads -/
def Sh (d : D) (w k : Nat) : Prop := Shw d w k ∨ ShQ d w k
theorem Sh.pln {d : D} {w k : Nat} (h : Sh d w k) : Pln d := by
  rcases h with ⟨p, h, _⟩ | ⟨p, h, _⟩
  · exact .inl ⟨p, h⟩
  · exact .inr ⟨p, h⟩
theorem Sh.mono {d : D} {w w' k k' : Nat} (h : Sh d w k) (h1 : w ≤ w') (h2 : k ≤ k') : Sh d w' k' := h.elim (fun h => .inl (h.mono h1 h2)) fun h => .inr (h.mono h1 h2)
/-- data without lists and dicts: shown by both roads -/
def Sh2 (d : D) (w k : Nat) : Prop := Shw d w k ∧ ShQ d w k
theorem Sh2.mono {d : D} {w w' k k' : Nat} (h : Sh2 d w k) (h1 : w ≤ w') (h2 : k ≤ k') : Sh2 d w' k' := ⟨h.1.mono h1 h2, h.2.mono h1 h2⟩
def Sh2L (ds : List D) (w k : Nat) : Prop := ShwL ds w k ∧ ShQL ds w k
theorem Sh2L.mono {d : List D} {w w' k k' : Nat} (h : Sh2L d w k) (h1 : w ≤ w') (h2 : k ≤ k') : Sh2L d w' k' := ⟨h.1.mono h1 h2, h.2.mono h1 h2⟩
theorem wpo_repr2 {d : D} {t : List Nat} {K : EV → Prop} (h : reprY [d] = some (.v (.str t))) (q : K (.v (.str t))) : wpo (reprY [d]) K := wpo_of h q
end Dt
end
section
set_option maxRecDepth 100000
set_option maxHeartbeats 4000000
/-! WI: rules of R7. -/
namespace Dt
open PySem L2
section
variable {env e1 : Sl} {X : ExD → Sl → Prop} {N : Sl → Prop} {P : Ps}
instance {p q : Bool} : Op2 (isB true) (.bl p) (.bl q) True (.v (.bl (!(p == q)))) := ⟨fun _ => by simp [isB, vB]⟩
end
end Dt
end
section
set_option maxRecDepth 100000
set_option maxHeartbeats 4000000
/-! WJ: while, try .. as. -/
namespace Dt
open PySem L2
section
variable {env e1 : Sl} {X : ExD → Sl → Prop} {N : Sl → Prop} {P : Ps}
section
variable {vs : List Nat} {t : D → Sl → Option Sl} {f : M EV} {K : List D → Sl → Prop}
/-- with effects, all items, counted -/
theorem wpc_relN {α : Type} {inj : α → D} {l : List α} (I : Nat → Sl → Prop) (R : α → D → Prop) (h0 : I 0 env) (st : ∀ j a, j < l.length → a ∈ l → ∀ e, I j e → ∃ e1, t (inj a) e = some e1 ∧ wp f e1 (fun v e3 => ∃ x, frz v = some x ∧ R a x ∧ I (j + 1) (wipeE e3 vs)) NoX) (k : ∀ xs e, All2 R l xs → I l.length e → K xs e) : wpc vs t bYes f (l.map inj) [] env K := by
  refine wpc_I (fun pre xs e => All2 R pre xs ∧ I pre.length e) l [] [] env ⟨.nil, h0⟩ (fun mid a post hm acc e ⟨h1, h2⟩ => ?_) fun xs e ⟨h1, h2⟩ => k xs e (by simpa using h1) (by simpa using h2)
  obtain ⟨e1, h3, h4⟩ := st mid.length a (by rw [hm]; simp) (by rw [hm]; simp) e (by simpa using h2)
  refine ⟨e1, h3, wp_ret ⟨fun _ => wp_mono h4 (fun v e3 ⟨x, q1, q2, q3⟩ => ?_) fun _ _ q => q, fun h => by cases h⟩⟩
  rw [q1]
  have app : ∀ {l1 : List α} {x1 : List D}, All2 R l1 x1 → All2 R (l1 ++ [a]) (x1 ++ [x]) := by
    intro l1 x1 h
    induction h with
    | nil => exact .cons q2 .nil
    | cons h t ih => exact .cons h ih
  exact fun e' he' => ⟨by simpa using app h1, by simpa using he' ▸ q3⟩
end
theorem enumL_map {α : Type} (z : α) (f : α → D) (l : List α) : ∀ j, enumL j (l.map f) = (List.range l.length).map fun i => D.tup [.int ((j + i : Nat) : Int), f (l.getD i z)] := by
  induction l with
  | nil => intro j; rfl
  | cons a l ih =>
    intro j
    rw [List.map_cons, enumL, ih, List.length_cons, List.range_succ_eq_map, List.map_cons, List.map_map]
    congr 1
    refine List.map_congr_left fun i _ => ?_
    show D.tup [.int ((j + 1 + i : Nat) : Int), _] = D.tup [.int ((j + (i + 1) : Nat) : Int), _]
    rw [show j + 1 + i = j + (i + 1) by omega]
    rfl
end
theorem rgD_nat (n : Nat) : rgD 0 (n : Int) = (List.range n).map fun i : Nat => D.int (i : Int) := by simp [rgD]
instance {n : Nat} : Op1 (rg1 true) [.int (n : Int)] (n ≤ 1000) (.o (.lst ((List.range n).map fun i : Nat => D.int (i : Int)))) := ⟨fun h => by
  show (if small62 (n : Int) = true then some (if true = true then EV.o (.lst (rgD 0 n)) else .v (.tup (rgD 0 n))) else none) = _
  rw [if_pos (show small62 (n : Int) = true from decide_eq_true (by omega)), if_pos rfl, rgD_nat]⟩
end Dt
end
section
set_option maxRecDepth 100000
set_option maxHeartbeats 4000000
/-! WK: e.replace(one sign, text). -/
namespace Dt
open PySem L2
section
variable {env : Sl} {X : ExD → Sl → Prop}
end
end Dt
end
section
set_option maxRecDepth 100000
set_option maxHeartbeats 4000000
/-! WL: several clauses, own +. -/
namespace Dt
open PySem L2
section
variable {env : Sl} {X : ExD → Sl → Prop} {N : Sl → Prop} {P : Ps}
end
end Dt
end
section
set_option maxRecDepth 100000
set_option maxHeartbeats 400000
/-! WM: x(lambda: ..) and list(f(..)) of generators that may raise. -/
namespace Dt
open PySem PySem.Spec L2
open PyProof.Rows hiding St
variable {X : ExD → Sl → Prop}
end Dt
end
section
set_option maxRecDepth 100000
set_option maxHeartbeats 400000
/-! WN: walks over generators. -/
namespace Dt
open PySem PySem.Spec L2
open PyProof.Rows hiding St
section
variable {X : ExD → Sl → Prop} {env : Sl} {N : Sl → Prop} {P : Ps} {Q : List D → Sl → Prop} {g : M (List D)} {fs : M (List AV)}
end
end Dt
end
section
set_option maxRecDepth 100000
set_option maxHeartbeats 4000000
/-! PV: votes, results, clashes: plain. -/
namespace Pm
/-- how many votes have yes at an issue -/
def cnt (vs : List (List Nat)) (i : Nat) : Nat := vs.countP fun v => v.getD i 0 == 49
def res (qs : List Int) (vs : List (List Nat)) : List Nat := (List.range qs.length).map fun i => if qs.getD i 0 ≤ (cnt vs i : Int) then 49 else 48
/-- votes put together: each row as often as there is room -/
def fill (n : Nat) : List (List Nat × Int) → List (List Nat) → List (List Nat)
  | [], acc => acc
  | (r, k) :: t, acc => fill n t (acc ++ List.replicate (min k ((n : Int) - acc.length)).toNat r)
def votes (n : Nat) (qs : List Int) (p : List Nat) (w : Nat → List Nat) : List (List Nat) := fill n ((ans p).map fun i => (w i, room n (qs.getD i 0) (p.getD i 0))) []
end Pm
end
section
namespace Pg
open PySem Dt Pm
local macro_rules
  | `(tactic| array_get_dec) => `(tactic| first
    | ((with_reducible refine guard_E ?_); (first
      | (with_reducible refine wp_toA ?_)
      | ((with_reducible refine v_oName ?_); (refine ⟨_, rfl, ?_⟩))
      | ((with_reducible refine o_oName ?_); (refine ⟨_, rfl, ?_⟩))
      | (with_reducible refine wp_asCons ?_)
      | (with_reducible refine wp_asNil ?_)
      | (with_reducible refine wp_eC ?_)
      | (with_reducible refine wp_eOp ?_)
      | ((with_reducible refine v_opM ?_); (refine ⟨_, _, rfl, rfl, ?_⟩))
      | (with_reducible refine wp_eCall ?_)
      | ((with_reducible refine v_callM ?_ ?_); (focus (simp only [Dt.sidx]; decide)))
      | ((with_reducible refine v_eName ?_); (refine ⟨_, rfl, ?_⟩))
      | ((with_reducible refine o_eName ?_); (refine ⟨_, _, rfl, rfl, ?_⟩))
      | ((with_reducible refine r_eName ?_); (refine ⟨_, _, rfl, by assumption, ?_⟩))
      | (with_reducible refine wp_toB ?_)
      | (with_reducible refine wp_eTup ?_)
      | (with_reducible refine wp_eLst ?_)
      | (with_reducible refine wp_eB ?_)
      | (with_reducible refine v_bM ?_)
      | (with_reducible refine wp_eBM ?_)
      | ((with_reducible refine v_tyM ?_); (refine ⟨_, rfl, rfl, ?_⟩))
      | (with_reducible refine wp_bind ?_)
      | (with_reducible refine wp_ret ?_)
      | (with_reducible refine wp_eChain ?_)
      | (with_reducible refine wp_bAnd ?_)
      | (with_reducible refine wp_bOr ?_)
      | (with_reducible refine wp_bNot ?_)
      | (with_reducible refine wp_eAnd ?_)
      | (with_reducible refine wp_eOr ?_)
      | (with_reducible refine wp_eNot ?_)
      | (with_reducible refine wp_eIf ?_)
      | (with_reducible refine wp_iOf ?_)
      | (with_reducible refine wp_iRange1 ?_)
      | (with_reducible refine wp_iRange2 ?_)
      | (with_reducible refine wp_iEnum1 ?_)
      | (with_reducible refine wp_iZip2 ?_)
      | ((with_reducible refine wp_mutM ?_ ?_); (focus exact rfl))
      | (with_reducible refine wp_atV ?_)
      | ((with_reducible refine wp_grd ?_ ?_); (focus exact rfl))
      | ((with_reducible refine v_setLM ?_); (refine ⟨_, rfl, ?_⟩))
      | (with_reducible refine wp_eSlice ?_)
      | (with_reducible refine wp_pNo ?_)
      | (with_reducible refine wp_pYes ?_)
      | (with_reducible refine wp_eIsi ?_)
      | (with_reducible refine wp_eMaxD ?_)
      | (with_reducible refine wp_eNeg ?_)
      | (with_reducible refine wp_eDict0 ?_)
      | ((with_reducible refine v_disp1 ?_); (refine ⟨_, rfl, ?_⟩))
      | (with_reducible refine wp_eFld ?_)
      | ((with_reducible refine v_setFM ?_); (refine ⟨_, _, _, rfl, rfl, rfl, ?_⟩))
      | (with_reducible refine wp_eMeth ?_)
      | (with_reducible refine wp_eProp ?_)
      | (with_reducible refine wp_eOpM ?_)
      | (with_reducible refine wp_inO ?_)
      | (with_reducible refine wp_spO ?_)
      | (with_reducible refine wp_spO1 ?_)
      | (with_reducible refine wp_eCMeth ?_)
      | (with_reducible refine wp_eMake ?_)
      | (with_reducible refine wp_eMakeS ?_)
      | ((with_reducible refine wp_eMakeSL ?_ ?_); (focus exact rfl))
      | (with_reducible refine wp_eComp ?_)
      | (with_reducible refine wp_eComp2 ?_)
      | ((with_reducible refine v_funD ?_ ?_); (focus exact rfl); (apply fin_mk); (focus (first | (conv => lhs; simp only [List.set_cons_zero, List.set_cons_succ, slotOf, vI, vB, back, put1, isOwn, wipeE, List.take_succ_cons, List.take_zero, List.cons_append, List.nil_append, List.replicate_succ, List.replicate_zero, Nat.reduceSub, List.getElem?_cons_zero, List.getElem?_cons_succ, if_true, if_false, Bool.false_eq_true, List.set_nil]) | skip); (first | done | exact rfl)))))
    | ((with_reducible refine guard_O ?_); (first
      | (with_reducible refine wpo_frz_v ?_)
      | (with_reducible refine wpo_frz_I ?_)
      | (with_reducible refine wpo_frz_B ?_)
      | (with_reducible refine wpo_frz_l ?_)
      | (with_reducible refine wpo_frz_d ?_)
      | (with_reducible refine v_vals ?_)
      | (with_reducible refine wpo_it_l ?_)
      | (with_reducible refine wpo_it_t ?_)
      | ((with_reducible refine wpo_it_s ?_ ?_); (focus first | exact trivial | assumption | omega | (simp only [List.length_cons, List.length_nil, List.length_map]; omega) | (exact rfl)))
      | ((with_reducible refine v_objOf ?_); (refine ⟨_, rfl, ?_⟩))
      | ((with_reducible refine v_objIs ?_); (refine ⟨_, rfl, ?_⟩))
      | (with_reducible refine wpo_isi ?_)
      | ((with_reducible refine v_deref ?_); (refine ⟨_, rfl, ?_⟩))
      | ((with_reducible refine wpo_one ?_ ?_); (focus exact rfl))
      | ((with_reducible refine v_starD ?_); (refine ⟨_, rfl, ?_⟩))
      | (with_reducible refine wpo_ints ?_)
      | (with_reducible refine wpo_ints1 ?_)
      | (with_reducible refine wpo_ints0 ?_)
      | ((with_reducible refine v_ixS ?_ ?_); (focus first | exact trivial | assumption | omega | (simp only [List.length_cons, List.length_nil, List.length_map]; omega) | (exact rfl)))
      | (with_reducible refine v_ix ?_)
      | (with_reducible refine wpo_inSign ?_)
      | ((with_reducible refine wpo_op2 ?_ ?_); (focus first | exact trivial | assumption | omega | (simp only [List.length_cons, List.length_nil, List.length_map]; omega) | (exact rfl)))
      | ((with_reducible refine wpo_op1 ?_ ?_); (focus first | exact trivial | assumption | omega | (simp only [List.length_cons, List.length_nil, List.length_map]; omega) | (exact rfl)))
      | ((with_reducible refine wpo_slS ?_ ?_); (focus first | exact trivial | assumption | omega | (simp only [List.length_cons, List.length_nil, List.length_map]; omega) | (exact rfl)))
      | (with_reducible refine wpo_slL ?_)
      | (with_reducible refine wpo_slT ?_)
      | (with_reducible refine v_get ?_)
      | (with_reducible refine wpo_bind ?_)
      | (with_reducible refine wpo_map ?_)))
    | ((with_reducible refine guard_S ?_); (first
      | (with_reducible refine wps_seq ?_)
      | (with_reducible refine wps_set ?_)
      | (with_reducible refine wps_expr ?_)
      | (with_reducible refine wps_ret ?_)
      | (with_reducible refine wps_if ?_)
      | (with_reducible refine wps_for ?_)
      | (with_reducible refine wps_nil ?_)
      | (with_reducible refine wps_setL ?_)
      | (with_reducible refine wps_par ?_)
      | (with_reducible refine wps_par1 ?_)
      | (with_reducible refine wps_parC' ?_)
      | (with_reducible refine wps_parN ?_)
      | ((with_reducible refine v_retV ?_); (refine ⟨_, rfl, ?_⟩))
      | ((with_reducible refine o_retV ?_); (refine ⟨_, rfl, rfl, ?_⟩))
      | ((with_reducible refine p_retV ?_); (refine ⟨_, _, rfl, rfl, rfl, ?_⟩))
      | (with_reducible refine wps_retN ?_)
      | (with_reducible refine wps_raise ?_)
      | (with_reducible refine wps_break ?_)
      | (with_reducible refine wps_cont ?_)
      | (with_reducible refine wps_try ?_)
      | (with_reducible refine wps_setF ?_)
      | (with_reducible refine wps_setD ?_)
      | (with_reducible refine wps_asg ?_)))
    | ((with_reducible refine fin_g ?_); (apply fin_mk); (focus (first | (conv => lhs; simp only [List.set_cons_zero, List.set_cons_succ, slotOf, vI, vB, back, put1, isOwn, wipeE, List.take_succ_cons, List.take_zero, List.cons_append, List.nil_append, List.replicate_succ, List.replicate_zero, Nat.reduceSub, List.getElem?_cons_zero, List.getElem?_cons_succ, if_true, if_false, Bool.false_eq_true, List.set_nil]) | skip); (first | done | exact rfl)))
    | (with_reducible refine rt_mk ?_)
    | (with_reducible refine bk_mk ?_)
    | (with_reducible refine ct_mk ?_)
    | (with_reducible refine ex_mk ?_)
    | (with_reducible refine der_nil ?_)
    | (with_reducible refine der_v ?_)
    | ((with_reducible refine der_s ?_); (refine ⟨_, rfl, ?_⟩))
    | (with_reducible refine val_nil ?_)
    | (with_reducible refine val_v ?_)
    | (with_reducible refine arg_nil ?_)
    | (with_reducible refine arg_v ?_)
    | ((with_reducible refine arg_s ?_); (refine ⟨_, rfl, ?_⟩))
    | ((with_reducible refine v_append ?_); (refine ⟨_, rfl, ?_, ?_⟩); (focus first | exact trivial | assumption | omega | (simp only [List.length_cons, List.length_nil, List.length_map]; omega) | (exact rfl)))
    | ((with_reducible refine v_extend ?_); (refine ⟨_, rfl, ?_, ?_⟩); (focus first | exact trivial | assumption | omega | (simp only [List.length_cons, List.length_nil, List.length_map]; omega) | (exact rfl)))
    | ((with_reducible refine v_pop ?_); (refine ⟨_, rfl, ?_, ?_⟩); (focus first | exact trivial | assumption | omega | (simp only [List.length_cons, List.length_nil, List.length_map]; omega) | (exact rfl)))
    | ((with_reducible refine v_pop0 ?_); (refine ⟨_, rfl, ?_⟩))
    | (with_reducible refine isbl ?_)
    | (with_reducible refine isbl2 ?_)
    | (with_reducible refine isV ?_)
    | (with_reducible refine isI ?_)
    | (with_reducible refine is1v ?_)
    | (with_reducible refine is2v ?_)
    | (with_reducible refine is3 ?_)
    | (with_reducible refine isTI ?_)
    | (with_reducible refine is1i ?_)
    | (with_reducible refine is2i ?_)
    | (with_reducible refine isCons ?_)
    | (with_reducible refine cond_not ?_)
    | (with_reducible refine cond_t ?_)
    | (with_reducible refine cond_f ?_)
    | ((with_reducible refine ixg_mk ?_); (refine ⟨_, rfl, ?_⟩))
    | ((with_reducible refine ixg_neg ?_ ?_); (focus first | exact trivial | assumption | omega | (simp only [List.length_cons, List.length_nil, List.length_map]; omega) | (exact rfl)))
    | ((with_reducible refine ixg_nat ?_ ?_); (focus first | exact trivial | assumption | omega | (simp only [List.length_cons, List.length_nil, List.length_map]; omega) | (exact rfl)))
    | ((with_reducible refine ixg_of ?_ ?_); (focus first | exact trivial | assumption | omega | (simp only [List.length_cons, List.length_nil, List.length_map]; omega) | (exact rfl)))
    | ((with_reducible refine get_mk ?_); (refine ⟨_, rfl, ?_⟩))
    | ((with_reducible refine get_mapE ?_); (refine ⟨_, by assumption, ?_⟩))
    | ((with_reducible refine get_mapI ?_ ?_); (focus first | exact trivial | assumption | omega | (simp only [List.length_cons, List.length_nil, List.length_map]; omega) | (exact rfl)))
    | ((with_reducible refine get_mapS ?_ ?_); (focus first | exact trivial | assumption | omega | (simp only [List.length_cons, List.length_nil, List.length_map]; omega) | (exact rfl)))
    | ((with_reducible refine get_c ?_ ?_); (focus first | exact trivial | assumption | omega | (simp only [List.length_cons, List.length_nil, List.length_map]; omega) | (exact rfl)))
    | ((with_reducible refine get_map ?_ ?_); (focus first | exact trivial | assumption | omega | (simp only [List.length_cons, List.length_nil, List.length_map]; omega) | (exact rfl)))
    | ((with_reducible refine le_and ?_ ?_); (focus first | exact trivial | assumption | omega | (simp only [List.length_cons, List.length_nil, List.length_map]; omega) | (exact rfl)))
    | ((with_reducible refine rg1_and ?_ ?_); (focus first | exact trivial | assumption | omega | (simp only [List.length_cons, List.length_nil, List.length_map]; omega) | (exact rfl)))
    | ((with_reducible refine rg2_and ?_ ?_); (focus first | exact trivial | assumption | omega | (simp only [List.length_cons, List.length_nil, List.length_map]; omega) | (exact rfl)))
    | (with_reducible refine eq_and ?_)
    | (with_reducible refine wpB_two ?_)
    | (with_reducible refine wpB_one ?_)
    | (with_reducible refine wpG_nil ?_)
    | (with_reducible refine wpG_cons ?_)
    | (with_reducible refine wpG_mnil ?_)
    | (with_reducible refine wpG_mcons ?_)
    | (with_reducible refine tgt_gN ?_)
    | (with_reducible refine tgt_gT2 ?_)
    | (with_reducible refine tgt_gT3 ?_))
local macro_rules
  | `(tactic| sizeOf_list_dec) => `(tactic| repeat array_get_dec)

section
set_option maxRecDepth 100000
set_option maxHeartbeats 4000000
/-! DA: the laws' draws. -/
open PySem Dt
variable {X : ExD → Sl → Prop}
theorem cell_wp {ns : List Int} {i : Nat} {Q : EV → Sl → Prop} (k : ∀ c : Int, Q (.v (.int c)) [.val (.scr ns), .val (.int i)]) : wp sem__law_cell [.val (.scr ns), .val (.int i)] Q X := by
  unfold sem__law_cell bd__law_cell
  sizeOf_list_dec
  refine cond_d (fun h => ?_) (fun h => ?_)
  · sizeOf_list_dec
    exact k _
  · sizeOf_list_dec
    exact k _
/-- all texts of n answers, ascending -/
def dbl : List (List Nat) → List (List Nat)
  | [] => []
  | r :: l => (r ++ [48]) :: (r ++ [49]) :: dbl l
def allR : Nat → List (List Nat)
  | 0 => [[]]
  | n + 1 => dbl (allR n)
theorem dbl_app : ∀ (l m : List (List Nat)), dbl (l ++ m) = dbl l ++ dbl m
  | [], m => rfl
  | r :: l, m => by simp [dbl, dbl_app l m]
theorem len_dbl : ∀ (l : List (List Nat)), (dbl l).length = 2 * l.length
  | [] => rfl
  | r :: l => by simp [dbl, len_dbl l]; omega
theorem mem_dbl {x : List Nat} : ∀ {l : List (List Nat)}, x ∈ dbl l ↔ ∃ r ∈ l, x = r ++ [48] ∨ x = r ++ [49]
  | [] => by simp [dbl]
  | r :: l => by simp [dbl, mem_dbl (l := l), or_assoc]
theorem len_allR : ∀ n, (allR n).length = 2 ^ n
  | 0 => rfl
  | n + 1 => by rw [allR, len_dbl, len_allR n, Nat.pow_succ]; omega
theorem mem_allR {r : List Nat} : ∀ {n}, r ∈ allR n ↔ r.length = n ∧ ∀ c ∈ r, c = 48 ∨ c = 49
  | 0 => by simp [allR]; rintro rfl; simp
  | n + 1 => by
    simp only [allR, mem_dbl, mem_allR (n := n)]
    constructor
    · rintro ⟨s, ⟨h1, h2⟩, rfl | rfl⟩
      · exact ⟨by simp [h1], fun c hc => (List.mem_append.mp hc).elim (h2 c) fun q => .inl (by simpa using q)⟩
      · exact ⟨by simp [h1], fun c hc => (List.mem_append.mp hc).elim (h2 c) fun q => .inr (by simpa using q)⟩
    · rintro ⟨h1, h2⟩
      have hne : r ≠ [] := by rintro rfl; simp at h1
      refine ⟨r.dropLast, ⟨by simp [h1], fun c hc => h2 c (List.dropLast_subset _ hc)⟩, ?_⟩
      have := h2 _ (List.getLast_mem hne)
      have e := List.dropLast_concat_getLast hne
      rcases this with q | q
      · exact .inl (by rw [q] at e; exact e.symm)
      · exact .inr (by rw [q] at e; exact e.symm)
theorem nodup_dbl : ∀ {l : List (List Nat)}, l.Nodup → (dbl l).Nodup
  | [], _ => List.nodup_nil
  | r :: l, h => by
    obtain ⟨h1, h2⟩ := List.nodup_cons.mp h
    refine List.nodup_cons.mpr ⟨?_, List.nodup_cons.mpr ⟨?_, nodup_dbl h2⟩⟩
    · simp only [List.mem_cons, mem_dbl, not_or]
      refine ⟨by simp, ?_⟩
      rintro ⟨s, hs, q | q⟩
      · exact h1 ((List.append_inj_left' q rfl) ▸ hs)
      · simp at q
    · simp only [mem_dbl]
      rintro ⟨s, hs, q | q⟩
      · simp at q
      · exact h1 ((List.append_inj_left' q rfl) ▸ hs)
theorem nodup_allR : ∀ n, (allR n).Nodup
  | 0 => by simp [allR]
  | n + 1 => nodup_dbl (nodup_allR n)
theorem allR_le {n : Nat} (hn : n ≤ 6) : (allR n).length ≤ 64 := by rw [len_allR]; exact Nat.pow_le_pow_right (by omega) hn
/-- what the laws' boards have: rows of n answers, each once -/
structure Rows (n : Nat) (l : List (List Nat)) : Prop where
  n1 : 1 ≤ n
  n6 : n ≤ 6
  ne : l ≠ []
  sub : l.Sublist (allR n)
theorem Rows.len {n : Nat} {l : List (List Nat)} (h : Rows n l) : l.length ≤ 64 := Nat.le_trans h.sub.length_le (allR_le h.n6)
theorem Rows.mem {n : Nat} {l : List (List Nat)} (h : Rows n l) {r : List Nat} (hr : r ∈ l) : r.length = n ∧ ∀ c ∈ r, c = 48 ∨ c = 49 := mem_allR.mp (h.sub.subset hr)
theorem Rows.nodup {n : Nat} {l : List (List Nat)} (h : Rows n l) : l.Nodup := h.sub.nodup (nodup_allR n)
theorem zeros_mem (n : Nat) : List.replicate n 48 ∈ allR n := mem_allR.mpr ⟨by simp, fun c hc => .inl (List.eq_of_mem_replicate hc)⟩
theorem allR_ne {m : Nat} : allR m ≠ [] := fun e => by have := zeros_mem m; rw [e] at this; cases this
end
end Pg
end
section
namespace Pg
open PySem Dt Pm
local macro_rules
  | `(tactic| array_get_dec) => `(tactic| first
    | ((with_reducible refine guard_E ?_); (first
      | (with_reducible refine wp_toA ?_)
      | ((with_reducible refine v_oName ?_); (refine ⟨_, rfl, ?_⟩))
      | ((with_reducible refine o_oName ?_); (refine ⟨_, rfl, ?_⟩))
      | (with_reducible refine wp_asCons ?_)
      | (with_reducible refine wp_asNil ?_)
      | (with_reducible refine wp_eC ?_)
      | (with_reducible refine wp_eOp ?_)
      | ((with_reducible refine v_opM ?_); (refine ⟨_, _, rfl, rfl, ?_⟩))
      | (with_reducible refine wp_eCall ?_)
      | ((with_reducible refine v_callM ?_ ?_); (focus (simp only [Dt.sidx]; decide)))
      | ((with_reducible refine v_eName ?_); (refine ⟨_, rfl, ?_⟩))
      | ((with_reducible refine o_eName ?_); (refine ⟨_, _, rfl, rfl, ?_⟩))
      | ((with_reducible refine r_eName ?_); (refine ⟨_, _, rfl, by assumption, ?_⟩))
      | (with_reducible refine wp_toB ?_)
      | (with_reducible refine wp_eTup ?_)
      | (with_reducible refine wp_eLst ?_)
      | (with_reducible refine wp_eB ?_)
      | (with_reducible refine v_bM ?_)
      | (with_reducible refine wp_eBM ?_)
      | ((with_reducible refine v_tyM ?_); (refine ⟨_, rfl, rfl, ?_⟩))
      | (with_reducible refine wp_bind ?_)
      | (with_reducible refine wp_ret ?_)
      | (with_reducible refine wp_eChain ?_)
      | (with_reducible refine wp_bAnd ?_)
      | (with_reducible refine wp_bOr ?_)
      | (with_reducible refine wp_bNot ?_)
      | (with_reducible refine wp_eAnd ?_)
      | (with_reducible refine wp_eOr ?_)
      | (with_reducible refine wp_eNot ?_)
      | (with_reducible refine wp_eIf ?_)
      | (with_reducible refine wp_iOf ?_)
      | (with_reducible refine wp_iRange1 ?_)
      | (with_reducible refine wp_iRange2 ?_)
      | (with_reducible refine wp_iEnum1 ?_)
      | (with_reducible refine wp_iZip2 ?_)
      | ((with_reducible refine wp_mutM ?_ ?_); (focus exact rfl))
      | (with_reducible refine wp_atV ?_)
      | ((with_reducible refine wp_grd ?_ ?_); (focus exact rfl))
      | ((with_reducible refine v_setLM ?_); (refine ⟨_, rfl, ?_⟩))
      | (with_reducible refine wp_eSlice ?_)
      | (with_reducible refine wp_pNo ?_)
      | (with_reducible refine wp_pYes ?_)
      | (with_reducible refine wp_eIsi ?_)
      | (with_reducible refine wp_eMaxD ?_)
      | (with_reducible refine wp_eNeg ?_)
      | (with_reducible refine wp_eDict0 ?_)
      | ((with_reducible refine v_disp1 ?_); (refine ⟨_, rfl, ?_⟩))
      | (with_reducible refine wp_eFld ?_)
      | ((with_reducible refine v_setFM ?_); (refine ⟨_, _, _, rfl, rfl, rfl, ?_⟩))
      | (with_reducible refine wp_eMeth ?_)
      | (with_reducible refine wp_eProp ?_)
      | (with_reducible refine wp_eOpM ?_)
      | (with_reducible refine wp_inO ?_)
      | (with_reducible refine wp_spO ?_)
      | (with_reducible refine wp_spO1 ?_)
      | (with_reducible refine wp_eCMeth ?_)
      | (with_reducible refine wp_eMake ?_)
      | (with_reducible refine wp_eMakeS ?_)
      | ((with_reducible refine wp_eMakeSL ?_ ?_); (focus exact rfl))
      | (with_reducible refine wp_eComp ?_)
      | (with_reducible refine wp_eComp2 ?_)
      | ((with_reducible refine v_funD ?_ ?_); (focus exact rfl); (with_reducible apply fin_mk); (focus (first | (conv => lhs; simp only [List.set_cons_zero, List.set_cons_succ, slotOf, vI, vB, back, put1, isOwn, wipeE, List.take_succ_cons, List.take_zero, List.cons_append, List.nil_append, List.replicate_succ, List.replicate_zero, Nat.reduceSub, List.getElem?_cons_zero, List.getElem?_cons_succ, if_true, if_false, Bool.false_eq_true, List.set_nil]) | skip); (first | done | exact rfl)))))
    | ((with_reducible refine guard_O ?_); (first
      | (with_reducible refine wpo_frz_v ?_)
      | (with_reducible refine wpo_frz_I ?_)
      | (with_reducible refine wpo_frz_B ?_)
      | (with_reducible refine wpo_frz_l ?_)
      | (with_reducible refine wpo_frz_d ?_)
      | (with_reducible refine v_vals ?_)
      | (with_reducible refine wpo_it_l ?_)
      | (with_reducible refine wpo_it_t ?_)
      | ((with_reducible refine wpo_it_s ?_ ?_); (focus first | exact trivial | assumption | omega | (simp only [List.length_cons, List.length_nil, List.length_map]; omega) | (exact rfl)))
      | ((with_reducible refine v_objOf ?_); (refine ⟨_, rfl, ?_⟩))
      | ((with_reducible refine v_objIs ?_); (refine ⟨_, rfl, ?_⟩))
      | (with_reducible refine wpo_isi ?_)
      | ((with_reducible refine v_deref ?_); (refine ⟨_, rfl, ?_⟩))
      | ((with_reducible refine wpo_one ?_ ?_); (focus exact rfl))
      | ((with_reducible refine v_starD ?_); (refine ⟨_, rfl, ?_⟩))
      | (with_reducible refine wpo_ints ?_)
      | (with_reducible refine wpo_ints1 ?_)
      | (with_reducible refine wpo_ints0 ?_)
      | ((with_reducible refine v_ixS ?_ ?_); (focus first | exact trivial | assumption | omega | (simp only [List.length_cons, List.length_nil, List.length_map]; omega) | (exact rfl)))
      | (with_reducible refine v_ix ?_)
      | (with_reducible refine wpo_inSign ?_)
      | ((with_reducible refine wpo_op2 ?_ ?_); (focus first | exact trivial | assumption | omega | (simp only [List.length_cons, List.length_nil, List.length_map]; omega) | (exact rfl)))
      | ((with_reducible refine wpo_op1 ?_ ?_); (focus first | exact trivial | assumption | omega | (simp only [List.length_cons, List.length_nil, List.length_map]; omega) | (exact rfl)))
      | ((with_reducible refine wpo_slS ?_ ?_); (focus first | exact trivial | assumption | omega | (simp only [List.length_cons, List.length_nil, List.length_map]; omega) | (exact rfl)))
      | (with_reducible refine wpo_slL ?_)
      | (with_reducible refine wpo_slT ?_)
      | (with_reducible refine v_get ?_)
      | (with_reducible refine wpo_bind ?_)
      | (with_reducible refine wpo_map ?_)))
    | ((with_reducible refine guard_S ?_); (first
      | (with_reducible refine wps_seq ?_)
      | (with_reducible refine wps_set ?_)
      | (with_reducible refine wps_expr ?_)
      | (with_reducible refine wps_ret ?_)
      | (with_reducible refine wps_if ?_)
      | (with_reducible refine wps_for ?_)
      | (with_reducible refine wps_nil ?_)
      | (with_reducible refine wps_setL ?_)
      | (with_reducible refine wps_par ?_)
      | (with_reducible refine wps_par1 ?_)
      | (with_reducible refine wps_parC' ?_)
      | (with_reducible refine wps_parN ?_)
      | ((with_reducible refine v_retV ?_); (refine ⟨_, rfl, ?_⟩))
      | ((with_reducible refine o_retV ?_); (refine ⟨_, rfl, rfl, ?_⟩))
      | ((with_reducible refine p_retV ?_); (refine ⟨_, _, rfl, rfl, rfl, ?_⟩))
      | (with_reducible refine wps_retN ?_)
      | (with_reducible refine wps_raise ?_)
      | (with_reducible refine wps_break ?_)
      | (with_reducible refine wps_cont ?_)
      | (with_reducible refine wps_try ?_)
      | (with_reducible refine wps_setF ?_)
      | (with_reducible refine wps_setD ?_)
      | (with_reducible refine wps_asg ?_)))
    | ((with_reducible refine fin_g ?_); (with_reducible apply fin_mk); (focus (first | (conv => lhs; simp only [List.set_cons_zero, List.set_cons_succ, slotOf, vI, vB, back, put1, isOwn, wipeE, List.take_succ_cons, List.take_zero, List.cons_append, List.nil_append, List.replicate_succ, List.replicate_zero, Nat.reduceSub, List.getElem?_cons_zero, List.getElem?_cons_succ, if_true, if_false, Bool.false_eq_true, List.set_nil]) | skip); (first | done | exact rfl)))
    | (with_reducible refine rt_mk ?_)
    | (with_reducible refine bk_mk ?_)
    | (with_reducible refine ct_mk ?_)
    | (with_reducible refine ex_mk ?_)
    | (with_reducible refine der_nil ?_)
    | (with_reducible refine der_v ?_)
    | ((with_reducible refine der_s ?_); (refine ⟨_, rfl, ?_⟩))
    | (with_reducible refine val_nil ?_)
    | (with_reducible refine val_v ?_)
    | (with_reducible refine arg_nil ?_)
    | (with_reducible refine arg_v ?_)
    | ((with_reducible refine arg_s ?_); (refine ⟨_, rfl, ?_⟩))
    | ((with_reducible refine v_append ?_); (refine ⟨_, rfl, ?_, ?_⟩); (focus first | exact trivial | assumption | omega | (simp only [List.length_cons, List.length_nil, List.length_map]; omega) | (exact rfl)))
    | ((with_reducible refine v_extend ?_); (refine ⟨_, rfl, ?_, ?_⟩); (focus first | exact trivial | assumption | omega | (simp only [List.length_cons, List.length_nil, List.length_map]; omega) | (exact rfl)))
    | ((with_reducible refine v_pop ?_); (refine ⟨_, rfl, ?_, ?_⟩); (focus first | exact trivial | assumption | omega | (simp only [List.length_cons, List.length_nil, List.length_map]; omega) | (exact rfl)))
    | ((with_reducible refine v_pop0 ?_); (refine ⟨_, rfl, ?_⟩))
    | (with_reducible refine isbl ?_)
    | (with_reducible refine isbl2 ?_)
    | (with_reducible refine isV ?_)
    | (with_reducible refine isI ?_)
    | (with_reducible refine is1v ?_)
    | (with_reducible refine is2v ?_)
    | (with_reducible refine is3 ?_)
    | (with_reducible refine isTI ?_)
    | (with_reducible refine is1i ?_)
    | (with_reducible refine is2i ?_)
    | (with_reducible refine isCons ?_)
    | (with_reducible refine cond_not ?_)
    | (with_reducible refine cond_t ?_)
    | (with_reducible refine cond_f ?_)
    | ((with_reducible refine ixg_mk ?_); (refine ⟨_, rfl, ?_⟩))
    | ((with_reducible refine ixg_neg ?_ ?_); (focus first | exact trivial | assumption | omega | (simp only [List.length_cons, List.length_nil, List.length_map]; omega) | (exact rfl)))
    | ((with_reducible refine ixg_nat ?_ ?_); (focus first | exact trivial | assumption | omega | (simp only [List.length_cons, List.length_nil, List.length_map]; omega) | (exact rfl)))
    | ((with_reducible refine ixg_of ?_ ?_); (focus first | exact trivial | assumption | omega | (simp only [List.length_cons, List.length_nil, List.length_map]; omega) | (exact rfl)))
    | ((with_reducible refine get_mk ?_); (refine ⟨_, rfl, ?_⟩))
    | ((with_reducible refine get_mapE ?_); (refine ⟨_, by assumption, ?_⟩))
    | ((with_reducible refine get_mapI ?_ ?_); (focus first | exact trivial | assumption | omega | (simp only [List.length_cons, List.length_nil, List.length_map]; omega) | (exact rfl)))
    | ((with_reducible refine get_mapS ?_ ?_); (focus first | exact trivial | assumption | omega | (simp only [List.length_cons, List.length_nil, List.length_map]; omega) | (exact rfl)))
    | ((with_reducible refine get_c ?_ ?_); (focus first | exact trivial | assumption | omega | (simp only [List.length_cons, List.length_nil, List.length_map]; omega) | (exact rfl)))
    | ((with_reducible refine get_map ?_ ?_); (focus first | exact trivial | assumption | omega | (simp only [List.length_cons, List.length_nil, List.length_map]; omega) | (exact rfl)))
    | ((with_reducible refine le_and ?_ ?_); (focus first | exact trivial | assumption | omega | (simp only [List.length_cons, List.length_nil, List.length_map]; omega) | (exact rfl)))
    | ((with_reducible refine rg1_and ?_ ?_); (focus first | exact trivial | assumption | omega | (simp only [List.length_cons, List.length_nil, List.length_map]; omega) | (exact rfl)))
    | ((with_reducible refine rg2_and ?_ ?_); (focus first | exact trivial | assumption | omega | (simp only [List.length_cons, List.length_nil, List.length_map]; omega) | (exact rfl)))
    | (with_reducible refine eq_and ?_)
    | (with_reducible refine wpB_two ?_)
    | (with_reducible refine wpB_one ?_)
    | (with_reducible refine wpG_nil ?_)
    | (with_reducible refine wpG_cons ?_)
    | (with_reducible refine wpG_mnil ?_)
    | (with_reducible refine wpG_mcons ?_)
    | (with_reducible refine tgt_gN ?_)
    | (with_reducible refine tgt_gT2 ?_)
    | (with_reducible refine tgt_gT3 ?_))
local macro_rules
  | `(tactic| sizeOf_list_dec) => `(tactic| repeat array_get_dec)

section
set_option maxRecDepth 100000
set_option maxHeartbeats 4000000
/-! DB: boards, clashes, loads. -/
open PySem Dt Pm
variable {X : ExD → Sl → Prop}
theorem is_answers_wp {m : Nat} {r : List Nat} {Q : EV → Sl → Prop} (h : r.length = m) (hm : m ≤ 6) (hc : ∀ c ∈ r, c = 48 ∨ c = 49) (k : Q (.v (.bl true)) [.val (.str r), .val (.int m)]) : wp sem_is_answers [.val (.str r), .val (.int m)] Q X := by
  unfold sem_is_answers bd_is_answers
  sizeOf_list_dec
  refine ⟨fun h1 => ?_, fun h1 => by simp [h] at h1⟩
  sizeOf_list_dec
  refine wpc_map (fun c => .bl (decide (c ∈ [48, 49]))) (fun c hc => ?_) ?_
  · sizeOf_list_dec
    unfold lp_is_answers_0
    sizeOf_list_dec
    exact ⟨rfl, rfl⟩
  · sizeOf_list_dec
    have : (r.all fun c => decide (c ∈ [48, 49])) = true := List.all_eq_true.mpr fun c h => decide_eq_true (by have := hc c h; simp; exact this)
    rw [this]
    exact k
/-- different rows of equal length -/
structure Good (n : Nat) (l : List (List Nat)) : Prop where
  n1 : 1 ≤ n
  n6 : n ≤ 6
  ne : l ≠ []
  sz : l.length ≤ 64
  nd : l.Nodup
  row : ∀ r ∈ l, r.length = n ∧ ∀ c ∈ r, c = 48 ∨ c = 49
theorem Rows.good {n : Nat} {l : List (List Nat)} (h : Rows n l) : Good n l := ⟨h.n1, h.n6, h.ne, h.len, h.nodup, fun r hr => h.mem hr⟩
theorem Good.ok {n : Nat} {l : List (List Nat)} (h : Good n l) : StrsOk 6 l := fun r hr => ⟨by have := (h.row r hr).1; have := h.n6; omega, fun c hc => by rcases (h.row r hr).2 c hc with e | e <;> omega⟩
theorem are_rows_wp {n : Nat} {l : List (List Nat)} {sl : Dt.Slot} {Q : EV → Sl → Prop} (h : Good n l) (hs : sl = .val (.tup (strL l)) ∨ sl = .own (.lst (strL l))) (k : ∀ sl', sl' = sl ∨ sl' = .val (.lst (strL l)) → Q (.v (.bl true)) [sl']) : wp sem_are_rows [sl] Q X := by
  unfold sem_are_rows bd_are_rows
  obtain ⟨r, l', e⟩ := List.exists_cons_of_ne_nil h.ne
  have hr := (h.row r (by rw [e]; simp)).1
  have hl : 0 < l.length := by rw [e]; simp
  have hn1 := h.n1
  have hn6 := h.n6
  have hsz := h.sz
  have h0 : l[(0 : Int).toNat]? = some r := by rw [e]; rfl
  have hi : ((l.length : Int) == 0) = false := beq_eq_false_iff_ne.mpr (by omega)
  have hmet := met_nodup h.nd
  have hrb : r.length ≤ 1000000 := by omega
  have tst : ∀ (sl : Dt.Slot) (d : D), (sl = .val d ∨ ∃ c, sl = .own c ∧ frzC c = some d) → (d = .tup (strL l) ∨ d = .lst (strL l)) → ∀ a ∈ l, wp lp_are_rows_0 [sl, .val (.str a)] (fun v e3 => frz v = some (.bl true) ∧ wipeE e3 [1] = [sl, .emp]) NoX := by
    intro sl d hs hd a ha
    have har := h.row a ha
    unfold lp_are_rows_0
    rcases hs with rfl | ⟨c, rfl, hc⟩ <;> rcases hd with rfl | rfl
    · sizeOf_list_dec
      refine is_answers_wp (by omega) (by omega) har.2 ?_
      sizeOf_list_dec
      exact ⟨rfl, rfl⟩
    · sizeOf_list_dec
      refine is_answers_wp (by omega) (by omega) har.2 ?_
      sizeOf_list_dec
      exact ⟨rfl, rfl⟩
    · cases c <;> cases hc
    · cases c with
      | lst ds =>
        cases hc
        sizeOf_list_dec
        refine is_answers_wp (by omega) (by omega) har.2 ?_
        sizeOf_list_dec
        exact ⟨rfl, rfl⟩
      | dic a b => cases hc
      | ins a b => cases hc
  have len0 : (strL l).length = l.length := by simp [strL]
  rcases hs with rfl | rfl
  · sizeOf_list_dec
    refine cond_eq (fun q => absurd q (by rw [len0]; omega)) (fun _ => ?_)
    sizeOf_list_dec
    refine cond_d (fun q => ?_) (fun q => absurd q (by omega))
    sizeOf_list_dec
    refine cond_d (fun q => ?_) (fun q => absurd q (by omega))
    sizeOf_list_dec
    refine wpc_map (fun _ => .bl true) (fun a ha => tgt_gN ?_) ?_
    · sizeOf_list_dec
      exact tst _ _ (.inl rfl) (.inl rfl) a ha
    · sizeOf_list_dec
      refine cond_b (fun q => ?_) (fun q => absurd q (by simp))
      sizeOf_list_dec
      refine wpo_lenSet (f := fun a => a) (l := l) rfl (by omega) ?_
      sizeOf_list_dec
      rw [List.map_id', hmet, len0, beq_self_eq_true]
      exact k _ (.inl rfl)
  · sizeOf_list_dec
    refine cond_no (beq_eq_false_iff_ne.mpr (by rw [len0]; omega)) ?_
    sizeOf_list_dec
    refine cond_yes (decide_eq_true (by omega)) ?_
    sizeOf_list_dec
    refine cond_yes (decide_eq_true (by omega)) ?_
    sizeOf_list_dec
    refine wpc_map (fun _ => .bl true) (fun a ha => tgt_gN ?_) ?_
    · sizeOf_list_dec
      exact tst _ _ (.inl rfl) (.inr rfl) a ha
    · sizeOf_list_dec
      refine cond_yes (by simp) ?_
      sizeOf_list_dec
      refine wpo_lenSet (f := fun a => a) (l := l) rfl (by omega) ?_
      sizeOf_list_dec
      rw [List.map_id', hmet, len0, beq_self_eq_true]
      exact k _ (.inr rfl)
/-- a board's rows, in order -/
def bd (l : List (List Nat)) : D := .obj 0 [.tup (strL l)]
theorem sorted_allR : ∀ n, SortedS (allR n) := by
  intro n
  unfold SortedS
  induction n with
  | zero => simp [allR]
  | succ n ih =>
    have lens : ∀ r ∈ allR n, r.length = n := fun r hr => (mem_allR.mp hr).1
    have app : ∀ {a b : List Nat} (x y : List Nat), a.length = b.length → ¬ b < a → a ≠ b → ¬ b ++ y < a ++ x := by
      intro a
      induction a with
      | nil => intro b x y h1 _ h3; cases b with | nil => exact absurd rfl h3 | cons _ _ => simp at h1
      | cons u a ih =>
        intro b x y h1 h2 h3
        cases b with
        | nil => simp at h1
        | cons v b =>
          rw [List.cons_append, List.cons_append, List.cons_lt_cons_iff]
          rw [List.cons_lt_cons_iff] at h2
          rintro (q | ⟨q1, q2⟩)
          · exact h2 (.inl q)
          · subst q1
            exact ih x y (by simpa using h1) (fun z => h2 (.inr ⟨rfl, z⟩)) (fun z => h3 (by rw [z])) q2
    have nd := nodup_allR n
    have key : ∀ l : List (List Nat), l.Pairwise (fun a b => ¬ b < a) → l.Nodup → (∀ r ∈ l, r.length = n) → (dbl l).Pairwise fun a b => ¬ b < a := by
      intro l
      induction l with
      | nil => intro _ _ _; exact List.Pairwise.nil
      | cons r l ih =>
        intro h1 h2 h3
        obtain ⟨g1, g2⟩ := List.pairwise_cons.mp h1
        obtain ⟨f1, f2⟩ := List.nodup_cons.mp h2
        have hr := h3 r (List.mem_cons_self ..)
        have oth : ∀ (x : List Nat), ∀ b ∈ dbl l, ¬ b < r ++ x := fun x b hb => by
          obtain ⟨s, hs, e⟩ := mem_dbl.mp hb
          have hsl := h3 s (List.mem_cons_of_mem _ hs)
          have hne : r ≠ s := fun z => f1 (z ▸ hs)
          rcases e with rfl | rfl
          · exact app _ _ (by omega) (g1 s hs) hne
          · exact app _ _ (by omega) (g1 s hs) hne
        refine List.Pairwise.cons ?_ (List.Pairwise.cons (oth _) (ih g2 f2 fun r hr => h3 r (List.mem_cons_of_mem _ hr)))
        intro b hb
        rcases List.mem_cons.mp hb with rfl | hb
        · intro z
          have : ∀ (r : List Nat), ¬ r ++ [49] < r ++ [48] := by
            intro r
            induction r with
            | nil => decide
            | cons c r ih => rw [List.cons_append, List.cons_append, List.cons_lt_cons_iff]; rintro (q | ⟨_, q⟩); exact Nat.lt_irrefl _ q; exact ih q
          exact this r z
        · exact oth _ b hb
    exact key _ ih nd lens
theorem Rows.sorted {n : Nat} {l : List (List Nat)} (h : Rows n l) : SortedS l := List.Pairwise.sublist h.sub (sorted_allR n)
theorem valsOf_map (L : List D) : valsOf (L.map Dt.Slot.val) = some L := by
  induction L with
  | nil => rfl
  | cons d l ih => simp [valsOf, ih]
theorem init_wp {n : Nat} {l l' : List (List Nat)} {Q : EV → Sl → Prop} (h : Good n l) (hp : l'.Perm l) (hs : SortedS l') (k : Q (.v .non) (.own (.ins 0 [.tup (strL l')]) :: (strL l).map Dt.Slot.val)) : wp sem_Board___init__ (.own (.ins 0 []) :: (strL l).map Dt.Slot.val) Q X := by
  unfold sem_Board___init__ bd_Board___init__
  have hsz := h.sz
  refine v_funV ⟨_, valsOf_map _, by simp [strL]; omega, ?_⟩
  sizeOf_list_dec
  refine are_rows_wp h (.inl rfl) fun sl hsl => ?_
  rcases hsl with rfl | rfl
  · sizeOf_list_dec
    refine wpo_sortS rfl hp hs h.ok (by omega) ?_
    sizeOf_list_dec
    exact k
  · sizeOf_list_dec
    refine wpo_sortS rfl hp hs h.ok (by omega) ?_
    sizeOf_list_dec
    exact k
theorem read_wp {C0 : Addr} {n : Nat} {l l' : List (List Nat)} {t : List Nat} {Q : EV → Sl → Prop} (h : Good n l) (hp : l'.Perm l) (hs : SortedS l') (ht : splitS t [32] = l) (hl : t.length ≤ 1000000) (k : Q (.v (bd l')) [.val (.raw (.ref C0)), .val (.str t)]) : wp (sem_Board_read C0) [.val (.raw (.ref C0)), .val (.str t)] Q X := by
  unfold sem_Board_read bd_Board_read
  sizeOf_list_dec
  refine wpo_op1 ⟨by simp, hl⟩ ?_
  rw [ht]
  sizeOf_list_dec
  refine are_rows_wp h (.inr rfl) fun sl hsl => ?_
  rcases hsl with rfl | rfl
  · sizeOf_list_dec
    refine wp_makeVals (init_wp h hp hs ?_)
    refine ⟨rfl, _, _, rfl, rfl, ?_⟩
    sizeOf_list_dec
    exact k
  · sizeOf_list_dec
    refine wp_makeVals (init_wp h hp hs ?_)
    refine ⟨rfl, _, _, rfl, rfl, ?_⟩
    sizeOf_list_dec
    exact k
theorem rows_wp {l : List (List Nat)} {Q : EV → Sl → Prop} (k : Q (.v (.tup (strL l))) [.val (bd l)]) : wp sem_Board_rows [.val (bd l)] Q X := by
  unfold sem_Board_rows bd_Board_rows bd
  sizeOf_list_dec
  exact k
theorem issues_wp {n : Nat} {l : List (List Nat)} {Q : EV → Sl → Prop} (h : Good n l) (k : Q (.v (.int n)) [.val (bd l)]) : wp sem_Board_issues [.val (bd l)] Q X := by
  unfold sem_Board_issues bd_Board_issues bd
  obtain ⟨r, l', e⟩ := List.exists_cons_of_ne_nil h.ne
  have hr := (h.row r (by rw [e]; simp)).1
  have hl : 0 < (strL l).length := by rw [e]; simp
  have h0 : l[(0 : Int).toNat]? = some r := by rw [e]; rfl
  have hrb : r.length ≤ 1000000 := by have := h.n6; omega
  sizeOf_list_dec
  rw [hr]
  exact k
theorem need_board_wp {l : List (List Nat)} {Q : EV → Sl → Prop} (k : Q (.v .non) [.val (bd l)]) : wp sem_need_board [.val (bd l)] Q X := by
  unfold sem_need_board bd_need_board bd
  sizeOf_list_dec
  exact k
theorem enum_map (s : List Nat) : ∀ j, enumL j (s.map fun c => D.str [c]) = (List.range s.length).map fun i => D.tup [.int ((j + i : Nat) : Int), .str [s.getD i 0]] := by
  induction s with
  | nil => intro j; rfl
  | cons c s ih =>
    intro j
    rw [List.map_cons, enumL, ih, List.length_cons, List.range_succ_eq_map, List.map_cons, List.map_map]
    congr 1
    refine List.map_congr_left fun i _ => ?_
    simp only [Function.comp, List.getD_cons_succ]
    congr 4
    omega
theorem answered_wp {p : List Nat} {Q : EV → Sl → Prop} (hp : p.length ≤ 6) (k : Q (.o (.lst ((ans p).map fun (i : Nat) => D.int (i : Int)))) [.val (.str p)]) : wp sem_answered [.val (.str p)] Q X := by
  unfold sem_answered bd_answered
  sizeOf_list_dec
  rw [enum_map]
  refine wpc_filter (fun i => !([p.getD i 0] == [45])) (fun i => .int (i : Int)) (fun i hi => ?_) ?_
  · sizeOf_list_dec
    unfold lp_answered_0
    sizeOf_list_dec
    refine ⟨fun _ => rfl, fun _ => ?_⟩
    unfold lp_answered_1
    sizeOf_list_dec
    exact ⟨by simp [frz], rfl⟩
  · sizeOf_list_dec
    have : (List.filter (fun i => !([p.getD i 0] == [45])) (List.range p.length)) = ans p := by
      unfold ans
      refine List.filter_congr fun i _ => ?_
      rw [sing_beq]
    rw [this]
    exact k
theorem without_wp {p : List Nat} {i : Nat} {Q : EV → Sl → Prop} (hp : p.length ≤ 6) (hi : i < p.length) (k : Q (.v (.str (wo p i))) [.val (.str p), .val (.int i)]) : wp sem_without [.val (.str p), .val (.int i)] Q X := by
  unfold sem_without bd_without
  sizeOf_list_dec
  rw [cutD_pre]
  refine wpo_op2 (by simp; omega) ?_
  sizeOf_list_dec
  rw [show (i : Int) + 1 = ((i + 1 : Nat) : Int) by omega, cutD_suf]
  refine wpo_op2 (by simp; omega) ?_
  sizeOf_list_dec
  exact k
theorem parts_wp {n : Nat} {Q : EV → Sl → Prop} (h0 : 1 ≤ n) (h6 : n ≤ 6) (k : Q (.o (.lst (strL (partsL n)))) [.val (.int n)]) : wp sem_parts [.val (.int n)] Q X := by
  unfold sem_parts bd_parts
  sizeOf_list_dec
  refine wps_forN (fun j e => ∃ sl x y z, (sl = .own (.lst (strL (partsL j)))) ∧ e = [.val (.int n), sl, x, y, z]) ⟨_, _, _, _, rfl, rfl⟩ (fun j e hj ⟨sl, x, y, z, hs, he⟩ => ?_) (fun e ⟨sl, x, y, z, hs, he⟩ => ?_)
  · subst he; subst hs
    have hl := len_partsL j
    have h3 : 3 ^ j ≤ 3 ^ 5 := Nat.pow_le_pow_right (by omega) (by omega)
    sizeOf_list_dec
    unfold lp_parts_1
    sizeOf_list_dec
    refine wpG_flat (fun p => [.str (p ++ [45]), .str (p ++ [48]), .str (p ++ [49])]) (fun p hp acc => tgt_gN ?_) ?_
    · have hpl := (mem_partsL.mp hp).1
      unfold lp_parts_0
      sizeOf_list_dec
      exact ⟨by simp, rfl⟩
    · have e : List.flatMap (fun p => [D.str (p ++ [45]), D.str (p ++ [48]), D.str (p ++ [49])]) (partsL j) = strL (partsL (j + 1)) := by
        simp only [partsL, grow3, strL, List.map_flatMap]
        rfl
      rw [e]
      refine le_and (by simp [strL, len_partsL]; have : 3 ^ (j + 1) ≤ 3 ^ 6 := Nat.pow_le_pow_right (by omega) (by omega); omega) ?_
      sizeOf_list_dec
      exact ⟨_, _, _, _, rfl, rfl⟩
  · subst he; subst hs
    sizeOf_list_dec
    exact k
theorem rev_len {n : Nat} {l : List (List Nat)} (h : Good n l) {r : List Nat} (hr : r ∈ l) : r.length = n ∧ r.length ≤ 6 := ⟨(h.row r hr).1, by rw [(h.row r hr).1]; exact h.n6⟩
/-- the parts that rows have, as a dict -/
def HeldD (l : List (List Nat)) (ks : List L2.Key) (vs : List D) : Prop := DSet ks vs (fun p => ∃ r ∈ l, has r p = true) 4096
theorem held_parts_wp {n : Nat} {l : List (List Nat)} {Q : EV → Sl → Prop} (h : Good n l) (k : ∀ ks vs, HeldD l ks vs → Q (.o (.dic ks vs)) [.val (bd l)]) : wp sem_held_parts [.val (bd l)] Q X := by
  unfold sem_held_parts bd_held_parts
  have hsz := h.sz
  have h6 := h.n6
  sizeOf_list_dec
  unfold bd
  sizeOf_list_dec
  refine rows_wp ?_
  sizeOf_list_dec
  refine wps_forI (fun pre e => ∃ ks vs a b c d f, DSet ks vs (fun p => ∃ r ∈ pre, has r p = true) (64 * pre.length) ∧ e = [.val (bd l), .own (.dic ks vs), a, b, c, d, f]) ⟨_, _, _, _, _, _, _, DSet.nil.congr (by simp) (Nat.le_refl _), rfl⟩ (fun pre r post hp e ⟨ks, vs, a, b, c, d, f, hd, he⟩ => ?_) (fun e ⟨ks, vs, a, b, c, d, f, hd, he⟩ => ?_)
  · subst he
    have hr := rev_len h (show r ∈ l by rw [hp]; simp)
    have hpl : pre.length < 64 := by have : pre.length + 1 ≤ l.length := by rw [hp]; simp
                                     omega
    have hrb : r.length ≤ 1000000 := by omega
    sizeOf_list_dec
    unfold lp_held_parts_3
    sizeOf_list_dec
    refine wps_forI (inj := fun c : Nat => D.str [c]) (fun done e => ∃ a b c, e = [.val (bd l), .own (.dic ks vs), .val (.str r), .own (.lst (strL (done.foldl grow [[]]))), a, b, c]) ⟨_, _, _, rfl⟩ (fun done c post2 hp2 e ⟨a, b, c', he⟩ => ?_) (fun e ⟨a, b, c, he⟩ => ?_)
    · subst he
      have hdl : done.length + 1 ≤ 6 := by have : done.length + 1 ≤ r.length := by rw [hp2]; simp
                                           omega
      have hfl := len_fold done [[]]
      have h2p : 2 ^ done.length ≤ 2 ^ 5 := Nat.pow_le_pow_right (by omega) (by omega)
      sizeOf_list_dec
      unfold lp_held_parts_1
      sizeOf_list_dec
      refine wpG_flat (fun p => [.str (p ++ [45]), .str (p ++ [c])]) (fun p hp acc => tgt_gN ?_) ?_
      · have hpl := fold_lens (k := 0) (found := [[]]) (by simp) p hp
        sizeOf_list_dec
        unfold lp_held_parts_0
        sizeOf_list_dec
        exact ⟨by simp, rfl⟩
      · have e : List.flatMap (fun p => [D.str (p ++ [45]), D.str (p ++ [c])]) (done.foldl grow [[]]) = strL ((done ++ [c]).foldl grow [[]]) := by
          rw [List.foldl_append]
          simp only [List.foldl, grow, strL, List.map_flatMap]
          rfl
        rw [e]
        refine le_and (by simp only [strL, List.length_map]; rw [len_fold]; have : 2 ^ (done ++ [c]).length ≤ 2 ^ 6 := Nat.pow_le_pow_right (by omega) (by simp; omega); simp only [List.length_singleton]; omega) ?_
        sizeOf_list_dec
        exact ⟨_, _, _, rfl⟩
    · subst he
      have hfl := len_fold r [[]]
      have h2p : 2 ^ r.length ≤ 2 ^ 6 := Nat.pow_le_pow_right (by omega) (by omega)
      sizeOf_list_dec
      refine wps_forI (fun done e => ∃ ks vs a b c, DSet ks vs (fun p => (∃ r ∈ pre, has r p = true) ∨ p ∈ done) (64 * pre.length + done.length) ∧ e = [.val (bd l), .own (.dic ks vs), .val (.str r), .val (.lst (strL (r.foldl grow [[]]))), a, b, c]) ⟨_, _, _, _, _, hd.congr (by simp) (by simp), rfl⟩ (fun done p post2 hp2 e ⟨ks, vs, a, b, c, hd, he⟩ => ?_) (fun e ⟨ks, vs, a, b, c, hd, he⟩ => ?_)
      · subst he
        have hdl : done.length + 1 ≤ 64 := by
          have : done.length + 1 ≤ (r.foldl grow [[]]).length := by rw [hp2]; simp
          simp only [List.length_singleton] at hfl
          omega
        sizeOf_list_dec
        unfold lp_held_parts_2
        sizeOf_list_dec
        refine v_setDM ⟨_, _, _, rfl, rfl, ⟨by have := hd.sz; omega, hd.len, hd.nd⟩, ?_⟩
        sizeOf_list_dec
        refine ⟨_, _, _, _, _, (hd.put p (.bl true)).congr (fun x => ?_) (by simp; omega), rfl⟩
        simp [or_assoc]
      · subst he
        refine ⟨_, _, _, _, _, _, _, hd.congr (fun x => ?_) ?_, rfl⟩
        · rw [show (x ∈ List.foldl grow [[]] r) ↔ has r x = true from mem_gens]
          constructor
          · rintro (⟨q, hq, e⟩ | e)
            · exact ⟨q, by simp [hq], e⟩
            · exact ⟨r, by simp, e⟩
          · rintro ⟨q, hq, e⟩
            rcases List.mem_append.mp hq with hq | hq
            · exact .inl ⟨q, hq, e⟩
            · exact .inr (by rw [← List.mem_singleton.mp hq]; exact e)
        · simp only [List.length_singleton] at hfl
          simp only [List.length_append, List.length_singleton]
          omega
  · subst he
    sizeOf_list_dec
    exact k _ _ (hd.congr (fun _ => Iff.rfl) (by omega))
theorem HeldD.b {l : List (List Nat)} {ks : List L2.Key} {vs : List D} (h : HeldD l ks vs) (p : List Nat) : hasAny l p = true ↔ (fun p => ∃ r ∈ l, has r p = true) p := by simp [hasAny]
theorem SortP (ps : List (List Nat)) (h : ∀ p ∈ ps, TxtOk 6 p) (hl : ps.length ≤ 1000) : sortD [.lst (ps.map enc)] = some (.o (.lst ((ps.mergeSort fun a b => leT (enc a) (enc b)).map enc))) := by
  have hs : ShwL (ps.map enc) (ps.length * (72 + 1)) 1 := shwL_map fun p hp => (shw_tup (shwL_cons (shw_int (i := ((ans p).length : Int)) (by have := len_ans p; have := (h p hp).1; omega)) (shwL_cons (shw_str (h p hp).2) shwL_nil))).mono (by have := (h p hp).1; omega) (by simp)
  have hk : okSort ((ps.map enc).map pOf) = true := by
    have e : (ps.map enc).map pOf = ps.map fun p => PyData.tuple [.int ((ans p).length : Int), .str (mkS p)] := by
      rw [List.map_map]
      refine List.map_congr_left fun p hp => ?_
      show pOf (enc p) = _
      unfold enc
      rw [pOf_tup (shwL_cons (shw_int (i := ((ans p).length : Int)) (by have := len_ans p; have := (h p hp).1; omega)) (shwL_cons (shw_str (h p hp).2) shwL_nil))]
      rfl
    rw [e]
    simp [okSort]
    exact ⟨⟨fun x _ y _ => rfl, .inl fun x _ => rfl⟩, fun x _ => by simp [PyData.depth, PyData.depthAll]⟩
  rw [sortD_of rfl hs hk (by simp; omega)]
  rw [← List.map_mergeSort (f := enc) (r := fun a b => leT (enc a) (enc b)) (s := leT) (fun _ _ _ _ => rfl)]
theorem partOk {n : Nat} (h6 : n ≤ 6) {p : List Nat} (h : p ∈ partsL n) : TxtOk 6 p := by
  obtain ⟨h1, h2⟩ := mem_partsL.mp h
  exact ⟨by omega, fun c hc => by rcases h2 c hc with e | e | e <;> omega⟩
theorem all_clashes_wp {n : Nat} {l : List (List Nat)} {Q : EV → Sl → Prop} (h : Good n l) (k : Q (.o (.lst (strL (clashes n l)))) [.val (bd l)]) : wp sem_all_clashes [.val (bd l)] Q X := by
  unfold sem_all_clashes bd_all_clashes
  have h6 := h.n6
  have hpl := len_partsL n
  have h3 : 3 ^ n ≤ 3 ^ 6 := Nat.pow_le_pow_right (by omega) (by omega)
  sizeOf_list_dec
  refine held_parts_wp h fun ks vs hd => ?_
  sizeOf_list_dec
  unfold bd
  sizeOf_list_dec
  refine issues_wp h ?_
  sizeOf_list_dec
  refine parts_wp h.n1 h6 ?_
  sizeOf_list_dec
  refine wps_forI (fun pre e => ∃ a b c, e = [.val (bd l), .own (.dic ks vs), .own (.lst ((pre.filter (isClash l)).map enc)), a, b, c]) ⟨_, _, _, rfl⟩ (fun pre p post hp e ⟨a, b, c, he⟩ => ?_) (fun e ⟨a, b, c, he⟩ => ?_)
  · subst he
    have hpm : p ∈ partsL n := by rw [hp]; simp
    have hpn := (mem_partsL.mp hpm).1
    have hpre : pre.length + 1 ≤ 729 := by have : pre.length + 1 ≤ (partsL n).length := by rw [hp]; simp
                                           omega
    have hfl : (pre.filter (isClash l)).length ≤ pre.length := List.length_filter_le ..
    sizeOf_list_dec
    unfold lp_all_clashes_1
    sizeOf_list_dec
    refine wpo_ninDic hd (hd.b p) ?_
    sizeOf_list_dec
    refine cond_b (fun q => ?_) (fun q => ?_)
    · have hc : isClash l p = false := by simp [isClash, q]
      sizeOf_list_dec
      rw [show ((pre ++ [p]).filter (isClash l)).map enc = (pre.filter (isClash l)).map enc by simp [hc]]
      exact ⟨_, _, _, rfl⟩
    · sizeOf_list_dec
      refine answered_wp (by omega) ?_
      sizeOf_list_dec
      refine wpc_map (fun i => .bl (hasAny l (wo p i))) (fun i hi => tgt_gN ?_) ?_
      · have hi := (mem_ans.mp hi).1
        sizeOf_list_dec
        unfold lp_all_clashes_0
        sizeOf_list_dec
        refine without_wp (by omega) hi ?_
        sizeOf_list_dec
        refine wpo_inDic hd (hd.b _) ?_
        sizeOf_list_dec
        exact ⟨rfl, rfl⟩
      · sizeOf_list_dec
        refine cond_b (fun q2 => ?_) (fun q2 => ?_)
        · sizeOf_list_dec
          refine answered_wp (by omega) ?_
          sizeOf_list_dec
          have hc : isClash l p = true := by simp only [isClash, q, q2]; rfl
          rw [show ((pre ++ [p]).filter (isClash l)).map enc = (pre.filter (isClash l)).map enc ++ [enc p] by simp [hc]]
          rw [List.length_map]
          exact ⟨_, _, _, rfl⟩
        · sizeOf_list_dec
          have hc : isClash l p = false := by simp only [isClash, q, q2]; rfl
          rw [show ((pre ++ [p]).filter (isClash l)).map enc = (pre.filter (isClash l)).map enc by simp [hc]]
          exact ⟨_, _, _, rfl⟩
  · subst he
    sizeOf_list_dec
    refine wpo_of (SortP _ (fun p hp => partOk h6 (List.mem_filter.mp hp).1) (by have := List.length_filter_le (isClash l) (partsL n); omega)) ?_
    sizeOf_list_dec
    refine wpc_map (inj := enc) D.str (fun p hp => ?_) ?_
    · unfold enc
      sizeOf_list_dec
      unfold lp_all_clashes_2
      sizeOf_list_dec
      exact ⟨rfl, rfl⟩
    · sizeOf_list_dec
      exact k
end
section
set_option maxRecDepth 100000
set_option maxHeartbeats 4000000
/-! DC: the D laws' own clashes, loads. -/
open PySem Dt Pm
variable {X : ExD → Sl → Prop}
end
section
set_option maxRecDepth 100000
set_option maxHeartbeats 4000000
/-! D30: strain. -/
open PySem Dt Pm
variable {X : ExD → Sl → Prop}
theorem zip_map (r p : List Nat) : zipL (r.map fun c => D.str [c]) (p.map fun c => D.str [c]) = (r.zip p).map fun x => D.tup [.str [x.1], .str [x.2]] := by
  induction r generalizing p with
  | nil => rfl
  | cons a r ih =>
    cases p with
    | nil => rfl
    | cons b p => simp only [List.map_cons, zipL, List.zip_cons_cons, ih]
theorem has_zip : ∀ {r p : List Nat}, r.length = p.length → ((r.zip p).all fun x => x.2 == 45 || x.2 == x.1) = has r p
  | [], [], _ => rfl
  | a :: r, b :: p, h => by rw [List.zip_cons_cons, List.all_cons, has_zip (by simpa using h)]; rfl
  | [], _ :: _, h => by simp at h
  | _ :: _, [], h => by simp at h
theorem filter_emp {α : Type} (p : α → Bool) : ∀ l : List α, (l.filter p).isEmpty = !l.any p
  | [] => rfl
  | a :: l => by
    rw [List.filter_cons, List.any_cons]
    cases h : p a with
    | true => simp
    | false => simpa using filter_emp p l
theorem Good.sub {n : Nat} {l l' : List (List Nat)} (h : Good n l) (hs : ∀ r ∈ l', r ∈ l) : StrsOk 6 l' := fun r hr => h.ok r (hs r hr)
theorem true_of_wp {g : M EV} {env : Sl} (h : wp g env (fun v _ => v = .v (.bl true)) NoX) : ∃ e, g env = some (.ok (.v (.bl true)) e) := by
  unfold wp at h
  split at h
  · subst h; exact ⟨_, by assumption⟩
  · exact False.elim h
  · exact False.elim h
end
section
set_option maxRecDepth 100000
set_option maxHeartbeats 400000
/-! D30b: the law. -/
open PySem Dt Pm
variable {X : ExD → Sl → Prop}
theorem frz_lst {v : EV} {ds : List D} (h : frz v = some (.lst ds)) : v = .v (.lst ds) ∨ v = .o (.lst ds) := by
  cases v with
  | v d => cases h; exact .inl rfl
  | o c =>
    cases c with
    | lst xs => cases h; exact .inr rfl
    | dic a b => cases h
    | ins a b => cases h
theorem rangeD0 (x : Int) : rangeD 0 x = (List.range x.toNat).map fun i : Nat => D.int (i : Int) := by simp [rangeD]
theorem slot_lst {v : EV} {ds : List D} (h : frz v = some (.lst ds)) : slotOf v = .val (.lst ds) ∨ slotOf v = .own (.lst ds) := by
  rcases frz_lst h with rfl | rfl
  · exact .inl rfl
  · exact .inr rfl
end
section
set_option maxRecDepth 100000
set_option maxHeartbeats 400000
/-! D31a: results, all votes, holds. -/
open PySem Dt Pm
variable {X : ExD → Sl → Prop}
theorem flat_sing {α : Type} (f : α → Nat) (l : List α) : (l.map fun i => [f i]).flatten = l.map f := by
  induction l with
  | nil => rfl
  | cons a l ih => simp only [List.map_cons, List.flatten_cons, ih]; rfl
end
section
set_option maxRecDepth 100000
set_option maxHeartbeats 400000
/-! D32a: rows shown, judged, verdict; the law's own. -/
open PySem Dt Pm
variable {X : ExD → Sl → Prop}
end
section
set_option maxRecDepth 100000
set_option maxHeartbeats 400000
/-! D32b: what is due, the law. -/
open PySem Dt Pm
variable {X : ExD → Sl → Prop}
end
end Pg
end
section
namespace Pg
open PySem Dt Pm
local macro_rules
  | `(tactic| array_get_dec) => `(tactic| first
    | ((with_reducible refine guard_E ?_); (first
      | (with_reducible refine wp_toA ?_)
      | ((with_reducible refine v_oName ?_); (refine ⟨_, rfl, ?_⟩))
      | ((with_reducible refine o_oName ?_); (refine ⟨_, rfl, ?_⟩))
      | (with_reducible refine wp_asCons ?_)
      | (with_reducible refine wp_asNil ?_)
      | (with_reducible refine wp_eC ?_)
      | (with_reducible refine wp_eOp ?_)
      | ((with_reducible refine v_opM ?_); (refine ⟨_, _, rfl, rfl, ?_⟩))
      | (with_reducible refine wp_eCall ?_)
      | ((with_reducible refine v_callM ?_ ?_); (focus (simp only [Dt.sidx]; decide)))
      | ((with_reducible refine v_eName ?_); (refine ⟨_, rfl, ?_⟩))
      | ((with_reducible refine o_eName ?_); (refine ⟨_, _, rfl, rfl, ?_⟩))
      | ((with_reducible refine r_eName ?_); (refine ⟨_, _, rfl, by assumption, ?_⟩))
      | (with_reducible refine wp_toB ?_)
      | (with_reducible refine wp_eTup ?_)
      | (with_reducible refine wp_eLst ?_)
      | (with_reducible refine wp_eB ?_)
      | (with_reducible refine v_bM ?_)
      | (with_reducible refine wp_eBM ?_)
      | ((with_reducible refine v_tyM ?_); (refine ⟨_, rfl, rfl, ?_⟩))
      | (with_reducible refine wp_bind ?_)
      | (with_reducible refine wp_ret ?_)
      | (with_reducible refine wp_eChain ?_)
      | (with_reducible refine wp_eChain3 ?_)
      | (with_reducible refine wp_bAnd ?_)
      | (with_reducible refine wp_bOr ?_)
      | (with_reducible refine wp_bNot ?_)
      | (with_reducible refine wp_eAnd ?_)
      | (with_reducible refine wp_eOr ?_)
      | (with_reducible refine wp_eNot ?_)
      | (with_reducible refine wp_eIf ?_)
      | (with_reducible refine wp_iOf ?_)
      | (with_reducible refine wp_iRange1 ?_)
      | (with_reducible refine wp_iRange2 ?_)
      | (with_reducible refine wp_iEnum1 ?_)
      | (with_reducible refine wp_iZip2 ?_)
      | ((with_reducible refine wp_mutM ?_ ?_); (focus exact rfl))
      | (with_reducible refine wp_atV ?_)
      | ((with_reducible refine wp_grd ?_ ?_); (focus exact rfl))
      | ((with_reducible refine v_setLM ?_); (refine ⟨_, rfl, ?_⟩))
      | (with_reducible refine wp_eSlice ?_)
      | (with_reducible refine wp_eRev ?_)
      | (with_reducible refine wp_eRepl ?_)
      | (with_reducible refine wp_pNo ?_)
      | (with_reducible refine wp_pYes ?_)
      | (with_reducible refine wp_eIsi ?_)
      | (with_reducible refine wp_eMaxD ?_)
      | (with_reducible refine wp_eNeg ?_)
      | (with_reducible refine wp_eDict0 ?_)
      | ((with_reducible refine v_disp1 ?_); (refine ⟨_, rfl, ?_⟩))
      | (with_reducible refine wp_eFld ?_)
      | ((with_reducible refine v_setFM ?_); (refine ⟨_, _, _, rfl, rfl, rfl, ?_⟩))
      | (with_reducible refine wp_eMeth ?_)
      | (with_reducible refine wp_eProp ?_)
      | (with_reducible refine wp_eOpM ?_)
      | (with_reducible refine wp_inO ?_)
      | (with_reducible refine wp_spO ?_)
      | (with_reducible refine wp_spO1 ?_)
      | (with_reducible refine wp_addO ?_)
      | (with_reducible refine wp_eCMeth ?_)
      | (with_reducible refine wp_eMake ?_)
      | (with_reducible refine wp_eMakeS ?_)
      | ((with_reducible refine wp_eMakeSL ?_ ?_); (focus exact rfl))
      | (with_reducible refine wp_eComp ?_)
      | (with_reducible refine wp_eComp2 ?_)
      | ((with_reducible refine v_funD ?_ ?_); (focus exact rfl); (with_reducible apply fin_mk); (focus (first | (conv => lhs; simp only [List.set_cons_zero, List.set_cons_succ, slotOf, vI, vB, back, put1, isOwn, wipeE, List.take_succ_cons, List.take_zero, List.cons_append, List.nil_append, List.replicate_succ, List.replicate_zero, Nat.reduceSub, List.getElem?_cons_zero, List.getElem?_cons_succ, if_true, if_false, Bool.false_eq_true, List.set_nil]) | skip); (first | done | exact rfl)))))
    | ((with_reducible refine guard_O ?_); (first
      | (with_reducible refine wpo_frz_v ?_)
      | (with_reducible refine wpo_frz_I ?_)
      | (with_reducible refine wpo_frz_B ?_)
      | (with_reducible refine wpo_frz_l ?_)
      | (with_reducible refine wpo_frz_d ?_)
      | (with_reducible refine v_vals ?_)
      | (with_reducible refine wpo_it_l ?_)
      | (with_reducible refine wpo_it_t ?_)
      | ((with_reducible refine wpo_it_s ?_ ?_); (focus first | exact trivial | assumption | omega | (simp only [List.length_cons, List.length_nil, List.length_map]; omega) | (exact rfl)))
      | ((with_reducible refine v_objOf ?_); (refine ⟨_, rfl, ?_⟩))
      | ((with_reducible refine v_objIs ?_); (refine ⟨_, rfl, ?_⟩))
      | (with_reducible refine wpo_isi ?_)
      | ((with_reducible refine v_deref ?_); (refine ⟨_, rfl, ?_⟩))
      | ((with_reducible refine wpo_one ?_ ?_); (focus exact rfl))
      | ((with_reducible refine wpo_okAdd ?_ ?_); (focus exact rfl))
      | ((with_reducible refine v_starD ?_); (refine ⟨_, rfl, ?_⟩))
      | (with_reducible refine wpo_ints ?_)
      | (with_reducible refine wpo_ints1 ?_)
      | (with_reducible refine wpo_ints0 ?_)
      | ((with_reducible refine v_ixS ?_ ?_); (focus first | exact trivial | assumption | omega | (simp only [List.length_cons, List.length_nil, List.length_map]; omega) | (exact rfl)))
      | (with_reducible refine v_ix ?_)
      | (with_reducible refine wpo_inSign ?_)
      | ((with_reducible refine wpo_op2 ?_ ?_); (focus first | exact trivial | assumption | omega | (simp only [List.length_cons, List.length_nil, List.length_map]; omega) | (exact rfl)))
      | ((with_reducible refine wpo_op1 ?_ ?_); (focus first | exact trivial | assumption | omega | (simp only [List.length_cons, List.length_nil, List.length_map]; omega) | (exact rfl)))
      | ((with_reducible refine wpo_slS ?_ ?_); (focus first | exact trivial | assumption | omega | (simp only [List.length_cons, List.length_nil, List.length_map]; omega) | (exact rfl)))
      | ((with_reducible refine wpo_revS ?_ ?_); (focus first | exact trivial | assumption | omega | (simp only [List.length_cons, List.length_nil, List.length_map]; omega) | (exact rfl)))
      | ((with_reducible refine wpo_replS ?_ ?_); (focus first | exact trivial | assumption | omega | (simp only [List.length_cons, List.length_nil, List.length_map]; omega) | (exact rfl)))
      | (with_reducible refine wpo_revL ?_)
      | (with_reducible refine wpo_revT ?_)
      | (with_reducible refine wpo_slL ?_)
      | (with_reducible refine wpo_slT ?_)
      | (with_reducible refine v_get ?_)
      | (with_reducible refine wpo_bind ?_)
      | (with_reducible refine wpo_map ?_)))
    | ((with_reducible refine guard_S ?_); (first
      | (with_reducible refine wps_seq ?_)
      | (with_reducible refine wps_set ?_)
      | (with_reducible refine wps_expr ?_)
      | (with_reducible refine wps_ret ?_)
      | (with_reducible refine wps_if ?_)
      | (with_reducible refine wps_ifW ?_)
      | (with_reducible refine wps_for ?_)
      | (with_reducible refine wps_nil ?_)
      | (with_reducible refine wps_setL ?_)
      | (with_reducible refine wps_par ?_)
      | (with_reducible refine wps_par1 ?_)
      | (with_reducible refine wps_parC' ?_)
      | (with_reducible refine wps_parN ?_)
      | ((with_reducible refine v_retV ?_); (refine ⟨_, rfl, ?_⟩))
      | ((with_reducible refine o_retV ?_); (refine ⟨_, rfl, rfl, ?_⟩))
      | ((with_reducible refine p_retV ?_); (refine ⟨_, _, rfl, rfl, rfl, ?_⟩))
      | (with_reducible refine wps_retN ?_)
      | (with_reducible refine wps_raise ?_)
      | (with_reducible refine wps_break ?_)
      | (with_reducible refine wps_cont ?_)
      | (with_reducible refine wps_try ?_)
      | (with_reducible refine wps_tryAs ?_)
      | (with_reducible refine wps_tryM ?_)
      | (with_reducible refine wps_setF ?_)
      | (with_reducible refine wps_setD ?_)
      | (with_reducible refine wps_asg ?_)))
    | ((with_reducible refine fin_g ?_); (with_reducible apply fin_mk); (focus (first | (conv => lhs; simp only [List.set_cons_zero, List.set_cons_succ, slotOf, vI, vB, back, put1, isOwn, wipeE, List.take_succ_cons, List.take_zero, List.cons_append, List.nil_append, List.replicate_succ, List.replicate_zero, Nat.reduceSub, List.getElem?_cons_zero, List.getElem?_cons_succ, if_true, if_false, Bool.false_eq_true, List.set_nil]) | skip); (first | done | exact rfl)))
    | (with_reducible refine rt_mk ?_)
    | (with_reducible refine bk_mk ?_)
    | (with_reducible refine ct_mk ?_)
    | (with_reducible refine ex_mk ?_)
    | (with_reducible refine der_nil ?_)
    | (with_reducible refine der_v ?_)
    | ((with_reducible refine der_s ?_); (refine ⟨_, rfl, ?_⟩))
    | (with_reducible refine val_nil ?_)
    | (with_reducible refine val_v ?_)
    | (with_reducible refine arg_nil ?_)
    | (with_reducible refine arg_v ?_)
    | ((with_reducible refine arg_s ?_); (refine ⟨_, rfl, ?_⟩))
    | ((with_reducible refine v_append ?_); (refine ⟨_, rfl, ?_, ?_⟩); (focus first | exact trivial | assumption | omega | (simp only [List.length_cons, List.length_nil, List.length_map]; omega) | (exact rfl)))
    | ((with_reducible refine v_extend ?_); (refine ⟨_, rfl, ?_, ?_⟩); (focus first | exact trivial | assumption | omega | (simp only [List.length_cons, List.length_nil, List.length_map]; omega) | (exact rfl)))
    | ((with_reducible refine v_pop ?_); (refine ⟨_, rfl, ?_, ?_⟩); (focus first | exact trivial | assumption | omega | (simp only [List.length_cons, List.length_nil, List.length_map]; omega) | (exact rfl)))
    | ((with_reducible refine v_pop0 ?_); (refine ⟨_, rfl, ?_⟩))
    | (with_reducible refine isbl ?_)
    | (with_reducible refine isVd ?_)
    | (with_reducible refine isbl2 ?_)
    | (with_reducible refine isV ?_)
    | (with_reducible refine isI ?_)
    | (with_reducible refine is1v ?_)
    | (with_reducible refine is2v ?_)
    | (with_reducible refine is3 ?_)
    | (with_reducible refine isTI ?_)
    | (with_reducible refine is1i ?_)
    | (with_reducible refine is2i ?_)
    | (with_reducible refine isCons ?_)
    | (with_reducible refine cond_not ?_)
    | (with_reducible refine cond_t ?_)
    | (with_reducible refine cond_f ?_)
    | ((with_reducible refine ixg_mk ?_); (refine ⟨_, rfl, ?_⟩))
    | ((with_reducible refine ixg_neg ?_ ?_); (focus first | exact trivial | assumption | omega | (simp only [List.length_cons, List.length_nil, List.length_map]; omega) | (exact rfl)))
    | ((with_reducible refine ixg_nat ?_ ?_); (focus first | exact trivial | assumption | omega | (simp only [List.length_cons, List.length_nil, List.length_map]; omega) | (exact rfl)))
    | ((with_reducible refine ixg_of ?_ ?_); (focus first | exact trivial | assumption | omega | (simp only [List.length_cons, List.length_nil, List.length_map]; omega) | (exact rfl)))
    | ((with_reducible refine get_mk ?_); (refine ⟨_, rfl, ?_⟩))
    | ((with_reducible refine get_mapE ?_); (refine ⟨_, by assumption, ?_⟩))
    | ((with_reducible refine get_mapI ?_ ?_); (focus first | exact trivial | assumption | omega | (simp only [List.length_cons, List.length_nil, List.length_map]; omega) | (exact rfl)))
    | ((with_reducible refine get_mapS ?_ ?_); (focus first | exact trivial | assumption | omega | (simp only [List.length_cons, List.length_nil, List.length_map]; omega) | (exact rfl)))
    | ((with_reducible refine get_c ?_ ?_); (focus first | exact trivial | assumption | omega | (simp only [List.length_cons, List.length_nil, List.length_map]; omega) | (exact rfl)))
    | ((with_reducible refine get_map ?_ ?_); (focus first | exact trivial | assumption | omega | (simp only [List.length_cons, List.length_nil, List.length_map]; omega) | (exact rfl)))
    | ((with_reducible refine le_and ?_ ?_); (focus first | exact trivial | assumption | omega | (simp only [List.length_cons, List.length_nil, List.length_map]; omega) | (exact rfl)))
    | ((with_reducible refine rg1_and ?_ ?_); (focus first | exact trivial | assumption | omega | (simp only [List.length_cons, List.length_nil, List.length_map]; omega) | (exact rfl)))
    | ((with_reducible refine rg2_and ?_ ?_); (focus first | exact trivial | assumption | omega | (simp only [List.length_cons, List.length_nil, List.length_map]; omega) | (exact rfl)))
    | (with_reducible refine eq_and ?_)
    | (with_reducible refine wpB_two ?_)
    | (with_reducible refine wpB_one ?_)
    | (with_reducible refine wpG_nil ?_)
    | (with_reducible refine wpG_cons ?_)
    | (with_reducible refine wpG_mnil ?_)
    | (with_reducible refine wpG_mcons ?_)
    | (with_reducible refine tgt_gN ?_)
    | (with_reducible refine tgt_gT2 ?_)
    | (with_reducible refine tgt_gT3 ?_))
local macro_rules
  | `(tactic| sizeOf_list_dec) => `(tactic| repeat array_get_dec)

section
set_option maxRecDepth 100000
set_option maxHeartbeats 400000
/-! D33a: values that are votes that fail. -/
open PySem Dt Pm
variable {X : ExD → Sl → Prop}
end
end Pg
end
section
namespace Pg
open PySem Dt Pm
local macro_rules
  | `(tactic| array_get_dec) => `(tactic| first
    | ((with_reducible refine guard_E ?_); (first
      | (with_reducible refine wp_toA ?_)
      | ((with_reducible refine v_oName ?_); (refine ⟨_, rfl, ?_⟩))
      | ((with_reducible refine o_oName ?_); (refine ⟨_, rfl, ?_⟩))
      | (with_reducible refine wp_asCons ?_)
      | (with_reducible refine wp_asNil ?_)
      | (with_reducible refine wp_eC ?_)
      | (with_reducible refine wp_eOp ?_)
      | ((with_reducible refine v_opM ?_); (refine ⟨_, _, rfl, rfl, ?_⟩))
      | (with_reducible refine wp_eCall ?_)
      | ((with_reducible refine v_callM ?_ ?_); (focus (simp only [Dt.sidx]; decide)))
      | ((with_reducible refine v_eName ?_); (refine ⟨_, rfl, ?_⟩))
      | ((with_reducible refine o_eName ?_); (refine ⟨_, _, rfl, rfl, ?_⟩))
      | ((with_reducible refine r_eName ?_); (refine ⟨_, _, rfl, by assumption, ?_⟩))
      | (with_reducible refine wp_toB ?_)
      | (with_reducible refine wp_eTup ?_)
      | (with_reducible refine wp_eLst ?_)
      | (with_reducible refine wp_eB ?_)
      | (with_reducible refine v_bM ?_)
      | (with_reducible refine wp_eBM ?_)
      | ((with_reducible refine v_tyM ?_); (refine ⟨_, rfl, rfl, ?_⟩))
      | (with_reducible refine wp_bind ?_)
      | (with_reducible refine wp_ret ?_)
      | (with_reducible refine wp_eChain ?_)
      | (with_reducible refine wp_bAnd ?_)
      | (with_reducible refine wp_bOr ?_)
      | (with_reducible refine wp_bNot ?_)
      | (with_reducible refine wp_eAnd ?_)
      | (with_reducible refine wp_eOr ?_)
      | (with_reducible refine wp_eNot ?_)
      | (with_reducible refine wp_eIf ?_)
      | (with_reducible refine wp_iOf ?_)
      | (with_reducible refine wp_iRange1 ?_)
      | (with_reducible refine wp_iRange2 ?_)
      | (with_reducible refine wp_iEnum1 ?_)
      | (with_reducible refine wp_iZip2 ?_)
      | ((with_reducible refine wp_mutM ?_ ?_); (focus exact rfl))
      | (with_reducible refine wp_atV ?_)
      | ((with_reducible refine wp_grd ?_ ?_); (focus exact rfl))
      | ((with_reducible refine v_setLM ?_); (refine ⟨_, rfl, ?_⟩))
      | (with_reducible refine wp_eSlice ?_)
      | (with_reducible refine wp_eRev ?_)
      | (with_reducible refine wp_pNo ?_)
      | (with_reducible refine wp_pYes ?_)
      | (with_reducible refine wp_eIsi ?_)
      | (with_reducible refine wp_eMaxD ?_)
      | (with_reducible refine wp_eNeg ?_)
      | (with_reducible refine wp_eDict0 ?_)
      | ((with_reducible refine v_disp1 ?_); (refine ⟨_, rfl, ?_⟩))
      | (with_reducible refine wp_eFld ?_)
      | ((with_reducible refine v_setFM ?_); (refine ⟨_, _, _, rfl, rfl, rfl, ?_⟩))
      | (with_reducible refine wp_eMeth ?_)
      | (with_reducible refine wp_eProp ?_)
      | (with_reducible refine wp_eOpM ?_)
      | (with_reducible refine wp_inO ?_)
      | (with_reducible refine wp_spO ?_)
      | (with_reducible refine wp_spO1 ?_)
      | (with_reducible refine wp_eCMeth ?_)
      | (with_reducible refine wp_eMake ?_)
      | (with_reducible refine wp_eMakeS ?_)
      | ((with_reducible refine wp_eMakeSL ?_ ?_); (focus exact rfl))
      | (with_reducible refine wp_eComp ?_)
      | (with_reducible refine wp_eComp2 ?_)
      | ((with_reducible refine v_funD ?_ ?_); (focus exact rfl); (with_reducible apply fin_mk); (focus (first | (conv => lhs; simp only [List.set_cons_zero, List.set_cons_succ, slotOf, vI, vB, back, put1, isOwn, wipeE, List.take_succ_cons, List.take_zero, List.cons_append, List.nil_append, List.replicate_succ, List.replicate_zero, Nat.reduceSub, List.getElem?_cons_zero, List.getElem?_cons_succ, if_true, if_false, Bool.false_eq_true, List.set_nil]) | skip); (first | done | exact rfl)))))
    | ((with_reducible refine guard_O ?_); (first
      | (with_reducible refine wpo_frz_v ?_)
      | (with_reducible refine wpo_frz_I ?_)
      | (with_reducible refine wpo_frz_B ?_)
      | (with_reducible refine wpo_frz_l ?_)
      | (with_reducible refine wpo_frz_d ?_)
      | (with_reducible refine v_vals ?_)
      | (with_reducible refine wpo_it_l ?_)
      | (with_reducible refine wpo_it_t ?_)
      | ((with_reducible refine wpo_it_s ?_ ?_); (focus first | exact trivial | assumption | omega | (simp only [List.length_cons, List.length_nil, List.length_map]; omega) | (exact rfl)))
      | ((with_reducible refine v_objOf ?_); (refine ⟨_, rfl, ?_⟩))
      | ((with_reducible refine v_objIs ?_); (refine ⟨_, rfl, ?_⟩))
      | (with_reducible refine wpo_isi ?_)
      | ((with_reducible refine v_deref ?_); (refine ⟨_, rfl, ?_⟩))
      | ((with_reducible refine wpo_one ?_ ?_); (focus exact rfl))
      | ((with_reducible refine v_starD ?_); (refine ⟨_, rfl, ?_⟩))
      | (with_reducible refine wpo_ints ?_)
      | (with_reducible refine wpo_ints1 ?_)
      | (with_reducible refine wpo_ints0 ?_)
      | ((with_reducible refine v_ixS ?_ ?_); (focus first | exact trivial | assumption | omega | (simp only [List.length_cons, List.length_nil, List.length_map]; omega) | (exact rfl)))
      | (with_reducible refine v_ix ?_)
      | (with_reducible refine wpo_inSign ?_)
      | ((with_reducible refine wpo_op2 ?_ ?_); (focus first | exact trivial | assumption | omega | (simp only [List.length_cons, List.length_nil, List.length_map]; omega) | (exact rfl)))
      | ((with_reducible refine wpo_op1 ?_ ?_); (focus first | exact trivial | assumption | omega | (simp only [List.length_cons, List.length_nil, List.length_map]; omega) | (exact rfl)))
      | ((with_reducible refine wpo_slS ?_ ?_); (focus first | exact trivial | assumption | omega | (simp only [List.length_cons, List.length_nil, List.length_map]; omega) | (exact rfl)))
      | ((with_reducible refine wpo_revS ?_ ?_); (focus first | exact trivial | assumption | omega | (simp only [List.length_cons, List.length_nil, List.length_map]; omega) | (exact rfl)))
      | (with_reducible refine wpo_revL ?_)
      | (with_reducible refine wpo_revT ?_)
      | (with_reducible refine wpo_slL ?_)
      | (with_reducible refine wpo_slT ?_)
      | (with_reducible refine v_get ?_)
      | (with_reducible refine wpo_bind ?_)
      | (with_reducible refine wpo_map ?_)))
    | ((with_reducible refine guard_S ?_); (first
      | (with_reducible refine wps_seq ?_)
      | (with_reducible refine wps_set ?_)
      | (with_reducible refine wps_expr ?_)
      | (with_reducible refine wps_ret ?_)
      | (with_reducible refine wps_if ?_)
      | (with_reducible refine wps_for ?_)
      | (with_reducible refine wps_nil ?_)
      | (with_reducible refine wps_setL ?_)
      | (with_reducible refine wps_par ?_)
      | (with_reducible refine wps_par1 ?_)
      | (with_reducible refine wps_parC' ?_)
      | (with_reducible refine wps_parN ?_)
      | ((with_reducible refine v_retV ?_); (refine ⟨_, rfl, ?_⟩))
      | ((with_reducible refine o_retV ?_); (refine ⟨_, rfl, rfl, ?_⟩))
      | ((with_reducible refine p_retV ?_); (refine ⟨_, _, rfl, rfl, rfl, ?_⟩))
      | (with_reducible refine wps_retN ?_)
      | (with_reducible refine wps_raise ?_)
      | (with_reducible refine wps_break ?_)
      | (with_reducible refine wps_cont ?_)
      | (with_reducible refine wps_try ?_)
      | (with_reducible refine wps_setF ?_)
      | (with_reducible refine wps_setD ?_)
      | (with_reducible refine wps_asg ?_)))
    | ((with_reducible refine fin_g ?_); (with_reducible apply fin_mk); (focus (first | (conv => lhs; simp only [List.set_cons_zero, List.set_cons_succ, slotOf, vI, vB, back, put1, isOwn, wipeE, List.take_succ_cons, List.take_zero, List.cons_append, List.nil_append, List.replicate_succ, List.replicate_zero, Nat.reduceSub, List.getElem?_cons_zero, List.getElem?_cons_succ, if_true, if_false, Bool.false_eq_true, List.set_nil]) | skip); (first | done | exact rfl)))
    | (with_reducible refine rt_mk ?_)
    | (with_reducible refine bk_mk ?_)
    | (with_reducible refine ct_mk ?_)
    | (with_reducible refine ex_mk ?_)
    | (with_reducible refine der_nil ?_)
    | (with_reducible refine der_v ?_)
    | ((with_reducible refine der_s ?_); (refine ⟨_, rfl, ?_⟩))
    | (with_reducible refine val_nil ?_)
    | (with_reducible refine val_v ?_)
    | (with_reducible refine arg_nil ?_)
    | (with_reducible refine arg_v ?_)
    | ((with_reducible refine arg_s ?_); (refine ⟨_, rfl, ?_⟩))
    | ((with_reducible refine v_append ?_); (refine ⟨_, rfl, ?_, ?_⟩); (focus first | exact trivial | assumption | omega | (simp only [List.length_cons, List.length_nil, List.length_map]; omega) | (exact rfl)))
    | ((with_reducible refine v_extend ?_); (refine ⟨_, rfl, ?_, ?_⟩); (focus first | exact trivial | assumption | omega | (simp only [List.length_cons, List.length_nil, List.length_map]; omega) | (exact rfl)))
    | ((with_reducible refine v_pop ?_); (refine ⟨_, rfl, ?_, ?_⟩); (focus first | exact trivial | assumption | omega | (simp only [List.length_cons, List.length_nil, List.length_map]; omega) | (exact rfl)))
    | ((with_reducible refine v_pop0 ?_); (refine ⟨_, rfl, ?_⟩))
    | (with_reducible refine isbl ?_)
    | (with_reducible refine isbl2 ?_)
    | (with_reducible refine isV ?_)
    | (with_reducible refine isI ?_)
    | (with_reducible refine is1v ?_)
    | (with_reducible refine is2v ?_)
    | (with_reducible refine is3 ?_)
    | (with_reducible refine isTI ?_)
    | (with_reducible refine is1i ?_)
    | (with_reducible refine is2i ?_)
    | (with_reducible refine isCons ?_)
    | (with_reducible refine cond_not ?_)
    | (with_reducible refine cond_t ?_)
    | (with_reducible refine cond_f ?_)
    | ((with_reducible refine ixg_mk ?_); (refine ⟨_, rfl, ?_⟩))
    | ((with_reducible refine ixg_neg ?_ ?_); (focus first | exact trivial | assumption | omega | (simp only [List.length_cons, List.length_nil, List.length_map]; omega) | (exact rfl)))
    | ((with_reducible refine ixg_nat ?_ ?_); (focus first | exact trivial | assumption | omega | (simp only [List.length_cons, List.length_nil, List.length_map]; omega) | (exact rfl)))
    | ((with_reducible refine ixg_of ?_ ?_); (focus first | exact trivial | assumption | omega | (simp only [List.length_cons, List.length_nil, List.length_map]; omega) | (exact rfl)))
    | ((with_reducible refine get_mk ?_); (refine ⟨_, rfl, ?_⟩))
    | ((with_reducible refine get_mapE ?_); (refine ⟨_, by assumption, ?_⟩))
    | ((with_reducible refine get_mapI ?_ ?_); (focus first | exact trivial | assumption | omega | (simp only [List.length_cons, List.length_nil, List.length_map]; omega) | (exact rfl)))
    | ((with_reducible refine get_mapS ?_ ?_); (focus first | exact trivial | assumption | omega | (simp only [List.length_cons, List.length_nil, List.length_map]; omega) | (exact rfl)))
    | ((with_reducible refine get_c ?_ ?_); (focus first | exact trivial | assumption | omega | (simp only [List.length_cons, List.length_nil, List.length_map]; omega) | (exact rfl)))
    | ((with_reducible refine get_map ?_ ?_); (focus first | exact trivial | assumption | omega | (simp only [List.length_cons, List.length_nil, List.length_map]; omega) | (exact rfl)))
    | ((with_reducible refine le_and ?_ ?_); (focus first | exact trivial | assumption | omega | (simp only [List.length_cons, List.length_nil, List.length_map]; omega) | (exact rfl)))
    | ((with_reducible refine rg1_and ?_ ?_); (focus first | exact trivial | assumption | omega | (simp only [List.length_cons, List.length_nil, List.length_map]; omega) | (exact rfl)))
    | ((with_reducible refine rg2_and ?_ ?_); (focus first | exact trivial | assumption | omega | (simp only [List.length_cons, List.length_nil, List.length_map]; omega) | (exact rfl)))
    | (with_reducible refine eq_and ?_)
    | (with_reducible refine wpB_two ?_)
    | (with_reducible refine wpB_one ?_)
    | (with_reducible refine wpG_nil ?_)
    | (with_reducible refine wpG_cons ?_)
    | (with_reducible refine wpG_mnil ?_)
    | (with_reducible refine wpG_mcons ?_)
    | (with_reducible refine tgt_gN ?_)
    | (with_reducible refine tgt_gT2 ?_)
    | (with_reducible refine tgt_gT3 ?_))
local macro_rules
  | `(tactic| sizeOf_list_dec) => `(tactic| repeat array_get_dec)

section
set_option maxRecDepth 100000
set_option maxHeartbeats 400000
/-! D33b: k33's law. -/
open PySem Dt Pm
variable {X : ExD → Sl → Prop}
def Thg (d : D) : Prop := ∃ w k, Sh d w k ∧ w ≤ 40000 ∧ k ≤ 60
theorem Thg.pln {d : D} (h : Thg d) : Pln d := let ⟨_, _, h, _⟩ := h; h.pln
theorem all_cons {P : D → Prop} {d : D} {ds : List D} (h : P d) (t : ∀ x ∈ ds, P x) : ∀ x ∈ d :: ds, P x := fun x hx => (List.mem_cons.mp hx).elim (fun e => e ▸ h) (t x)
end
end Pg
end
section
namespace Pg
open PySem Dt Pm
local macro_rules
  | `(tactic| array_get_dec) => `(tactic| first
    | ((with_reducible refine guard_E ?_); (first
      | (with_reducible refine wp_toA ?_)
      | ((with_reducible refine v_oName ?_); (refine ⟨_, rfl, ?_⟩))
      | ((with_reducible refine o_oName ?_); (refine ⟨_, rfl, ?_⟩))
      | (with_reducible refine wp_asCons ?_)
      | (with_reducible refine wp_asNil ?_)
      | (with_reducible refine wp_eC ?_)
      | (with_reducible refine wp_eOp ?_)
      | ((with_reducible refine v_opM ?_); (refine ⟨_, _, rfl, rfl, ?_⟩))
      | (with_reducible refine wp_eCall ?_)
      | ((with_reducible refine v_callM ?_ ?_); (focus (simp only [Dt.sidx]; decide)))
      | ((with_reducible refine v_eName ?_); (refine ⟨_, rfl, ?_⟩))
      | ((with_reducible refine o_eName ?_); (refine ⟨_, _, rfl, rfl, ?_⟩))
      | ((with_reducible refine r_eName ?_); (refine ⟨_, _, rfl, by assumption, ?_⟩))
      | (with_reducible refine wp_toB ?_)
      | (with_reducible refine wp_eTup ?_)
      | (with_reducible refine wp_eLst ?_)
      | (with_reducible refine wp_eB ?_)
      | (with_reducible refine v_bM ?_)
      | (with_reducible refine wp_eBM ?_)
      | ((with_reducible refine v_tyM ?_); (refine ⟨_, rfl, rfl, ?_⟩))
      | (with_reducible refine wp_bind ?_)
      | (with_reducible refine wp_ret ?_)
      | (with_reducible refine wp_eChain ?_)
      | (with_reducible refine wp_eChain3 ?_)
      | (with_reducible refine wp_bAnd ?_)
      | (with_reducible refine wp_bOr ?_)
      | (with_reducible refine wp_bNot ?_)
      | (with_reducible refine wp_eAnd ?_)
      | (with_reducible refine wp_eOr ?_)
      | (with_reducible refine wp_eNot ?_)
      | (with_reducible refine wp_eIf ?_)
      | (with_reducible refine wp_iOf ?_)
      | (with_reducible refine wp_iRange1 ?_)
      | (with_reducible refine wp_iRange2 ?_)
      | (with_reducible refine wp_iEnum1 ?_)
      | (with_reducible refine wp_iZip2 ?_)
      | ((with_reducible refine wp_mutM ?_ ?_); (focus exact rfl))
      | (with_reducible refine wp_atV ?_)
      | ((with_reducible refine wp_grd ?_ ?_); (focus exact rfl))
      | ((with_reducible refine v_setLM ?_); (refine ⟨_, rfl, ?_⟩))
      | (with_reducible refine wp_eSlice ?_)
      | (with_reducible refine wp_eRev ?_)
      | (with_reducible refine wp_pNo ?_)
      | (with_reducible refine wp_pYes ?_)
      | (with_reducible refine wp_eIsi ?_)
      | (with_reducible refine wp_eMaxD ?_)
      | (with_reducible refine wp_eNeg ?_)
      | (with_reducible refine wp_eDict0 ?_)
      | ((with_reducible refine v_disp1 ?_); (refine ⟨_, rfl, ?_⟩))
      | (with_reducible refine wp_eFld ?_)
      | ((with_reducible refine v_setFM ?_); (refine ⟨_, _, _, rfl, rfl, rfl, ?_⟩))
      | (with_reducible refine wp_eMeth ?_)
      | (with_reducible refine wp_eProp ?_)
      | (with_reducible refine wp_eOpM ?_)
      | (with_reducible refine wp_inO ?_)
      | (with_reducible refine wp_spO ?_)
      | (with_reducible refine wp_spO1 ?_)
      | (with_reducible refine wp_eCMeth ?_)
      | (with_reducible refine wp_eMake ?_)
      | (with_reducible refine wp_eMakeS ?_)
      | ((with_reducible refine wp_eMakeSL ?_ ?_); (focus exact rfl))
      | (with_reducible refine wp_eComp ?_)
      | (with_reducible refine wp_eComp2 ?_)
      | ((with_reducible refine v_funD ?_ ?_); (focus exact rfl); (with_reducible apply fin_mk); (focus (first | (conv => lhs; simp only [List.set_cons_zero, List.set_cons_succ, slotOf, vI, vB, back, put1, isOwn, wipeE, List.take_succ_cons, List.take_zero, List.cons_append, List.nil_append, List.replicate_succ, List.replicate_zero, Nat.reduceSub, List.getElem?_cons_zero, List.getElem?_cons_succ, if_true, if_false, Bool.false_eq_true, List.set_nil]) | skip); (first | done | exact rfl)))))
    | ((with_reducible refine guard_O ?_); (first
      | (with_reducible refine wpo_frz_v ?_)
      | (with_reducible refine wpo_frz_I ?_)
      | (with_reducible refine wpo_frz_B ?_)
      | (with_reducible refine wpo_frz_l ?_)
      | (with_reducible refine wpo_frz_d ?_)
      | (with_reducible refine v_vals ?_)
      | (with_reducible refine wpo_it_l ?_)
      | (with_reducible refine wpo_it_t ?_)
      | ((with_reducible refine wpo_it_s ?_ ?_); (focus first | exact trivial | assumption | omega | (simp only [List.length_cons, List.length_nil, List.length_map]; omega) | (exact rfl)))
      | ((with_reducible refine v_objOf ?_); (refine ⟨_, rfl, ?_⟩))
      | ((with_reducible refine v_objIs ?_); (refine ⟨_, rfl, ?_⟩))
      | (with_reducible refine wpo_isi ?_)
      | ((with_reducible refine v_deref ?_); (refine ⟨_, rfl, ?_⟩))
      | ((with_reducible refine wpo_one ?_ ?_); (focus exact rfl))
      | ((with_reducible refine v_starD ?_); (refine ⟨_, rfl, ?_⟩))
      | (with_reducible refine wpo_ints ?_)
      | (with_reducible refine wpo_ints1 ?_)
      | (with_reducible refine wpo_ints0 ?_)
      | ((with_reducible refine v_ixS ?_ ?_); (focus first | exact trivial | assumption | omega | (simp only [List.length_cons, List.length_nil, List.length_map]; omega) | (exact rfl)))
      | (with_reducible refine v_ix ?_)
      | (with_reducible refine wpo_inSign ?_)
      | ((with_reducible refine wpo_op2 ?_ ?_); (focus first | exact trivial | assumption | omega | (simp only [List.length_cons, List.length_nil, List.length_map]; omega) | (exact rfl)))
      | ((with_reducible refine wpo_op1 ?_ ?_); (focus first | exact trivial | assumption | omega | (simp only [List.length_cons, List.length_nil, List.length_map]; omega) | (exact rfl)))
      | ((with_reducible refine wpo_slS ?_ ?_); (focus first | exact trivial | assumption | omega | (simp only [List.length_cons, List.length_nil, List.length_map]; omega) | (exact rfl)))
      | ((with_reducible refine wpo_revS ?_ ?_); (focus first | exact trivial | assumption | omega | (simp only [List.length_cons, List.length_nil, List.length_map]; omega) | (exact rfl)))
      | (with_reducible refine wpo_revL ?_)
      | (with_reducible refine wpo_revT ?_)
      | (with_reducible refine wpo_slL ?_)
      | (with_reducible refine wpo_slT ?_)
      | (with_reducible refine v_get ?_)
      | (with_reducible refine wpo_bind ?_)
      | (with_reducible refine wpo_map ?_)))
    | ((with_reducible refine guard_S ?_); (first
      | (with_reducible refine wps_seq ?_)
      | (with_reducible refine wps_set ?_)
      | (with_reducible refine wps_expr ?_)
      | (with_reducible refine wps_ret ?_)
      | (with_reducible refine wps_if ?_)
      | (with_reducible refine wps_ifW ?_)
      | (with_reducible refine wps_for ?_)
      | (with_reducible refine wps_nil ?_)
      | (with_reducible refine wps_setL ?_)
      | (with_reducible refine wps_par ?_)
      | (with_reducible refine wps_par1 ?_)
      | (with_reducible refine wps_parC' ?_)
      | (with_reducible refine wps_parN ?_)
      | ((with_reducible refine v_retV ?_); (refine ⟨_, rfl, ?_⟩))
      | ((with_reducible refine o_retV ?_); (refine ⟨_, rfl, rfl, ?_⟩))
      | ((with_reducible refine p_retV ?_); (refine ⟨_, _, rfl, rfl, rfl, ?_⟩))
      | (with_reducible refine wps_retN ?_)
      | (with_reducible refine wps_raise ?_)
      | (with_reducible refine wps_break ?_)
      | (with_reducible refine wps_cont ?_)
      | (with_reducible refine wps_try ?_)
      | (with_reducible refine wps_tryAs ?_)
      | (with_reducible refine wps_setF ?_)
      | (with_reducible refine wps_setD ?_)
      | (with_reducible refine wps_asg ?_)))
    | ((with_reducible refine fin_g ?_); (with_reducible apply fin_mk); (focus (first | (conv => lhs; simp only [List.set_cons_zero, List.set_cons_succ, slotOf, vI, vB, back, put1, isOwn, wipeE, List.take_succ_cons, List.take_zero, List.cons_append, List.nil_append, List.replicate_succ, List.replicate_zero, Nat.reduceSub, List.getElem?_cons_zero, List.getElem?_cons_succ, if_true, if_false, Bool.false_eq_true, List.set_nil]) | skip); (first | done | exact rfl)))
    | (with_reducible refine rt_mk ?_)
    | (with_reducible refine bk_mk ?_)
    | (with_reducible refine ct_mk ?_)
    | (with_reducible refine ex_mk ?_)
    | (with_reducible refine der_nil ?_)
    | (with_reducible refine der_v ?_)
    | ((with_reducible refine der_s ?_); (refine ⟨_, rfl, ?_⟩))
    | (with_reducible refine val_nil ?_)
    | (with_reducible refine val_v ?_)
    | (with_reducible refine arg_nil ?_)
    | (with_reducible refine arg_v ?_)
    | ((with_reducible refine arg_s ?_); (refine ⟨_, rfl, ?_⟩))
    | ((with_reducible refine v_append ?_); (refine ⟨_, rfl, ?_, ?_⟩); (focus first | exact trivial | assumption | omega | (simp only [List.length_cons, List.length_nil, List.length_map]; omega) | (exact rfl)))
    | ((with_reducible refine v_extend ?_); (refine ⟨_, rfl, ?_, ?_⟩); (focus first | exact trivial | assumption | omega | (simp only [List.length_cons, List.length_nil, List.length_map]; omega) | (exact rfl)))
    | ((with_reducible refine v_pop ?_); (refine ⟨_, rfl, ?_, ?_⟩); (focus first | exact trivial | assumption | omega | (simp only [List.length_cons, List.length_nil, List.length_map]; omega) | (exact rfl)))
    | ((with_reducible refine v_pop0 ?_); (refine ⟨_, rfl, ?_⟩))
    | (with_reducible refine isbl ?_)
    | (with_reducible refine isVd ?_)
    | (with_reducible refine isbl2 ?_)
    | (with_reducible refine isV ?_)
    | (with_reducible refine isI ?_)
    | (with_reducible refine is1v ?_)
    | (with_reducible refine is2v ?_)
    | (with_reducible refine is3 ?_)
    | (with_reducible refine isTI ?_)
    | (with_reducible refine is1i ?_)
    | (with_reducible refine is2i ?_)
    | (with_reducible refine isCons ?_)
    | (with_reducible refine cond_not ?_)
    | (with_reducible refine cond_t ?_)
    | (with_reducible refine cond_f ?_)
    | ((with_reducible refine ixg_mk ?_); (refine ⟨_, rfl, ?_⟩))
    | ((with_reducible refine ixg_neg ?_ ?_); (focus first | exact trivial | assumption | omega | (simp only [List.length_cons, List.length_nil, List.length_map]; omega) | (exact rfl)))
    | ((with_reducible refine ixg_nat ?_ ?_); (focus first | exact trivial | assumption | omega | (simp only [List.length_cons, List.length_nil, List.length_map]; omega) | (exact rfl)))
    | ((with_reducible refine ixg_of ?_ ?_); (focus first | exact trivial | assumption | omega | (simp only [List.length_cons, List.length_nil, List.length_map]; omega) | (exact rfl)))
    | ((with_reducible refine get_mk ?_); (refine ⟨_, rfl, ?_⟩))
    | ((with_reducible refine get_mapE ?_); (refine ⟨_, by assumption, ?_⟩))
    | ((with_reducible refine get_mapI ?_ ?_); (focus first | exact trivial | assumption | omega | (simp only [List.length_cons, List.length_nil, List.length_map]; omega) | (exact rfl)))
    | ((with_reducible refine get_mapS ?_ ?_); (focus first | exact trivial | assumption | omega | (simp only [List.length_cons, List.length_nil, List.length_map]; omega) | (exact rfl)))
    | ((with_reducible refine get_c ?_ ?_); (focus first | exact trivial | assumption | omega | (simp only [List.length_cons, List.length_nil, List.length_map]; omega) | (exact rfl)))
    | ((with_reducible refine get_map ?_ ?_); (focus first | exact trivial | assumption | omega | (simp only [List.length_cons, List.length_nil, List.length_map]; omega) | (exact rfl)))
    | ((with_reducible refine le_and ?_ ?_); (focus first | exact trivial | assumption | omega | (simp only [List.length_cons, List.length_nil, List.length_map]; omega) | (exact rfl)))
    | ((with_reducible refine rg1_and ?_ ?_); (focus first | exact trivial | assumption | omega | (simp only [List.length_cons, List.length_nil, List.length_map]; omega) | (exact rfl)))
    | ((with_reducible refine rg2_and ?_ ?_); (focus first | exact trivial | assumption | omega | (simp only [List.length_cons, List.length_nil, List.length_map]; omega) | (exact rfl)))
    | (with_reducible refine eq_and ?_)
    | (with_reducible refine wpB_two ?_)
    | (with_reducible refine wpB_one ?_)
    | (with_reducible refine wpG_nil ?_)
    | (with_reducible refine wpG_cons ?_)
    | (with_reducible refine wpG_mnil ?_)
    | (with_reducible refine wpG_mcons ?_)
    | (with_reducible refine tgt_gN ?_)
    | (with_reducible refine tgt_gT2 ?_)
    | (with_reducible refine tgt_gT3 ?_))
local macro_rules
  | `(tactic| sizeOf_list_dec) => `(tactic| repeat array_get_dec)

section
set_option maxRecDepth 100000
set_option maxHeartbeats 400000
/-! D20a: the draws of the C laws. -/
open PySem Dt Pm
variable {X : ExD → Sl → Prop}
/-- a pen that has n draws left -/
def Pen (n : Nat) (s : List D) : Prop := ∃ a b c : Int, s = [.int a, .int b, .int c] ∧ 0 ≤ c ∧ c + n ≤ 1000000000
theorem Pen.mono {n n' : Nat} {s : List D} (h : Pen n s) (l : n' ≤ n) : Pen n' s := let ⟨a, b, c, e, h1, h2⟩ := h; ⟨a, b, c, e, h1, by omega⟩
theorem pen_wp {c : Int} {Q : EV → Sl → Prop} (k : ∀ s, Pen 1000000 s → Q (.o (.lst s)) [.val (.int c)]) : wp sem__law_pen [.val (.int c)] Q X := by
  unfold sem__law_pen bd__law_pen
  sizeOf_list_dec
  exact k _ ⟨_, _, _, rfl, by omega, by omega⟩
theorem draw2_wp {n : Nat} {s : List D} {m : Int} {Q : EV → Sl → Prop} (hs : Pen n s) (hn : 1 ≤ n) (h1 : 0 < m) (h2 : m < 1000000) (k : ∀ r s', Pen (n - 1) s' → 0 ≤ r → r < m → Q (.v (.int r)) [.own (.lst s'), .val (.int m)]) : wp sem__law_draw_v2 [.own (.lst s), .val (.int m)] Q X := by
  obtain ⟨a, b, c, rfl, c1, c2⟩ := hs
  unfold sem__law_draw_v2 bd__law_draw_v2
  sizeOf_list_dec
  refine cond_d (fun h => ?_) (fun h => ?_)
  · sizeOf_list_dec
    exact k _ _ ⟨_, _, _, rfl, by omega, by omega⟩ (Int.emod_nonneg _ (by omega)) (Int.emod_lt_of_pos _ h1)
  · sizeOf_list_dec
    exact k _ _ ⟨_, _, _, rfl, by omega, by omega⟩ (Int.emod_nonneg _ (by omega)) (Int.emod_lt_of_pos _ h1)
theorem all2_wp {n : Nat} {Q : EV → Sl → Prop} (hn : n ≤ 6) (k : ∀ v, frz v = some (.lst (strL (allR n))) → (0 < n → v = .v (.lst (strL (allR n)))) → Q v [.val (.int n)]) : wp sem__law_all_v2 [.val (.int n)] Q X := by
  unfold sem__law_all_v2 bd__law_all_v2
  sizeOf_list_dec
  refine wps_forN (fun j e => ∃ sl x y z, (sl = .val (.lst (strL (allR j))) ∨ (j = 0 ∧ sl = .own (.lst (strL (allR j))))) ∧ e = [.val (.int n), sl, x, y, z]) ⟨_, _, _, _, .inr ⟨rfl, rfl⟩, rfl⟩ (fun j e hj ⟨sl, x, y, z, hs, he⟩ => ?_) (fun e ⟨sl, x, y, z, hs, he⟩ => ?_)
  · subst he
    have hr : Rds sl (.lst (strL (allR j))) := hs.elim (fun h => .inl h) fun h => h.2 ▸ .l _
    have hl := allR_le (n := j) (by omega)
    sizeOf_list_dec
    unfold lp__law_all_v2_1
    sizeOf_list_dec
    refine wps_forI (fun pre e => ∃ z, e = [.val (.int n), .val (.lst (strL (allR j))), .val (.int j), .own (.lst (strL (dbl pre))), z]) ⟨_, rfl⟩ (fun pre a post hp e ⟨z, he⟩ => ?_) (fun e ⟨z, he⟩ => ?_)
    · subst he
      have ha := (mem_allR.mp (show a ∈ allR j by rw [hp]; simp)).1
      have hl2 : pre.length + 1 ≤ (allR j).length := by rw [hp]; simp
      have hl3 := len_dbl pre
      sizeOf_list_dec
      unfold lp__law_all_v2_0
      sizeOf_list_dec
      simp only [strL, dbl_app, List.map_append]
      exact ⟨_, rfl⟩
    · subst he
      sizeOf_list_dec
      exact ⟨_, _, _, _, .inl rfl, rfl⟩
  · subst he
    rcases hs with rfl | ⟨hz, rfl⟩
    · sizeOf_list_dec
      exact k _ rfl fun _ => rfl
    · sizeOf_list_dec
      exact k _ rfl fun h => absurd h (by omega)
theorem erase_map {α β : Type} (f : α → β) : ∀ (l : List α) (i : Nat), (l.map f).eraseIdx i = (l.eraseIdx i).map f
  | [], _ => rfl
  | _ :: _, 0 => rfl
  | a :: l, i + 1 => by simp [List.eraseIdx, erase_map f l i]
theorem erase_perm {α : Type} : ∀ {l : List α} {i : Nat} (h : i < l.length), (l[i] :: l.eraseIdx i).Perm l
  | a :: l, 0, _ => .refl _
  | a :: l, i + 1, h => (List.Perm.swap _ _ _).trans (.cons _ (erase_perm (l := l) (i := i) (by simpa using h)))
def iD (i : Nat) : D := .int i
def cD (c : Nat) : D := .str [c]
def Sgn (c : Nat) : Prop := c = 48 ∨ c = 49
/-- a row has the answers a at the issues fr -/
structure SetAt (m : Nat) (fr a r : List Nat) : Prop where
  len : r.length = m
  sgn : ∀ c ∈ r, Sgn c
  at_ : ∀ i, i < fr.length → r.getD (fr.getD i 0) 0 = a.getD i 0
theorem getD_set {l : List Nat} {p q c : Nat} (hp : p < l.length) : (l.set p c).getD q 0 = if q = p then c else l.getD q 0 := by
  rw [List.getD_eq_getElem?_getD, List.getD_eq_getElem?_getD, List.getElem?_set]
  by_cases h : q = p
  · subst h; simp [hp]
  · rw [if_neg (Ne.symm h), if_neg h]
theorem getD_lt {l : List Nat} {i : Nat} (h : i < l.length) : l.getD i 0 = l[i] := by
  rw [List.getD_eq_getElem?_getD, List.getElem?_eq_getElem h]; rfl
theorem ext_getD {a b : List Nat} (hl : a.length = b.length) (h : ∀ i, i < a.length → a.getD i 0 = b.getD i 0) : a = b := by
  refine List.ext_getElem hl fun i h1 h2 => ?_
  have := h i h1
  rwa [getD_lt h1, getD_lt h2] at this
theorem nodup_rows {m : Nat} {fr : List Nat} : ∀ {as rows : List (List Nat)}, All2 (SetAt m fr) as rows → as.Nodup → (∀ a ∈ as, a.length = fr.length) → rows.Nodup
  | [], [], .nil, _, _ => List.nodup_nil
  | a :: as, r :: rows, .cons h t, hn, hl => by
    obtain ⟨n1, n2⟩ := List.nodup_cons.mp hn
    refine List.nodup_cons.mpr ⟨fun hm => ?_, nodup_rows t n2 fun b hb => hl b (List.mem_cons_of_mem _ hb)⟩
    obtain ⟨b, hb, hbr⟩ := t.mem r hm
    have : a = b := ext_getD (by rw [hl a (List.mem_cons_self ..), hl b (List.mem_cons_of_mem _ hb)]) fun i hi => by
      have hi : i < fr.length := by rw [← hl a (List.mem_cons_self ..)]; exact hi
      rw [← h.at_ i hi, ← hbr.at_ i hi]
    exact n1 (this ▸ hb)
theorem signs_joinC {cs : List Nat} {K : EV → Prop} (h6 : cs.length ≤ 100) (k : K (.v (.str cs))) : wpo (joinD [.str [], .lst (cs.map cD)]) K := by
  refine wpo_of (a := .v (.str cs)) ?_ k
  have e := (inferInstance : Op1 joinD [.str [], .lst (cs.map fun c => D.str [c])] _ _).of (by
    have := (Dt.sum_le (n := 1) (l := cs.map fun c => [c]) (fun r hr => by obtain ⟨_, _, rfl⟩ := List.mem_map.mp hr; exact Nat.le_refl _))
    simp only [List.length_map, List.length_nil] at this ⊢
    omega)
  refine e.trans ?_
  rw [joinS_nil, flat_sing, List.map_id']
theorem settling_wp {n m : Nat} {s : List D} {Q : EV → Sl → Prop} (hs : Pen n s) (hn : 1000 ≤ n) (h1 : 1 ≤ m) (h6 : m ≤ 6) (k : ∀ rows s', Pen (n - 1000) s' → rows ≠ [] → rows.Nodup → (∀ r ∈ rows, r ∈ allR m) → Q (.o (.lst (strL rows))) [.own (.lst s'), .val (.int m)]) : wp sem__law_settling [.own (.lst s), .val (.int m)] Q X := by
  unfold sem__law_settling bd__law_settling
  sizeOf_list_dec
  refine draw2_wp hs (by omega) (by omega) (by omega) fun dd s hs d1 d2 => ?_
  sizeOf_list_dec
  obtain ⟨kk, rfl⟩ : ∃ kk : Nat, dd = kk := ⟨dd.toNat, by omega⟩
  rw [rangeD_nat]
  refine wpc_I (fun pre acc e => ∃ s left fr, Pen (n - 1 - pre.length) s ∧ acc = fr.map iD ∧ fr.length = pre.length ∧ (left ++ fr).Perm (List.range m) ∧ e = [.own (.lst s), .val (.int m), .own (.lst (left.map iD)), .emp, .emp, .emp, .emp, .emp, .emp, .emp]) (List.range kk) [] [] _ ⟨s, List.range m, [], hs, rfl, rfl, by simp, rfl⟩ (fun mid a post hm acc e ⟨s, left, fr, hs, ha, hl, hp, he⟩ => ⟨_, rfl, ?_⟩) fun xs e ⟨s, left, fr, hs, ha, hl, hp, he⟩ => ?_
  · subst he
    subst ha
    have hlt := congrArg List.length hm
    have hpl := hp.length_eq
    simp only [List.length_append, List.length_range, List.length_cons, List.nil_append] at hlt hpl hl hs
    refine wp_ret ⟨fun _ => ?_, fun h => by cases h⟩
    unfold lp__law_settling_0
    sizeOf_list_dec
    rw [List.length_map]
    refine draw2_wp hs (by omega) (by omega) (by omega) fun r s hs r1 r2 => ?_
    obtain ⟨r, rfl⟩ : ∃ r' : Nat, r = r' := ⟨r.toNat, by omega⟩
    have hr : r < left.length := by omega
    sizeOf_list_dec
    refine ⟨s, left.eraseIdx r, fr ++ [left[r]], hs.mono (by simp; omega), by simp [Int.toNat_natCast], by simp [hl], ?_, by rw [Int.toNat_natCast, erase_map]⟩
    refine List.Perm.trans ?_ hp
    rw [← List.append_assoc]
    exact List.perm_append_comm.trans ((erase_perm hr).append_right fr)
  · subst he
    subst ha
    have hk : fr.length = kk := by simpa using hl
    have hnd : fr.Nodup := (List.nodup_append.mp (hp.nodup_iff.mpr List.nodup_range)).2.1
    have hfm : ∀ x ∈ fr, x < m := fun x hx => List.mem_range.mp (hp.mem_iff.mp (List.mem_append_right _ hx))
    have hk6 : kk ≤ 6 := by omega
    sizeOf_list_dec
    rw [List.length_map, hk]
    refine all2_wp hk6 fun v hv _ => ?_
    sizeOf_list_dec
    refine wpo_of hv ?_
    sizeOf_list_dec
    have hal := allR_le hk6
    have hpl0 : Pen (n - 10) s := hs.mono (by simp; omega)
    refine wps_forI (fun pre e => ∃ s rows sl a5 a6 a7 a8, Pen (n - 10 - 6 * pre.length) s ∧ Rds sl (.lst (fr.map iD)) ∧ All2 (SetAt m fr) pre rows ∧ e = [.own (.lst s), .val (.int m), .own (.lst (left.map iD)), sl, .own (.lst (strL rows)), a5, a6, a7, a8, .emp]) ⟨_, [], _, _, _, _, _, hpl0, .l _, .nil, rfl⟩ (fun pre a post hm e ⟨s, rows, sl, a5, a6, a7, a8, hs, hsl, hrows, he⟩ => tgt_gN ?_) (fun e ⟨s, rows, sl, a5, a6, a7, a8, hs, hsl, hrows, he⟩ => ?_)
    · subst he
      have ham := mem_allR.mp (show a ∈ allR kk by rw [hm]; simp)
      have hpl : pre.length < 64 := by have := congrArg List.length hm; simp at this; omega
      sizeOf_list_dec
      unfold lp__law_settling_3
      sizeOf_list_dec
      rw [rangeD_nat]
      refine wpc_relN (fun j e => ∃ s a7 a8, Pen (n - 10 - 6 * pre.length - j) s ∧ e = [.own (.lst s), .val (.int m), .own (.lst (left.map iD)), sl, .own (.lst (strL rows)), .val (.str a), .emp, a7, a8, .emp]) (fun _ d => ∃ c, d = cD c ∧ Sgn c) ⟨_, _, _, hs, rfl⟩ (fun j i hj hi e ⟨s, a7, a8, hs, he⟩ => tgt_gN ?_) (fun xs e hx ⟨s, a7, a8, hs, he⟩ => ?_)
      · subst he
        rw [List.length_range] at hj
        sizeOf_list_dec
        unfold lp__law_settling_1
        sizeOf_list_dec
        refine draw2_wp hs (by omega) (by omega) (by omega) fun r s hs r1 r2 => ?_
        sizeOf_list_dec
        have hr : r = 0 ∨ r = 1 := by omega
        rcases hr with rfl | rfl
        · exact ⟨_, rfl, ⟨48, rfl, .inl rfl⟩, _, _, _, hs, rfl⟩
        · exact ⟨_, rfl, ⟨49, rfl, .inr rfl⟩, _, _, _, hs, rfl⟩
      · subst he
        obtain ⟨cs, rfl, c1, c2⟩ := hx.typed
        rw [List.length_range] at c1 hs
        sizeOf_list_dec
        rw [enumL_map (z := 0) iD fr]
        refine wps_forI (fun pre2 e => ∃ cs a8 a6, cs.length = m ∧ (∀ c ∈ cs, Sgn c) ∧ (∀ i, i < pre2.length → cs.getD (fr.getD i 0) 0 = a.getD i 0) ∧ e = [.own (.lst s), .val (.int m), .own (.lst (left.map iD)), .val (.lst (fr.map iD)), .own (.lst (strL rows)), .val (.str a), a6, .own (.lst (cs.map cD)), a8, .emp]) ⟨_, _, _, c1, c2, fun i hi => absurd hi (by simp), rfl⟩ (fun pre2 i post2 hp2 e ⟨cs, a8, a6, c1, c2, c3, he⟩ => ?_) (fun e ⟨cs, a8, a6, c1, c2, c3, he⟩ => ?_)
        · subst he
          have hi2 : (List.range fr.length)[pre2.length]? = some i := by rw [hp2]; simp
          have hil : pre2.length < fr.length := by have := congrArg List.length hp2; simp at this; omega
          have hip : pre2.length = i := by
            rw [List.getElem?_range hil] at hi2
            exact Option.some.inj hi2
          subst hip
          have hfi : fr.getD pre2.length 0 < cs.length := by
            rw [c1]
            refine hfm _ ?_
            rw [getD_lt hil]
            exact List.getElem_mem _
          unfold iD
          sizeOf_list_dec
          unfold lp__law_settling_2
          sizeOf_list_dec
          have e1 : (cs.map cD).set (fr.getD pre2.length 0) (D.str [a.getD (0 + pre2.length) 0]) = (cs.set (fr.getD pre2.length 0) (a.getD pre2.length 0)).map cD := by rw [Nat.zero_add, List.map_set]; rfl
          have ha2 : pre2.length < a.length := by omega
          refine ⟨cs.set (fr.getD pre2.length 0) (a.getD pre2.length 0), _, _, by simp [c1], fun c hc => ?_, fun i hi => ?_, by rw [← e1]⟩
          · rcases List.mem_or_eq_of_mem_set hc with hc | hc
            · exact c2 c hc
            · rw [hc, getD_lt ha2]
              exact ham.2 _ (List.getElem_mem _)
          · rw [getD_set hfi]
            simp only [List.length_append, List.length_singleton] at hi
            by_cases z : i = pre2.length
            · rw [z, if_pos rfl]
            · have hil2 : i < fr.length := by omega
              rw [if_neg, c3 i (by omega)]
              intro h
              rw [getD_lt hil2, getD_lt hil] at h
              exact List.pairwise_iff_getElem.mp hnd i pre2.length hil2 hil (by omega) h
        · subst he
          sizeOf_list_dec
          refine signs_joinC (by omega) ?_
          sizeOf_list_dec
          have hpl2 : (strL rows).length = pre.length := by rw [strL, List.length_map]; exact hrows.length.symm
          sizeOf_list_dec
          have esr : strL rows ++ [D.str cs] = strL (rows ++ [cs]) := by simp [strL]
          try rw [esr]
          refine ⟨s, rows ++ [cs], _, _, _, _, _, hs.mono (by simp; omega), .v _, ?_, rfl⟩
          have app : ∀ {l1 x1 : List (List Nat)}, All2 (SetAt m fr) l1 x1 → All2 (SetAt m fr) (l1 ++ [a]) (x1 ++ [cs]) := by
            intro l1 x1 h
            induction h with
            | nil => exact .cons ⟨c1, c2, fun i hi => c3 i (by simpa using hi)⟩ .nil
            | cons h t ih => exact .cons h ih
          exact app hrows
    · subst he
      sizeOf_list_dec
      refine k rows _ (hs.mono (by omega)) ?_ (nodup_rows hrows (nodup_allR kk) fun a ha => by rw [(mem_allR.mp ha).1, hk]) fun r hr => ?_
      · intro e
        have := hrows.length
        rw [e, len_allR] at this
        have := Nat.pow_pos (n := kk) (show 0 < 2 by omega)
        simp at *
      · obtain ⟨a, _, h⟩ := hrows.mem r hr
        exact mem_allR.mpr ⟨h.len, h.sgn⟩
end
section
set_option maxRecDepth 100000
set_option maxHeartbeats 400000
/-! D20b: the rows of the C laws, their clashes by listing. -/
open PySem Dt Pm
variable {X : ExD → Sl → Prop}
theorem wpc_subN {vs : List Nat} {t : D → Sl → Option Sl} {c : M Bool} {f : M EV} {env : Sl} {K : List D → Sl → Prop} {α : Type} {inj : α → D} {l : List α} (I : Nat → Sl → Prop) (g : α → D) (h0 : I 0 env) (st : ∀ j a, j < l.length → a ∈ l → ∀ e, I j e → ∃ e1, t (inj a) e = some e1 ∧ wp c e1 (fun b e2 => (b = true → wp f e2 (fun v e3 => frz v = some (g a) ∧ I (j + 1) (wipeE e3 vs)) NoX) ∧ (b = false → I (j + 1) (wipeE e2 vs))) NoX) (k : ∀ (l' : List α) e, l'.Sublist l → I l.length e → K (l'.map g) e) : wpc vs t c f (l.map inj) [] env K := by
  refine wpc_I (fun pre xs e => (∃ l' : List α, l'.Sublist pre ∧ xs = l'.map g) ∧ I pre.length e) l [] [] env ⟨⟨[], .slnil, rfl⟩, h0⟩ (fun mid a post hm acc e ⟨⟨l', h1, h1'⟩, h2⟩ => ?_) fun xs e ⟨⟨l', h1, h1'⟩, h2⟩ => ?_
  · obtain ⟨e1, h3, h4⟩ := st mid.length a (by rw [hm]; simp) (by rw [hm]; simp) e (by simpa using h2)
    refine ⟨e1, h3, wp_mono h4 (fun b e2 ⟨q1, q2⟩ => ⟨fun hb => wp_mono (q1 hb) (fun v e3 ⟨r1, r2⟩ => ?_) fun _ _ q => q, fun hb e' he' => ?_⟩) fun _ _ q => q⟩
    · rw [r1]
      exact fun e' he' => ⟨⟨l' ++ [a], h1.append (List.Sublist.refl _), by rw [h1', List.map_append]; rfl⟩, by simpa using he' ▸ r2⟩
    · exact ⟨⟨l', h1.trans (List.sublist_append_left _ _), h1'⟩, by simpa using he' ▸ q2 hb⟩
  · rw [h1']
    exact k l' e (by simpa using h1) (by simpa using h2)
theorem rows_sorted {m : Nat} {rows : List (List Nat)} (h1 : 1 ≤ m) (h6 : m ≤ 6) (hne : rows ≠ []) (hn : rows.Nodup) (hs : ∀ r ∈ rows, r ∈ allR m) : ∃ l', l'.Perm rows ∧ Rows m l' := by
  have hp : ((allR m).filter fun r => decide (r ∈ rows)).Perm rows := (List.perm_ext_iff_of_nodup ((nodup_allR m).filter _) hn).mpr fun r => by
    simp only [List.mem_filter, decide_eq_true_eq]
    exact ⟨fun h => h.2, fun h => ⟨hs r h, h⟩⟩
  exact ⟨_, hp, h1, h6, fun e => hne (by rw [e] at hp; exact hp.symm.eq_nil), List.filter_sublist⟩
theorem drawn_wp {n m : Nat} {s : List D} {Q : EV → Sl → Prop} (hs : Pen n s) (hn : 2000 ≤ n) (h1 : 1 ≤ m) (h6 : m ≤ 6) (k : ∀ v l s', Pen (n - 1100) s' → Rows m l → frz v = some (.lst (strL l)) → Q v [.own (.lst s'), .val (.int m)]) : wp sem__law_drawn [.own (.lst s), .val (.int m)] Q X := by
  unfold sem__law_drawn bd__law_drawn
  sizeOf_list_dec
  refine all2_wp h6 fun v _ hv => ?_
  obtain rfl := hv h1
  sizeOf_list_dec
  refine draw2_wp hs (by omega) (by omega) (by omega) fun way s hs w1 w2 => ?_
  sizeOf_list_dec
  refine draw2_wp hs (by omega) (by omega) (by omega) fun share s hs _ _ => ?_
  sizeOf_list_dec
  refine draw2_wp hs (by omega) (by omega) (by omega) fun one s hs o1 o2 => ?_
  sizeOf_list_dec
  refine draw2_wp hs (by omega) (by omega) (by omega) fun other s hs t1 t2 => ?_
  sizeOf_list_dec
  have hal := allR_le h6
  have hpos : 0 < (allR m).length := List.length_pos_iff.mpr allR_ne
  have hall : Rows m (allR m) := ⟨h1, h6, allR_ne, List.Sublist.refl _⟩
  have hb : ∀ r ∈ allR m, r.length = m := fun r hr => (mem_allR.mp hr).1
  have hf : ∀ p : List Nat → Bool, (∃ r ∈ allR m, p r = true) → Rows m ((allR m).filter p) := fun p ⟨r, hr, hp⟩ => ⟨h1, h6, fun e => (by have := List.mem_filter.mpr ⟨hr, hp⟩; rw [e] at this; cases this), List.filter_sublist⟩
  have cases6 : m = 1 ∨ m = 2 ∨ m = 3 ∨ m = 4 ∨ m = 5 ∨ m = 6 := by omega
  obtain ⟨one, rfl⟩ : ∃ i : Nat, one = i := ⟨one.toNat, by omega⟩
  obtain ⟨other, rfl⟩ : ∃ i : Nat, other = i := ⟨other.toNat, by omega⟩
  refine cond_eq (fun hw => ?_) (fun hw => ?_)
  · sizeOf_list_dec
    rw [List.length_map]
    refine draw2_wp hs (by omega) (by omega) (by omega) fun r s hs r1 r2 => ?_
    sizeOf_list_dec
    obtain ⟨r, rfl⟩ : ∃ i : Nat, r = i := ⟨r.toNat, by omega⟩
    have hr : (Int.toNat (r : Int)) < (allR m).length := by omega
    sizeOf_list_dec
    have hm : (allR m).getD (Int.toNat (r : Int)) [] ∈ allR m := by
      rw [List.getD_eq_getElem?_getD, List.getElem?_eq_getElem hr]
      exact List.getElem_mem _
    exact k _ [_] _ (hs.mono (by omega)) ⟨h1, h6, by simp, List.singleton_sublist.mpr hm⟩ rfl
  sizeOf_list_dec
  refine cond_eq (fun hw => ?_) (fun hw => ?_)
  · sizeOf_list_dec
    exact k _ _ _ (hs.mono (by omega)) hall rfl
  sizeOf_list_dec
  refine cond_eq (fun hw => ?_) (fun hw => ?_)
  · sizeOf_list_dec
    refine wpc_filter (fun r => (Txt.count (mkS r) (mkS [49]) : Int) % 2 == 0) D.str (fun r hr => ?_) ?_
    · sizeOf_list_dec
      unfold lp__law_drawn_0
      sizeOf_list_dec
      refine ⟨fun _ => ?_, fun _ => rfl⟩
      unfold lp__law_drawn_1
      sizeOf_list_dec
      exact ⟨rfl, rfl⟩
    · sizeOf_list_dec
      refine k _ _ _ (hs.mono (by omega)) (hf _ ⟨_, zeros_mem m, ?_⟩) rfl
      rcases cases6 with rfl | rfl | rfl | rfl | rfl | rfl <;> decide +kernel
  sizeOf_list_dec
  refine cond_eq (fun hw => ?_) (fun hw => ?_)
  · sizeOf_list_dec
    refine wpc_filter (fun r => [r.getD one 0] == [48] || [r.getD other 0] == [49]) D.str (fun r hr => ?_) ?_
    · have hrl := hb r hr
      have fin : ∀ b : Bool, (b = true → wp lp__law_drawn_3 [.own (.lst s), .val (.int m), .val (.lst (strL (allR m))), .val (.int way), .val (.int (1 + share)), .val (.int one), .val (.int other), .emp, .val (.str r)] (fun v e3 => frz v = some (.str r) ∧ wipeE e3 [8] = [.own (.lst s), .val (.int m), .val (.lst (strL (allR m))), .val (.int way), .val (.int (1 + share)), .val (.int one), .val (.int other), .emp, .emp]) NoX) := fun b _ => by
        unfold lp__law_drawn_3
        sizeOf_list_dec
        exact ⟨rfl, rfl⟩
      sizeOf_list_dec
      unfold lp__law_drawn_2
      sizeOf_list_dec
      refine cond_b (fun q => ⟨by simp only [q]; rfl, fin true, fun h => by cases h⟩) (fun q => ?_)
      sizeOf_list_dec
      exact ⟨by simp only [q]; rfl, fin _, fun _ => rfl⟩
    · sizeOf_list_dec
      refine k _ _ _ (hs.mono (by omega)) (hf _ ⟨_, zeros_mem m, ?_⟩) rfl
      have : (List.replicate m 48).getD one 0 = 48 := by rw [getD_lt (by simp; omega)]; simp
      rw [this]
      rfl
  sizeOf_list_dec
  refine cond_d (fun hw => ?_) (fun hw => ?_)
  · sizeOf_list_dec
    refine settling_wp hs (by omega) h1 h6 fun rows s hs hne hnd hin => ?_
    obtain ⟨l', hp, hr⟩ := rows_sorted h1 h6 hne hnd hin
    sizeOf_list_dec
    refine wpo_sortS rfl hp hr.sorted (n := 6) (fun r hr => ⟨by have := hb r (hin r hr); omega, fun c hc => by rcases (mem_allR.mp (hin r hr)).2 c hc with e | e <;> omega⟩) (by have := hp.length_eq; have := hr.len; omega) ?_
    sizeOf_list_dec
    exact k _ _ _ (hs.mono (by omega)) hr rfl
  sizeOf_list_dec
  refine wpc_subN (fun j e => ∃ s, Pen (n - 4 - j) s ∧ e = [.own (.lst s), .val (.int m), .val (.lst (strL (allR m))), .val (.int way), .val (.int (1 + share)), .val (.int one), .val (.int other), .emp, .emp]) D.str ⟨_, hs.mono (by omega), rfl⟩ (fun j r hj hr e ⟨s, hs, he⟩ => ?_) (fun l e hl ⟨s, hs, he⟩ => ?_)
  · subst he
    sizeOf_list_dec
    unfold lp__law_drawn_4
    sizeOf_list_dec
    refine draw2_wp hs (by omega) (by omega) (by omega) fun x s hs _ _ => ?_
    sizeOf_list_dec
    refine ⟨fun _ => ?_, fun _ => ⟨_, hs.mono (by omega), rfl⟩⟩
    unfold lp__law_drawn_5
    sizeOf_list_dec
    exact ⟨rfl, _, hs.mono (by omega), rfl⟩
  · subst he
    sizeOf_list_dec
    have fin : ∀ (l : List (List Nat)), l.Sublist (allR m) → ∃ w k, ShwL (l.map D.str) w k ∧ k ≤ 50 := fun l hl => by
      have hok : StrsOk 6 l := fun r hr => ⟨by have := hb r (hl.subset hr); omega, fun c hc => by rcases (mem_allR.mp (hl.subset hr)).2 c hc with e | e <;> omega⟩
      exact ⟨_, _, hok.shwL, by omega⟩
    have nm : ∀ {l : List (List Nat)}, l.map D.str ≠ [] → l ≠ [] := fun he e => he (by rw [e]; rfl)
    have hlast : Rows m [(allR m).getD ((allR m).length - 1) []] := ⟨h1, h6, by simp, List.singleton_sublist.mpr (by
      rw [List.getD_eq_getElem?_getD, List.getElem?_eq_getElem (by omega)]
      exact List.getElem_mem _)⟩
    refine cond_eq (fun hw => ?_) (fun hw => ?_)
    · sizeOf_list_dec
      refine wpc_filter (fun r => [r.getD one 0] == [49]) D.str (fun r hr => ?_) ?_
      · have hrl := hb r (hl.subset hr)
        sizeOf_list_dec
        unfold lp__law_drawn_6
        sizeOf_list_dec
        refine ⟨fun _ => ?_, fun _ => rfl⟩
        unfold lp__law_drawn_7
        sizeOf_list_dec
        exact ⟨rfl, rfl⟩
      · have hl2 := (List.filter_sublist (p := fun r : List Nat => [r.getD one 0] == [49]) (l := l)).trans hl
        sizeOf_list_dec
        refine wpo_neNil (fin _ hl2) ?_
        sizeOf_list_dec
        refine cond_nil (fun he => ?_) (fun he => ?_)
        · sizeOf_list_dec
          exact k _ _ _ (hs.mono (by omega)) hlast (by simp [strL, frz, frzC])
        · sizeOf_list_dec
          exact k _ _ _ (hs.mono (by omega)) ⟨h1, h6, nm he, hl2⟩ rfl
    · sizeOf_list_dec
      refine wpo_neNil (fin _ hl) ?_
      sizeOf_list_dec
      refine cond_nil (fun he => ?_) (fun he => ?_)
      · sizeOf_list_dec
        exact k _ _ _ (hs.mono (by omega)) hlast (by simp [strL, frz, frzC])
      · sizeOf_list_dec
        exact k _ _ _ (hs.mono (by omega)) ⟨h1, h6, nm he, hl⟩ rfl
end
section
set_option maxRecDepth 100000
set_option maxHeartbeats 400000
/-! D20c: shuffles, parts, clashes by listing. -/
open PySem Dt Pm
variable {X : ExD → Sl → Prop}
theorem mapD_nil {α : Type} {f : α → D} {l : List α} : (l.map f).isEmpty = l.isEmpty := by cases l <;> rfl
theorem shuffled_wp {n m : Nat} {l : List (List Nat)} {s : List D} {sl : Dt.Slot} {Q : EV → Sl → Prop} (hs : Pen n s) (hn : 200 ≤ n) (h : Good m l) (hsl : Rds sl (.lst (strL l))) (k : ∀ l' s' sl', Pen (n - 100) s' → l'.Perm l → Rds sl' (.lst (strL l)) → (∀ d, sl = .val d → sl' = sl) → Q (.o (.lst (strL l'))) [.own (.lst s'), sl']) : wp sem__law_shuffled [.own (.lst s), sl] Q X := by
  unfold sem__law_shuffled bd__law_shuffled
  have hsz := h.sz
  have shl : ∀ left : List (List Nat), (∀ r ∈ left, r ∈ l) → ∃ w k, ShwL (left.map D.str) w k ∧ k ≤ 50 := fun left hl => ⟨_, _, (h.sub hl).shwL, by omega⟩
  have loop : ∀ (sl : Dt.Slot), (∀ l' s', Pen (n - 100) s' → l'.Perm l → Q (.o (.lst (strL l'))) [.own (.lst s'), sl]) → wps (sWhile 5000 (toB (eOp neD (oName 2) (toA (eLst asNil)))) lp__law_shuffled_0) [.own (.lst s), sl, .own (.lst (strL l)), .own (.lst [])] (fun e => wps (sRetV (lt 2) 3) e (fun e => ∀ e', e.take 2 = e' → Q (.v .non) e') ⟨fun v e => ∀ e', e.take 2 = e' → Q v e', fun _ => False, fun _ => False, fun x e => ∀ e', e.take 2 = e' → X x e'⟩) ⟨fun v e => ∀ e', e.take 2 = e' → Q v e', fun _ => False, fun _ => False, fun x e => ∀ e', e.take 2 = e' → X x e'⟩ := fun sl k => by
    unfold sWhile
    refine wps_while (fuel := 5000) (c := toB (eOp neD (oName 2) (toA (eLst asNil)))) (body := lp__law_shuffled_0) (fun j e => ∃ s left found, left.length = j ∧ Pen (n - found.length) s ∧ (left ++ found).Perm l ∧ e = [.own (.lst s), sl, .own (.lst (strL left)), .own (.lst (strL found))]) 5000 l.length _ (by omega) ⟨s, l, [], rfl, hs.mono (Nat.sub_le ..), by simp, rfl⟩ fun j e ⟨s, left, found, hj, hs, hp, he⟩ => ?_
    subst he
    have hpl := hp.length_eq
    rw [List.length_append] at hpl
    have hle : ∀ r ∈ left, r ∈ l := fun r hr => hp.mem_iff.mp (List.mem_append_left _ hr)
    sizeOf_list_dec
    refine wpo_neNil (shl left hle) ?_
    rw [mapD_nil]
    sizeOf_list_dec
    refine cond_nil (fun he => ?_) (fun he => ?_)
    · subst he
      sizeOf_list_dec
      exact k _ _ (hs.mono (by simp at *; omega)) (by simpa using hp)
    · have hpos := List.length_pos_iff.mpr he
      have hll : (strL left).length = left.length := List.length_map ..
      unfold lp__law_shuffled_0
      sizeOf_list_dec
      rw [hll]
      refine draw2_wp hs (by omega) (by omega) (by omega) fun r s hs r1 r2 => ?_
      obtain ⟨r, rfl⟩ : ∃ r' : Nat, r = r' := ⟨r.toNat, by omega⟩
      have hr : r < left.length := by omega
      unfold strL
      sizeOf_list_dec
      have e1 : left.getD r [] = left[r] := by rw [List.getD_eq_getElem?_getD, List.getElem?_eq_getElem hr]; rfl
      refine ⟨left.length - 1, by omega, s, left.eraseIdx r, found ++ [left[r]], by rw [List.length_eraseIdx_of_lt hr], hs.mono (by simp; omega), ?_, by rw [Int.toNat_natCast, erase_map, e1, List.map_append]; rfl⟩
      refine List.Perm.trans ?_ hp
      rw [← List.append_assoc]
      exact List.perm_append_comm.trans ((erase_perm hr).append_right found)
  rcases hsl with rfl | ⟨c, rfl, hc⟩
  · sizeOf_list_dec
    exact loop _ fun l' s' h1 h2 => k _ _ _ h1 h2 (.v _) fun _ _ => rfl
  · cases c with
    | lst xs =>
      cases hc
      sizeOf_list_dec
      exact loop _ fun l' s' h1 h2 => k _ _ _ h1 h2 (.l _) fun _ h => by cases h
    | dic a b => cases hc
    | ins a b => cases hc
theorem all_parts_wp {n : Nat} {Q : EV → Sl → Prop} (h1 : 1 ≤ n) (hn : n ≤ 6) (k : Q (.v (.lst (strL (partsL n)))) [.val (.int n)]) : wp sem__law_all_parts [.val (.int n)] Q X := by
  unfold sem__law_all_parts bd__law_all_parts
  sizeOf_list_dec
  refine wps_forN (fun j e => ∃ sl x y z, (sl = .val (.lst (strL (partsL j))) ∨ (j = 0 ∧ sl = .own (.lst (strL (partsL j))))) ∧ e = [.val (.int n), sl, x, y, z]) ⟨_, _, _, _, .inr ⟨rfl, rfl⟩, rfl⟩ (fun j e hj ⟨sl, x, y, z, hs, he⟩ => ?_) (fun e ⟨sl, x, y, z, hs, he⟩ => ?_)
  · subst he
    have hr : Rds sl (.lst (strL (partsL j))) := hs.elim (fun h => .inl h) fun h => h.2 ▸ .l _
    have hl := len_partsL j
    have h3 : 3 ^ j ≤ 3 ^ 5 := Nat.pow_le_pow_right (by omega) (by omega)
    sizeOf_list_dec
    unfold lp__law_all_parts_1
    sizeOf_list_dec
    refine wps_forI (fun pre e => ∃ z, e = [.val (.int n), .val (.lst (strL (partsL j))), .val (.int j), .own (.lst (strL (grow3 pre))), z]) ⟨_, rfl⟩ (fun pre a post hp e ⟨z, he⟩ => ?_) (fun e ⟨z, he⟩ => ?_)
    · subst he
      have ha := (mem_partsL.mp (show a ∈ partsL j by rw [hp]; simp)).1
      have hl2 : pre.length + 1 ≤ (partsL j).length := by rw [hp]; simp
      have hl3 := len_grow3 pre
      sizeOf_list_dec
      unfold lp__law_all_parts_0
      sizeOf_list_dec
      rw [show strL (grow3 (pre ++ [a])) = strL (grow3 pre) ++ [.str (a ++ [45]), .str (a ++ [48]), .str (a ++ [49])] by simp [grow3, strL]]
      exact ⟨_, rfl⟩
    · subst he
      sizeOf_list_dec
      exact ⟨_, _, _, _, .inl rfl, rfl⟩
  · subst he
    rcases hs with rfl | ⟨hz, rfl⟩
    · sizeOf_list_dec
      exact k
    · omega
theorem one_str (a b : Nat) : ([a] == [b]) = (a == b) := sing_beq a b
theorem ones_shw {α : Type} (l : List α) : ∃ w k, ShwL (l.map fun _ => D.int 1) w k ∧ k ≤ 50 := ⟨_, _, shwL_map (f := fun _ => D.int 1) (w := 64) (k := 0) fun _ _ => shw_int (by omega), by omega⟩
theorem has_zip2 {r p : List Nat} (hl : r.length = p.length) : ((r.zip p).filter fun x => !(x.2 == 45) && !(x.2 == x.1)).isEmpty = has r p := by
  rw [← has_zip hl, filter_emp]
  generalize r.zip p = l
  induction l with
  | nil => rfl
  | cons a l ih =>
    rw [List.any_cons, List.all_cons, Bool.not_or, ih]
    cases a.2 == 45 <;> cases a.2 == a.1 <;> rfl
theorem law_has2_wp {r p : List Nat} {Q : EV → Sl → Prop} (hl : r.length = p.length) (h6 : p.length ≤ 6) (k : Q (.v (.bl (has r p))) [.val (.str r), .val (.str p)]) : wp sem__law_has_v2 [.val (.str r), .val (.str p)] Q X := by
  unfold sem__law_has_v2 bd__law_has_v2
  sizeOf_list_dec
  rw [zip_map]
  refine wpc_filter (fun x : Nat × Nat => !(x.2 == 45) && !(x.2 == x.1)) (fun _ => .int 1) (fun x hx => ?_) ?_
  · have fin : ∀ (b : Bool) (e : Sl), e = [.val (.str r), .val (.str p), .val (.str [x.1]), .val (.str [x.2])] → (b = true → wp lp__law_has_v2_1 e (fun v e3 => frz v = some (.int 1) ∧ wipeE e3 [2, 3] = [.val (.str r), .val (.str p), .emp, .emp]) NoX) ∧ (b = false → wipeE e [2, 3] = [.val (.str r), .val (.str p), .emp, .emp]) := fun b e he => by
      subst he
      refine ⟨fun _ => ?_, fun _ => rfl⟩
      unfold lp__law_has_v2_1
      sizeOf_list_dec
      exact ⟨rfl, rfl⟩
    sizeOf_list_dec
    unfold lp__law_has_v2_0
    sizeOf_list_dec
    rw [one_str]
    refine cond_b (fun q => ?_) (fun q => ?_)
    · rw [q]
      exact ⟨rfl, fin _ _ rfl⟩
    · sizeOf_list_dec
      rw [one_str, q]
      exact ⟨rfl, fin _ _ rfl⟩
  · sizeOf_list_dec
    refine wpo_eqNil (ones_shw _) ?_
    rw [mapD_nil, has_zip2 hl]
    sizeOf_list_dec
    exact k
def Vo (sl : Dt.Slot) (l : List (List Nat)) : Prop := sl = .val (.lst (strL l)) ∨ sl = .own (.lst (strL l))
theorem some_have_wp {n : Nat} {l : List (List Nat)} {p : List Nat} {sl : Dt.Slot} {Q : EV → Sl → Prop} (h : Good n l) (hp : p.length = n) (hs : Vo sl l) (k : Q (.v (.bl (hasAny l p))) [.val (.lst (strL l)), .val (.str p)]) : wp sem__law_some_have [sl, .val (.str p)] Q X := by
  unfold sem__law_some_have bd__law_some_have
  have h6 := h.n6
  rcases hs with rfl | rfl
  all_goals (
    sizeOf_list_dec
    refine wpc_filter (fun r => has r p) (fun _ => .int 1) (fun r hr => ?_) ?_
    · have hrl := (h.row r hr).1
      sizeOf_list_dec
      unfold lp__law_some_have_0
      sizeOf_list_dec
      refine law_has2_wp (by omega) (by omega) ?_
      sizeOf_list_dec
      refine ⟨fun _ => ?_, fun _ => rfl⟩
      unfold lp__law_some_have_1
      sizeOf_list_dec
      exact ⟨rfl, rfl⟩
    · sizeOf_list_dec
      refine wpo_neNil (ones_shw _) ?_
      rw [mapD_nil, filter_emp, Bool.not_not]
      sizeOf_list_dec
      exact k)
theorem law_does_clash_wp {n : Nat} {l : List (List Nat)} {p : List Nat} {sl : Dt.Slot} {Q : EV → Sl → Prop} (h : Good n l) (hp : p.length = n) (hs : Vo sl l) (k : Q (.v (.bl (isClash l p))) [.val (.lst (strL l)), .val (.str p)]) : wp sem__law_does_clash [sl, .val (.str p)] Q X := by
  unfold sem__law_does_clash bd__law_does_clash
  have h6 := h.n6
  rcases hs with rfl | rfl
  all_goals (
    sizeOf_list_dec
    first
    | (refine some_have_wp h hp (.inl rfl) ?_)
    | (refine some_have_wp h hp (.inr rfl) ?_)
    sizeOf_list_dec
    refine cond_b (fun q => ?_) (fun q => ?_)
    · sizeOf_list_dec
      rw [show isClash l p = false by simp [isClash, q]] at k
      exact k
    sizeOf_list_dec
    refine answered_wp (by omega) ?_
    sizeOf_list_dec
    refine wps_forI (fun pre e => (pre.all fun i => hasAny l (wo p i)) = true ∧ ∃ a, e = [.val (.lst (strL l)), .val (.str p), a]) ⟨rfl, _, rfl⟩ (fun pre i post hm e ⟨ha, a, he⟩ => tgt_gN ?_) (fun e ⟨ha, a, he⟩ => ?_)
    · subst he
      have him : i ∈ ans p := by rw [hm]; simp
      have hi := (mem_ans.mp him).1
      sizeOf_list_dec
      unfold lp__law_does_clash_0
      sizeOf_list_dec
      rw [cutD_pre]
      refine wpo_op2 (by simp; omega) ?_
      sizeOf_list_dec
      rw [show (i : Int) + 1 = ((i + 1 : Nat) : Int) by omega, cutD_suf]
      refine wpo_op2 (by simp; omega) ?_
      sizeOf_list_dec
      refine some_have_wp (p := wo p i) h (by rw [wo_len hi]; exact hp) (.inl rfl) ?_
      sizeOf_list_dec
      refine cond_b (fun q2 => ?_) (fun q2 => ?_)
      · sizeOf_list_dec
        exact ⟨by rw [List.all_append, ha]; simp [q2], _, rfl⟩
      · sizeOf_list_dec
        have hc : isClash l p = false := by
          unfold isClash
          rw [show ((ans p).all fun i => hasAny l (wo p i)) = false from List.all_eq_false.mpr ⟨i, him, by rw [q2]; simp⟩, Bool.and_false]
        rw [hc] at k
        exact k
    · subst he
      sizeOf_list_dec
      rw [show isClash l p = true by simp only [isClash, q, ha]; rfl] at k
      exact k)
end
end Pg
end
section
namespace Pg
open PySem Dt Pm
local macro_rules
  | `(tactic| array_get_dec) => `(tactic| first
    | ((with_reducible refine guard_E ?_); (first
      | (with_reducible refine wp_toA ?_)
      | ((with_reducible refine v_oName ?_); (refine ⟨_, rfl, ?_⟩))
      | ((with_reducible refine o_oName ?_); (refine ⟨_, rfl, ?_⟩))
      | (with_reducible refine wp_asCons ?_)
      | (with_reducible refine wp_asNil ?_)
      | (with_reducible refine wp_eC ?_)
      | (with_reducible refine wp_eOp ?_)
      | ((with_reducible refine v_opM ?_); (refine ⟨_, _, rfl, rfl, ?_⟩))
      | (with_reducible refine wp_eCall ?_)
      | ((with_reducible refine v_callM ?_ ?_); (focus (simp only [Dt.sidx]; decide)))
      | ((with_reducible refine v_eName ?_); (refine ⟨_, rfl, ?_⟩))
      | ((with_reducible refine o_eName ?_); (refine ⟨_, _, rfl, rfl, ?_⟩))
      | ((with_reducible refine r_eName ?_); (refine ⟨_, _, rfl, by assumption, ?_⟩))
      | (with_reducible refine wp_toB ?_)
      | (with_reducible refine wp_eTup ?_)
      | (with_reducible refine wp_eLst ?_)
      | (with_reducible refine wp_eB ?_)
      | (with_reducible refine v_bM ?_)
      | (with_reducible refine wp_eBM ?_)
      | ((with_reducible refine v_tyM ?_); (refine ⟨_, rfl, rfl, ?_⟩))
      | (with_reducible refine wp_bind ?_)
      | (with_reducible refine wp_ret ?_)
      | (with_reducible refine wp_eChain ?_)
      | (with_reducible refine wp_eChain3 ?_)
      | (with_reducible refine wp_bAnd ?_)
      | (with_reducible refine wp_bOr ?_)
      | (with_reducible refine wp_bNot ?_)
      | (with_reducible refine wp_eAnd ?_)
      | (with_reducible refine wp_eOr ?_)
      | (with_reducible refine wp_eNot ?_)
      | (with_reducible refine wp_eIf ?_)
      | (with_reducible refine wp_iOf ?_)
      | (with_reducible refine wp_iRange1 ?_)
      | (with_reducible refine wp_iRange2 ?_)
      | (with_reducible refine wp_iEnum1 ?_)
      | (with_reducible refine wp_iZip2 ?_)
      | ((with_reducible refine wp_mutM ?_ ?_); (focus exact rfl))
      | (with_reducible refine wp_atV ?_)
      | ((with_reducible refine wp_grd ?_ ?_); (focus exact rfl))
      | ((with_reducible refine v_setLM ?_); (refine ⟨_, rfl, ?_⟩))
      | (with_reducible refine wp_eSlice ?_)
      | (with_reducible refine wp_eRev ?_)
      | (with_reducible refine wp_eRepl ?_)
      | (with_reducible refine wp_pNo ?_)
      | (with_reducible refine wp_pYes ?_)
      | (with_reducible refine wp_eIsi ?_)
      | (with_reducible refine wp_eMaxD ?_)
      | (with_reducible refine wp_eNeg ?_)
      | (with_reducible refine wp_eDict0 ?_)
      | ((with_reducible refine v_disp1 ?_); (refine ⟨_, rfl, ?_⟩))
      | (with_reducible refine wp_eFld ?_)
      | ((with_reducible refine v_setFM ?_); (refine ⟨_, _, _, rfl, rfl, rfl, ?_⟩))
      | (with_reducible refine wp_eMeth ?_)
      | (with_reducible refine wp_eProp ?_)
      | (with_reducible refine wp_eOpM ?_)
      | (with_reducible refine wp_inO ?_)
      | (with_reducible refine wp_spO ?_)
      | (with_reducible refine wp_spO1 ?_)
      | (with_reducible refine wp_addO ?_)
      | (with_reducible refine wp_eCMeth ?_)
      | (with_reducible refine wp_eMake ?_)
      | (with_reducible refine wp_eMakeS ?_)
      | ((with_reducible refine wp_eMakeSL ?_ ?_); (focus exact rfl))
      | (with_reducible refine wp_eComp ?_)
      | (with_reducible refine wp_eComp2 ?_)
      | ((with_reducible refine v_funD ?_ ?_); (focus exact rfl); (with_reducible apply fin_mk); (focus (first | (conv => lhs; simp only [List.set_cons_zero, List.set_cons_succ, slotOf, vI, vB, back, put1, isOwn, wipeE, List.take_succ_cons, List.take_zero, List.cons_append, List.nil_append, List.replicate_succ, List.replicate_zero, Nat.reduceSub, List.getElem?_cons_zero, List.getElem?_cons_succ, if_true, if_false, Bool.false_eq_true, List.set_nil]) | skip); (first | done | exact rfl)))))
    | ((with_reducible refine guard_O ?_); (first
      | (with_reducible refine wpo_frz_v ?_)
      | (with_reducible refine wpo_frz_I ?_)
      | (with_reducible refine wpo_frz_B ?_)
      | (with_reducible refine wpo_frz_l ?_)
      | (with_reducible refine wpo_frz_d ?_)
      | (with_reducible refine v_vals ?_)
      | (with_reducible refine wpo_it_l ?_)
      | (with_reducible refine wpo_it_t ?_)
      | ((with_reducible refine wpo_it_s ?_ ?_); (focus first | exact trivial | assumption | omega | (simp only [List.length_cons, List.length_nil, List.length_map]; omega) | (exact rfl)))
      | ((with_reducible refine v_objOf ?_); (refine ⟨_, rfl, ?_⟩))
      | ((with_reducible refine v_objIs ?_); (refine ⟨_, rfl, ?_⟩))
      | (with_reducible refine wpo_isi ?_)
      | ((with_reducible refine v_deref ?_); (refine ⟨_, rfl, ?_⟩))
      | ((with_reducible refine wpo_one ?_ ?_); (focus exact rfl))
      | ((with_reducible refine wpo_okAdd ?_ ?_); (focus exact rfl))
      | ((with_reducible refine v_starD ?_); (refine ⟨_, rfl, ?_⟩))
      | (with_reducible refine wpo_ints ?_)
      | (with_reducible refine wpo_ints1 ?_)
      | (with_reducible refine wpo_ints0 ?_)
      | ((with_reducible refine v_ixS ?_ ?_); (focus first | exact trivial | assumption | omega | (simp only [List.length_cons, List.length_nil, List.length_map]; omega) | (exact rfl)))
      | (with_reducible refine v_ix ?_)
      | (with_reducible refine wpo_inSign ?_)
      | ((with_reducible refine wpo_op2 ?_ ?_); (focus first | exact trivial | assumption | omega | (simp only [List.length_cons, List.length_nil, List.length_map]; omega) | (exact rfl)))
      | ((with_reducible refine wpo_op1 ?_ ?_); (focus first | exact trivial | assumption | omega | (simp only [List.length_cons, List.length_nil, List.length_map]; omega) | (exact rfl)))
      | ((with_reducible refine wpo_slS ?_ ?_); (focus first | exact trivial | assumption | omega | (simp only [List.length_cons, List.length_nil, List.length_map]; omega) | (exact rfl)))
      | ((with_reducible refine wpo_revS ?_ ?_); (focus first | exact trivial | assumption | omega | (simp only [List.length_cons, List.length_nil, List.length_map]; omega) | (exact rfl)))
      | ((with_reducible refine wpo_replS ?_ ?_); (focus first | exact trivial | assumption | omega | (simp only [List.length_cons, List.length_nil, List.length_map]; omega) | (exact rfl)))
      | (with_reducible refine wpo_revL ?_)
      | (with_reducible refine wpo_revT ?_)
      | (with_reducible refine wpo_slL ?_)
      | (with_reducible refine wpo_slT ?_)
      | (with_reducible refine v_get ?_)
      | (with_reducible refine wpo_bind ?_)
      | (with_reducible refine wpo_map ?_)))
    | ((with_reducible refine guard_S ?_); (first
      | (with_reducible refine wps_seq ?_)
      | (with_reducible refine wps_set ?_)
      | (with_reducible refine wps_expr ?_)
      | (with_reducible refine wps_ret ?_)
      | (with_reducible refine wps_if ?_)
      | (with_reducible refine wps_ifW ?_)
      | (with_reducible refine wps_for ?_)
      | (with_reducible refine wps_nil ?_)
      | (with_reducible refine wps_setL ?_)
      | (with_reducible refine wps_par ?_)
      | (with_reducible refine wps_par1 ?_)
      | (with_reducible refine wps_parC' ?_)
      | (with_reducible refine wps_parN ?_)
      | ((with_reducible refine v_retV ?_); (refine ⟨_, rfl, ?_⟩))
      | ((with_reducible refine o_retV ?_); (refine ⟨_, rfl, rfl, ?_⟩))
      | ((with_reducible refine p_retV ?_); (refine ⟨_, _, rfl, rfl, rfl, ?_⟩))
      | (with_reducible refine wps_retN ?_)
      | (with_reducible refine wps_raise ?_)
      | (with_reducible refine wps_break ?_)
      | (with_reducible refine wps_cont ?_)
      | (with_reducible refine wps_try ?_)
      | (with_reducible refine wps_tryAs ?_)
      | (with_reducible refine wps_tryM ?_)
      | (with_reducible refine wps_setF ?_)
      | (with_reducible refine wps_setD ?_)
      | (with_reducible refine wps_asg ?_)))
    | ((with_reducible refine fin_g ?_); (with_reducible apply fin_mk); (focus (first | (conv => lhs; simp only [List.set_cons_zero, List.set_cons_succ, slotOf, vI, vB, back, put1, isOwn, wipeE, List.take_succ_cons, List.take_zero, List.cons_append, List.nil_append, List.replicate_succ, List.replicate_zero, Nat.reduceSub, List.getElem?_cons_zero, List.getElem?_cons_succ, if_true, if_false, Bool.false_eq_true, List.set_nil]) | skip); (first | done | exact rfl)))
    | (with_reducible refine rt_mk ?_)
    | (with_reducible refine bk_mk ?_)
    | (with_reducible refine ct_mk ?_)
    | (with_reducible refine ex_mk ?_)
    | (with_reducible refine der_nil ?_)
    | (with_reducible refine der_v ?_)
    | ((with_reducible refine der_s ?_); (refine ⟨_, rfl, ?_⟩))
    | (with_reducible refine val_nil ?_)
    | (with_reducible refine val_v ?_)
    | (with_reducible refine arg_nil ?_)
    | (with_reducible refine arg_v ?_)
    | ((with_reducible refine arg_s ?_); (refine ⟨_, rfl, ?_⟩))
    | ((with_reducible refine v_append ?_); (refine ⟨_, rfl, ?_, ?_⟩); (focus first | exact trivial | assumption | omega | (simp only [List.length_cons, List.length_nil, List.length_map]; omega) | (exact rfl)))
    | ((with_reducible refine v_extend ?_); (refine ⟨_, rfl, ?_, ?_⟩); (focus first | exact trivial | assumption | omega | (simp only [List.length_cons, List.length_nil, List.length_map]; omega) | (exact rfl)))
    | ((with_reducible refine v_pop ?_); (refine ⟨_, rfl, ?_, ?_⟩); (focus first | exact trivial | assumption | omega | (simp only [List.length_cons, List.length_nil, List.length_map]; omega) | (exact rfl)))
    | ((with_reducible refine v_pop0 ?_); (refine ⟨_, rfl, ?_⟩))
    | (with_reducible refine isbl ?_)
    | (with_reducible refine isVd ?_)
    | (with_reducible refine isbl2 ?_)
    | (with_reducible refine isV ?_)
    | (with_reducible refine isI ?_)
    | (with_reducible refine is1v ?_)
    | (with_reducible refine is2v ?_)
    | (with_reducible refine is3 ?_)
    | (with_reducible refine isTI ?_)
    | (with_reducible refine is1i ?_)
    | (with_reducible refine is2i ?_)
    | (with_reducible refine isCons ?_)
    | (with_reducible refine cond_not ?_)
    | (with_reducible refine cond_t ?_)
    | (with_reducible refine cond_f ?_)
    | ((with_reducible refine ixg_mk ?_); (refine ⟨_, rfl, ?_⟩))
    | ((with_reducible refine ixg_neg ?_ ?_); (focus first | exact trivial | assumption | omega | (simp only [List.length_cons, List.length_nil, List.length_map]; omega) | (exact rfl)))
    | ((with_reducible refine ixg_nat ?_ ?_); (focus first | exact trivial | assumption | omega | (simp only [List.length_cons, List.length_nil, List.length_map]; omega) | (exact rfl)))
    | ((with_reducible refine ixg_of ?_ ?_); (focus first | exact trivial | assumption | omega | (simp only [List.length_cons, List.length_nil, List.length_map]; omega) | (exact rfl)))
    | ((with_reducible refine get_mk ?_); (refine ⟨_, rfl, ?_⟩))
    | ((with_reducible refine get_mapE ?_); (refine ⟨_, by assumption, ?_⟩))
    | ((with_reducible refine get_mapI ?_ ?_); (focus first | exact trivial | assumption | omega | (simp only [List.length_cons, List.length_nil, List.length_map]; omega) | (exact rfl)))
    | ((with_reducible refine get_mapS ?_ ?_); (focus first | exact trivial | assumption | omega | (simp only [List.length_cons, List.length_nil, List.length_map]; omega) | (exact rfl)))
    | ((with_reducible refine get_c ?_ ?_); (focus first | exact trivial | assumption | omega | (simp only [List.length_cons, List.length_nil, List.length_map]; omega) | (exact rfl)))
    | ((with_reducible refine get_map ?_ ?_); (focus first | exact trivial | assumption | omega | (simp only [List.length_cons, List.length_nil, List.length_map]; omega) | (exact rfl)))
    | ((with_reducible refine le_and ?_ ?_); (focus first | exact trivial | assumption | omega | (simp only [List.length_cons, List.length_nil, List.length_map]; omega) | (exact rfl)))
    | ((with_reducible refine rg1_and ?_ ?_); (focus first | exact trivial | assumption | omega | (simp only [List.length_cons, List.length_nil, List.length_map]; omega) | (exact rfl)))
    | ((with_reducible refine rg2_and ?_ ?_); (focus first | exact trivial | assumption | omega | (simp only [List.length_cons, List.length_nil, List.length_map]; omega) | (exact rfl)))
    | (with_reducible refine eq_and ?_)
    | (with_reducible refine wpB_two ?_)
    | (with_reducible refine wpB_one ?_)
    | (with_reducible refine wpG_nil ?_)
    | (with_reducible refine wpG_cons ?_)
    | (with_reducible refine wpG_mnil ?_)
    | (with_reducible refine wpG_mcons ?_)
    | (with_reducible refine tgt_gN ?_)
    | (with_reducible refine tgt_gT2 ?_)
    | (with_reducible refine tgt_gT3 ?_))
local macro_rules
  | `(tactic| sizeOf_list_dec) => `(tactic| repeat array_get_dec)

section
set_option maxRecDepth 100000
set_option maxHeartbeats 400000
/-! D20d: clashes, witnesses, refusals. -/
open PySem Dt Pm
variable {X : ExD → Sl → Prop}
theorem Good.perm {n : Nat} {l l' : List (List Nat)} (h : Good n l) (p : l'.Perm l) : Good n l' := ⟨h.n1, h.n6, fun e => h.ne (by rw [e] at p; exact p.symm.eq_nil), by rw [p.length_eq]; exact h.sz, p.nodup_iff.mpr h.nd, fun r hr => h.row r (p.mem_iff.mp hr)⟩
theorem partsL_ne (n : Nat) : partsL n ≠ [] := fun e => by
  have := len_partsL n
  rw [e] at this
  have h3 := Nat.pow_pos (n := n) (show 0 < 3 by omega)
  simp at this
  omega
theorem law_clashes2_wp {n : Nat} {l : List (List Nat)} {sl : Dt.Slot} {Q : EV → Sl → Prop} (h : Good n l) (hs : Vo sl l) (k : Q (.o (.lst (strL (clashes n l)))) [.val (.lst (strL l))]) : wp sem__law_clashes_v2 [sl] Q X := by
  unfold sem__law_clashes_v2 bd__law_clashes_v2
  have h6 := h.n6
  have hpl := len_partsL n
  have h3 : 3 ^ n ≤ 3 ^ 6 := Nat.pow_le_pow_right (by omega) (by omega)
  obtain ⟨r, l', el⟩ := List.exists_cons_of_ne_nil h.ne
  have hr := (h.row r (by rw [el]; simp)).1
  have hl : 0 < (strL l).length := by rw [el]; simp
  have h0 : l[(0 : Int).toNat]? = some r := by rw [el]; rfl
  have hrb : r.length ≤ 1000000 := by omega
  have hfl := List.length_filter_le (isClash l) (partsL n)
  rcases hs with rfl | rfl
  all_goals (
    sizeOf_list_dec
    rw [hr]
    refine all_parts_wp h.n1 h6 ?_
    sizeOf_list_dec
    refine wpc_I (fun pre acc e => acc = strL (pre.filter (isClash l)) ∧ ∃ sl, ((pre = [] ∧ Vo sl l) ∨ sl = .val (.lst (strL l))) ∧ e = [sl, .emp, .emp, .emp]) (partsL n) [] [] _ ⟨rfl, _, .inl ⟨rfl, by first | exact .inl rfl | exact .inr rfl⟩, rfl⟩ (fun mid p post hm acc e ⟨ha, sl, hsl, he⟩ => ⟨_, rfl, ?_⟩) fun xs e ⟨ha, sl, hsl, he⟩ => ?_
    · subst he
      subst ha
      have hpn := (mem_partsL.mp (show p ∈ partsL n by rw [hm]; simp)).1
      have hs2 : Vo sl l := hsl.elim (·.2) .inl
      unfold lp__law_clashes_v2_0
      rcases hs2 with rfl | rfl
      all_goals (
        sizeOf_list_dec
        refine law_does_clash_wp h hpn (by first | exact .inl rfl | exact .inr rfl) ?_
        sizeOf_list_dec
        refine ⟨fun hb => ?_, fun hb => ?_⟩
        · unfold lp__law_clashes_v2_1
          sizeOf_list_dec
          exact ⟨by simp [hb, strL], _, .inr rfl, rfl⟩
        · exact fun e' he' => ⟨by simp [hb], _, .inr rfl, he'.symm⟩)
    · subst he
      rcases hsl with ⟨e0, _⟩ | rfl
      · exact absurd e0 (partsL_ne n)
      subst ha
      sizeOf_list_dec
      refine wpc_map enc (fun p hp => tgt_gN ?_) ?_
      · have hpn := (mem_partsL.mp (List.mem_filter.mp hp).1).1
        sizeOf_list_dec
        unfold lp__law_clashes_v2_2
        sizeOf_list_dec
        refine answered_wp (by omega) ?_
        sizeOf_list_dec
        rw [List.length_map]
        exact ⟨rfl, rfl⟩
      · sizeOf_list_dec
        refine wpo_of (SortP _ (fun p hp => partOk h6 (List.mem_filter.mp hp).1) (by omega)) ?_
        sizeOf_list_dec
        refine wpc_map (inj := enc) D.str (fun p hp => ?_) ?_
        · unfold enc
          sizeOf_list_dec
          unfold lp__law_clashes_v2_3
          sizeOf_list_dec
          exact ⟨rfl, rfl⟩
        · sizeOf_list_dec
          exact k)
def NoClash (n : Nat) (l : List (List Nat)) (x : D) : Prop := ∀ p, x = .str p → p ∈ partsL n → isClash l p = false
end
end Pg
end
section
namespace Pg
open PySem Dt Pm
local macro_rules
  | `(tactic| array_get_dec) => `(tactic| first
    | ((with_reducible refine guard_E ?_); (first
      | (with_reducible refine wp_toA ?_)
      | ((with_reducible refine v_oName ?_); (refine ⟨_, rfl, ?_⟩))
      | ((with_reducible refine o_oName ?_); (refine ⟨_, rfl, ?_⟩))
      | (with_reducible refine wp_asCons ?_)
      | (with_reducible refine wp_asNil ?_)
      | (with_reducible refine wp_eC ?_)
      | (with_reducible refine wp_eOp ?_)
      | ((with_reducible refine v_opM ?_); (refine ⟨_, _, rfl, rfl, ?_⟩))
      | (with_reducible refine wp_eCall ?_)
      | ((with_reducible refine v_callM ?_ ?_); (focus (simp only [Dt.sidx]; decide)))
      | ((with_reducible refine v_eName ?_); (refine ⟨_, rfl, ?_⟩))
      | ((with_reducible refine o_eName ?_); (refine ⟨_, _, rfl, rfl, ?_⟩))
      | ((with_reducible refine r_eName ?_); (refine ⟨_, _, rfl, by assumption, ?_⟩))
      | (with_reducible refine wp_toB ?_)
      | (with_reducible refine wp_eTup ?_)
      | (with_reducible refine wp_eLst ?_)
      | (with_reducible refine wp_eB ?_)
      | (with_reducible refine v_bM ?_)
      | (with_reducible refine wp_eBM ?_)
      | ((with_reducible refine v_tyM ?_); (refine ⟨_, rfl, rfl, ?_⟩))
      | (with_reducible refine wp_bind ?_)
      | (with_reducible refine wp_ret ?_)
      | (with_reducible refine wp_eChain ?_)
      | (with_reducible refine wp_eChain3 ?_)
      | (with_reducible refine wp_bAnd ?_)
      | (with_reducible refine wp_bOr ?_)
      | (with_reducible refine wp_bNot ?_)
      | (with_reducible refine wp_eAnd ?_)
      | (with_reducible refine wp_eOr ?_)
      | (with_reducible refine wp_eNot ?_)
      | (with_reducible refine wp_eIf ?_)
      | (with_reducible refine wp_iOf ?_)
      | (with_reducible refine wp_iRange1 ?_)
      | (with_reducible refine wp_iRange2 ?_)
      | (with_reducible refine wp_iEnum1 ?_)
      | (with_reducible refine wp_iZip2 ?_)
      | ((with_reducible refine wp_mutM ?_ ?_); (focus exact rfl))
      | (with_reducible refine wp_atV ?_)
      | ((with_reducible refine wp_grd ?_ ?_); (focus exact rfl))
      | ((with_reducible refine v_setLM ?_); (refine ⟨_, rfl, ?_⟩))
      | (with_reducible refine wp_eSlice ?_)
      | (with_reducible refine wp_eRev ?_)
      | (with_reducible refine wp_pNo ?_)
      | (with_reducible refine wp_pYes ?_)
      | (with_reducible refine wp_eIsi ?_)
      | (with_reducible refine wp_eMaxD ?_)
      | (with_reducible refine wp_eNeg ?_)
      | (with_reducible refine wp_eDict0 ?_)
      | ((with_reducible refine v_disp1 ?_); (refine ⟨_, rfl, ?_⟩))
      | (with_reducible refine wp_eFld ?_)
      | ((with_reducible refine v_setFM ?_); (refine ⟨_, _, _, rfl, rfl, rfl, ?_⟩))
      | (with_reducible refine wp_eMeth ?_)
      | (with_reducible refine wp_eProp ?_)
      | (with_reducible refine wp_eOpM ?_)
      | (with_reducible refine wp_inO ?_)
      | (with_reducible refine wp_spO ?_)
      | (with_reducible refine wp_spO1 ?_)
      | (with_reducible refine wp_eCMeth ?_)
      | (with_reducible refine wp_eMake ?_)
      | (with_reducible refine wp_eMakeS ?_)
      | ((with_reducible refine wp_eMakeSL ?_ ?_); (focus exact rfl))
      | (with_reducible refine wp_eComp ?_)
      | (with_reducible refine wp_eComp2 ?_)
      | ((with_reducible refine v_funD ?_ ?_); (focus exact rfl); (with_reducible apply fin_mk); (focus (first | (conv => lhs; simp only [List.set_cons_zero, List.set_cons_succ, slotOf, vI, vB, back, put1, isOwn, wipeE, List.take_succ_cons, List.take_zero, List.cons_append, List.nil_append, List.replicate_succ, List.replicate_zero, Nat.reduceSub, List.getElem?_cons_zero, List.getElem?_cons_succ, if_true, if_false, Bool.false_eq_true, List.set_nil]) | skip); (first | done | exact rfl)))))
    | ((with_reducible refine guard_O ?_); (first
      | (with_reducible refine wpo_frz_v ?_)
      | (with_reducible refine wpo_frz_I ?_)
      | (with_reducible refine wpo_frz_B ?_)
      | (with_reducible refine wpo_frz_l ?_)
      | (with_reducible refine wpo_frz_d ?_)
      | (with_reducible refine v_vals ?_)
      | (with_reducible refine wpo_it_l ?_)
      | (with_reducible refine wpo_it_t ?_)
      | ((with_reducible refine wpo_it_s ?_ ?_); (focus first | exact trivial | assumption | omega | (simp only [List.length_cons, List.length_nil, List.length_map]; omega) | (exact rfl)))
      | ((with_reducible refine v_objOf ?_); (refine ⟨_, rfl, ?_⟩))
      | ((with_reducible refine v_objIs ?_); (refine ⟨_, rfl, ?_⟩))
      | (with_reducible refine wpo_isi ?_)
      | ((with_reducible refine v_deref ?_); (refine ⟨_, rfl, ?_⟩))
      | ((with_reducible refine wpo_one ?_ ?_); (focus exact rfl))
      | ((with_reducible refine v_starD ?_); (refine ⟨_, rfl, ?_⟩))
      | (with_reducible refine wpo_ints ?_)
      | (with_reducible refine wpo_ints1 ?_)
      | (with_reducible refine wpo_ints0 ?_)
      | ((with_reducible refine v_ixS ?_ ?_); (focus first | exact trivial | assumption | omega | (simp only [List.length_cons, List.length_nil, List.length_map]; omega) | (exact rfl)))
      | (with_reducible refine v_ix ?_)
      | (with_reducible refine wpo_inSign ?_)
      | ((with_reducible refine wpo_op2 ?_ ?_); (focus first | exact trivial | assumption | omega | (simp only [List.length_cons, List.length_nil, List.length_map]; omega) | (exact rfl)))
      | ((with_reducible refine wpo_op1 ?_ ?_); (focus first | exact trivial | assumption | omega | (simp only [List.length_cons, List.length_nil, List.length_map]; omega) | (exact rfl)))
      | ((with_reducible refine wpo_slS ?_ ?_); (focus first | exact trivial | assumption | omega | (simp only [List.length_cons, List.length_nil, List.length_map]; omega) | (exact rfl)))
      | ((with_reducible refine wpo_revS ?_ ?_); (focus first | exact trivial | assumption | omega | (simp only [List.length_cons, List.length_nil, List.length_map]; omega) | (exact rfl)))
      | (with_reducible refine wpo_revL ?_)
      | (with_reducible refine wpo_revT ?_)
      | (with_reducible refine wpo_slL ?_)
      | (with_reducible refine wpo_slT ?_)
      | (with_reducible refine v_get ?_)
      | (with_reducible refine wpo_bind ?_)
      | (with_reducible refine wpo_map ?_)))
    | ((with_reducible refine guard_S ?_); (first
      | (with_reducible refine wps_seq ?_)
      | (with_reducible refine wps_set ?_)
      | (with_reducible refine wps_expr ?_)
      | (with_reducible refine wps_ret ?_)
      | (with_reducible refine wps_if ?_)
      | (with_reducible refine wps_ifW ?_)
      | (with_reducible refine wps_for ?_)
      | (with_reducible refine wps_nil ?_)
      | (with_reducible refine wps_setL ?_)
      | (with_reducible refine wps_par ?_)
      | (with_reducible refine wps_par1 ?_)
      | (with_reducible refine wps_parC' ?_)
      | (with_reducible refine wps_parN ?_)
      | ((with_reducible refine v_retV ?_); (refine ⟨_, rfl, ?_⟩))
      | ((with_reducible refine o_retV ?_); (refine ⟨_, rfl, rfl, ?_⟩))
      | ((with_reducible refine p_retV ?_); (refine ⟨_, _, rfl, rfl, rfl, ?_⟩))
      | (with_reducible refine wps_retN ?_)
      | (with_reducible refine wps_raise ?_)
      | (with_reducible refine wps_break ?_)
      | (with_reducible refine wps_cont ?_)
      | (with_reducible refine wps_try ?_)
      | (with_reducible refine wps_tryAs ?_)
      | (with_reducible refine wps_setF ?_)
      | (with_reducible refine wps_setD ?_)
      | (with_reducible refine wps_asg ?_)))
    | ((with_reducible refine fin_g ?_); (with_reducible apply fin_mk); (focus (first | (conv => lhs; simp only [List.set_cons_zero, List.set_cons_succ, slotOf, vI, vB, back, put1, isOwn, wipeE, List.take_succ_cons, List.take_zero, List.cons_append, List.nil_append, List.replicate_succ, List.replicate_zero, Nat.reduceSub, List.getElem?_cons_zero, List.getElem?_cons_succ, if_true, if_false, Bool.false_eq_true, List.set_nil]) | skip); (first | done | exact rfl)))
    | (with_reducible refine rt_mk ?_)
    | (with_reducible refine bk_mk ?_)
    | (with_reducible refine ct_mk ?_)
    | (with_reducible refine ex_mk ?_)
    | (with_reducible refine der_nil ?_)
    | (with_reducible refine der_v ?_)
    | ((with_reducible refine der_s ?_); (refine ⟨_, rfl, ?_⟩))
    | (with_reducible refine val_nil ?_)
    | (with_reducible refine val_v ?_)
    | (with_reducible refine arg_nil ?_)
    | (with_reducible refine arg_v ?_)
    | ((with_reducible refine arg_s ?_); (refine ⟨_, rfl, ?_⟩))
    | ((with_reducible refine v_append ?_); (refine ⟨_, rfl, ?_, ?_⟩); (focus first | exact trivial | assumption | omega | (simp only [List.length_cons, List.length_nil, List.length_map]; omega) | (exact rfl)))
    | ((with_reducible refine v_extend ?_); (refine ⟨_, rfl, ?_, ?_⟩); (focus first | exact trivial | assumption | omega | (simp only [List.length_cons, List.length_nil, List.length_map]; omega) | (exact rfl)))
    | ((with_reducible refine v_pop ?_); (refine ⟨_, rfl, ?_, ?_⟩); (focus first | exact trivial | assumption | omega | (simp only [List.length_cons, List.length_nil, List.length_map]; omega) | (exact rfl)))
    | ((with_reducible refine v_pop0 ?_); (refine ⟨_, rfl, ?_⟩))
    | (with_reducible refine isbl ?_)
    | (with_reducible refine isVd ?_)
    | (with_reducible refine isbl2 ?_)
    | (with_reducible refine isV ?_)
    | (with_reducible refine isI ?_)
    | (with_reducible refine is1v ?_)
    | (with_reducible refine is2v ?_)
    | (with_reducible refine is3 ?_)
    | (with_reducible refine isTI ?_)
    | (with_reducible refine is1i ?_)
    | (with_reducible refine is2i ?_)
    | (with_reducible refine isCons ?_)
    | (with_reducible refine cond_not ?_)
    | (with_reducible refine cond_t ?_)
    | (with_reducible refine cond_f ?_)
    | ((with_reducible refine ixg_mk ?_); (refine ⟨_, rfl, ?_⟩))
    | ((with_reducible refine ixg_neg ?_ ?_); (focus first | exact trivial | assumption | omega | (simp only [List.length_cons, List.length_nil, List.length_map]; omega) | (exact rfl)))
    | ((with_reducible refine ixg_nat ?_ ?_); (focus first | exact trivial | assumption | omega | (simp only [List.length_cons, List.length_nil, List.length_map]; omega) | (exact rfl)))
    | ((with_reducible refine ixg_of ?_ ?_); (focus first | exact trivial | assumption | omega | (simp only [List.length_cons, List.length_nil, List.length_map]; omega) | (exact rfl)))
    | ((with_reducible refine get_mk ?_); (refine ⟨_, rfl, ?_⟩))
    | ((with_reducible refine get_mapE ?_); (refine ⟨_, by assumption, ?_⟩))
    | ((with_reducible refine get_mapI ?_ ?_); (focus first | exact trivial | assumption | omega | (simp only [List.length_cons, List.length_nil, List.length_map]; omega) | (exact rfl)))
    | ((with_reducible refine get_mapS ?_ ?_); (focus first | exact trivial | assumption | omega | (simp only [List.length_cons, List.length_nil, List.length_map]; omega) | (exact rfl)))
    | ((with_reducible refine get_c ?_ ?_); (focus first | exact trivial | assumption | omega | (simp only [List.length_cons, List.length_nil, List.length_map]; omega) | (exact rfl)))
    | ((with_reducible refine get_map ?_ ?_); (focus first | exact trivial | assumption | omega | (simp only [List.length_cons, List.length_nil, List.length_map]; omega) | (exact rfl)))
    | ((with_reducible refine le_and ?_ ?_); (focus first | exact trivial | assumption | omega | (simp only [List.length_cons, List.length_nil, List.length_map]; omega) | (exact rfl)))
    | ((with_reducible refine rg1_and ?_ ?_); (focus first | exact trivial | assumption | omega | (simp only [List.length_cons, List.length_nil, List.length_map]; omega) | (exact rfl)))
    | ((with_reducible refine rg2_and ?_ ?_); (focus first | exact trivial | assumption | omega | (simp only [List.length_cons, List.length_nil, List.length_map]; omega) | (exact rfl)))
    | (with_reducible refine eq_and ?_)
    | (with_reducible refine wpB_two ?_)
    | (with_reducible refine wpB_one ?_)
    | (with_reducible refine wpG_nil ?_)
    | (with_reducible refine wpG_cons ?_)
    | (with_reducible refine wpG_mnil ?_)
    | (with_reducible refine wpG_mcons ?_)
    | (with_reducible refine tgt_gN ?_)
    | (with_reducible refine tgt_gT2 ?_)
    | (with_reducible refine tgt_gT3 ?_))
local macro_rules
  | `(tactic| sizeOf_list_dec) => `(tactic| repeat array_get_dec)

section
set_option maxRecDepth 100000
set_option maxHeartbeats 400000
/-! D20e: the law k22. -/
open PySem Dt Pm
variable {X : ExD → Sl → Prop}
/-- a thing that is no clash of the rows -/
structure Oth (n : Nat) (l : List (List Nat)) (x : D) : Prop where
  pln : Pln x
  len : ∀ s, x = .str s → s.length ≤ 1000
  no : NoClash n l x
end
section
set_option maxRecDepth 100000
set_option maxHeartbeats 400000
/-! D20f: list(clashes(board)); the law k20. -/
open PySem Dt Pm
variable {X : ExD → Sl → Prop}
/-- list(g(..)) of a generator def -/
theorem wp_gL {n np : Nat} {pre : S} {it : M (List D)} {args : Sl} {Q : EV → Sl → Prop} (hl : args.length = np) (h : wps pre (args ++ List.replicate (n - np) .emp) (fun e1 => wp it e1 (fun ds e2 => Q (.o (.lst ds)) (e2.take np)) NoX) ⟨fun _ _ => False, fun _ => False, fun _ => False, NoX⟩) : wp (gL (genF n np pre it)) args Q X := by
  unfold wps at h
  unfold wp gL genF
  rw [if_pos hl]
  cases w : pre (args ++ List.replicate (n - np) .emp) with
  | none => rw [w] at h; exact h.elim
  | some r =>
    rw [w] at h
    cases r with
    | nx e1 =>
      dsimp only at h ⊢
      unfold wp at h
      cases w2 : it e1 with
      | none => rw [w2] at h; exact h.elim
      | some r2 =>
        rw [w2] at h
        cases r2 with
        | ok ds e2 => exact h
        | exc x e2 => exact h.elim
    | rt _ _ => exact h.elim
    | bk _ => exact h.elim
    | ct _ => exact h.elim
    | exc _ _ => exact h.elim
theorem clashes_wp {n : Nat} {l : List (List Nat)} {Q : EV → Sl → Prop} (h : Good n l) (k : Q (.o (.lst (strL (clashes n l)))) [.val (bd l)]) : wp (gL sem_clashes) [.val (bd l)] Q X := by
  unfold sem_clashes
  refine wp_gL rfl ?_
  sizeOf_list_dec
  refine need_board_wp ?_
  sizeOf_list_dec
  refine all_clashes_wp h ?_
  sizeOf_list_dec
  exact k
theorem law20_true (C0 : Addr) (ns : List Int) (hns : ns.length ≤ 63) : ∃ e, sem_law_v9 C0 [.val (.scr ns)] = some (.ok (.v (.bl true)) e) := by
  refine true_of_wp (g := sem_law_v9 C0) ?_
  unfold sem_law_v9 bd_law_v9
  sizeOf_list_dec
  rw [rangeD0]
  refine wps_forI (fun _ e => ∃ t : Sl, t.length = 7 ∧ e = .val (.scr ns) :: t) ⟨_, rfl, rfl⟩ (fun pre ix post hp e ⟨t, ht, he⟩ => ?_) (fun e ⟨t, ht, he⟩ => ?_)
  · subst he
    match t, ht with
    | [a1, a2, a3, a4, a5, a6, a7], _ =>
    sizeOf_list_dec
    unfold lp_law_v9_2
    sizeOf_list_dec
    refine cell_wp fun c => ?_
    sizeOf_list_dec
    refine pen_wp fun s hs => ?_
    sizeOf_list_dec
    refine draw2_wp hs (by omega) (by omega) (by omega) fun r s hs r1 r2 => ?_
    sizeOf_list_dec
    refine draw2_wp hs (by omega) (by omega) (by omega) fun r' s hs q1 q2 => ?_
    sizeOf_list_dec
    refine wps_forI (inj := D.int) (l := [1 + r, 5 + r']) (fun pre e => ∃ (s : List D) (t : Sl), Pen (900000 - 5000 * pre.length) s ∧ t.length = 5 ∧ e = .val (.scr ns) :: .val (.int ix) :: .own (.lst s) :: t) ⟨_, _, hs.mono (by simp), rfl, rfl⟩ (fun pre many post hm e ⟨s, t, hs, ht, he⟩ => tgt_gN ?_) (fun e ⟨s, t, hs, ht, he⟩ => ?_)
    · subst he
      match t, ht with
      | [a3, a4, a5, a6, a7], _ =>
      have hpl : pre.length < 2 := by have := congrArg List.length hm; simp at this; omega
      have hmany : 1 ≤ many ∧ many ≤ 6 := by
        have : many ∈ [1 + r, 5 + r'] := by rw [hm]; simp
        simp at this
        omega
      obtain ⟨m, rfl⟩ : ∃ m : Nat, many = m := ⟨many.toNat, by omega⟩
      sizeOf_list_dec
      unfold lp_law_v9_1
      sizeOf_list_dec
      refine drawn_wp hs (by omega) (by omega) (by omega) fun v l s hs hr hv => ?_
      have hd := hr.good
      have h6 := hr.n6
      have hpl := len_partsL m
      have h3 : 3 ^ m ≤ 3 ^ 6 := Nat.pow_le_pow_right (by omega) (by omega)
      have hcl := len_clashes m l
      have hok : StrsOk 6 (clashes m l) := fun p hp => partOk h6 (mem_clashes.mp hp).1
      have hw := hok.shw
      have hrp : ∃ t, reprY [.lst [.lst (strL (clashes m l)), .lst (strL (clashes m l))]] = some (.v (.str t)) := ⟨_, reprY_shw (shw_lst (shwL_cons hw (shwL_cons hw shwL_nil))) (by omega) (by omega)⟩
      have hvo : Vo (slotOf v) l := slot_lst hv
      generalize slotOf v = sl at hvo
      rcases hvo with rfl | rfl
      all_goals (
        sizeOf_list_dec
        refine shuffled_wp hs (by omega) hd (by first | exact .v _ | exact .l _) fun sh s sl hs hsh hsl _ => ?_
        have hdS := hd.perm hsh
        have hshl := hdS.sz
        have hokS := hdS.ok
        have hsum : (sh.map (·.length)).sum ≤ sh.length * 6 := sum_le fun r hr => (hokS r hr).1
        have hj := join_len [32] sh
        have hsp : splitS (joinS [32] sh) [32] = sh := split_join hdS.ne fun r hr hc => by rcases (hdS.row r hr).2 _ hc with e | e <;> omega
        sizeOf_list_dec
        refine read_wp hdS hsh.symm hr.sorted hsp (by simp at hj; omega) ?_
        sizeOf_list_dec
        have hvo2 : Vo sl l := by
          rcases hsl with rfl | ⟨c, rfl, hc⟩
          · exact .inl rfl
          · cases c <;> cases hc
            exact .inr rfl
        rcases hvo2 with rfl | rfl
        all_goals (
          sizeOf_list_dec
          refine law_clashes2_wp hd (by first | exact .inl rfl | exact .inr rfl) ?_
          sizeOf_list_dec
          rw [show rangeD 0 (2 : Int) = (List.range 2).map fun i : Nat => D.int (i : Int) from rangeD_nat 2]
          refine wpc_map (fun _ => .lst (strL (clashes m l))) (fun i hi => tgt_gN ?_) ?_
          · sizeOf_list_dec
            unfold lp_law_v9_0
            sizeOf_list_dec
            refine clashes_wp hd ?_
            sizeOf_list_dec
            exact ⟨rfl, rfl⟩
          · obtain ⟨tt, htt⟩ := hrp
            sizeOf_list_dec
            refine wpo_repr2 htt ?_
            sizeOf_list_dec
            refine wpo_repr2 htt ?_
            sizeOf_list_dec
            refine cond_seq (fun _ => ?_) (fun q => absurd rfl q)
            sizeOf_list_dec
            exact ⟨s, _, hs.mono (by simp; omega), rfl, rfl⟩))
    · subst he
      sizeOf_list_dec
      exact ⟨_ :: _ :: t, by simp [ht], rfl⟩
  · subst he
    sizeOf_list_dec
    rfl
end
end Pg
end
section
namespace Lw
open PySem PySem.Spec L2 Dt Pg
open PyProof.Rows hiding St
theorem law_true (C0 : Addr) (ns : List Int) (hn : ns.length ≤ 63) : ∃ e, sem_law_v9 C0 [.val (.scr ns)] = some (.ok (.v (.bl true)) e) := Pg.law20_true C0 ns hn
theorem all_mk {K : PySem.W.Frag} {h : Heap} {mg : Str → Option Value} {w : World} {fa : Addr} {C_RowsError C_TextError C_BoardError C_Board f__law_pen f__law_cell_at f__law_draw f__law_all f__law_settling f__law_drawn f_is_answers f_are_rows f_Board___init__ f_Board_read f__law_shuffled f__law_all_parts f__law_has f__law_some_have f__law_issues f__law_does_clash f__law_clashes f_need_board f_Board_rows f_held_parts f_parts f_Board_issues f_answered f_without f_all_clashes f_clashes f_law p_Board_issues p_Board_rows p_Board_read : Addr} (X : K.In h) (G : h.Ns mainGlobals mg) (hfa : mg "law" = some (.ref fa))
    (z_all : PySem.W.nsIn K mainGlobals "all" = some none)
    (z_enumerate : PySem.W.nsIn K mainGlobals "enumerate" = some none)
    (z_isinstance : PySem.W.nsIn K mainGlobals "isinstance" = some none)
    (z_len : PySem.W.nsIn K mainGlobals "len" = some none)
    (z_list : PySem.W.nsIn K mainGlobals "list" = some none)
    (z_max : PySem.W.nsIn K mainGlobals "max" = some none)
    (z_min : PySem.W.nsIn K mainGlobals "min" = some none)
    (z_range : PySem.W.nsIn K mainGlobals "range" = some none)
    (z_repr : PySem.W.nsIn K mainGlobals "repr" = some none)
    (z_set : PySem.W.nsIn K mainGlobals "set" = some none)
    (z_sorted : PySem.W.nsIn K mainGlobals "sorted" = some none)
    (z_str : PySem.W.nsIn K mainGlobals "str" = some none)
    (z_tuple : PySem.W.nsIn K mainGlobals "tuple" = some none)
    (z_zip : PySem.W.nsIn K mainGlobals "zip" = some none)
    (g_RowsError : PySem.W.nsIn K mainGlobals "RowsError" = some (some (.ref C_RowsError)))
    (g_TextError : PySem.W.nsIn K mainGlobals "TextError" = some (some (.ref C_TextError)))
    (g_BoardError : PySem.W.nsIn K mainGlobals "BoardError" = some (some (.ref C_BoardError)))
    (g_Board : PySem.W.nsIn K mainGlobals "Board" = some (some (.ref C_Board)))
    (g__law_pen : PySem.W.nsIn K mainGlobals "_law_pen" = some (some (.ref f__law_pen)))
    {oc__law_pen kV__law_pen dc__law_pen pm__law_pen cd__law_pen ct__law_pen : Value} {od__law_pen an__law_pen : Option Addr} {sl__law_pen : Array (Option Value)} (l__law_pen : K.lookup f__law_pen = some ⟨oc__law_pen, od__law_pen, .func (PySem.W.fnOf "_law_pen" "_law_pen" (defArgs st__law_pen) (defBody st__law_pen) (defScope st__law_pen) .none kV__law_pen dc__law_pen pm__law_pen an__law_pen cd__law_pen ct__law_pen), sl__law_pen⟩)
    (c__law_pen : PySem.W.codeIn K cd__law_pen "_law_pen" = true)
    (k__law_pen : PySem.W.keepIn K (.ref f__law_pen) = true)
    (g__law_cell_at : PySem.W.nsIn K mainGlobals "_law_cell_at" = some (some (.ref f__law_cell_at)))
    {oc__law_cell_at kV__law_cell_at dc__law_cell_at pm__law_cell_at cd__law_cell_at ct__law_cell_at : Value} {od__law_cell_at an__law_cell_at : Option Addr} {sl__law_cell_at : Array (Option Value)} (l__law_cell_at : K.lookup f__law_cell_at = some ⟨oc__law_cell_at, od__law_cell_at, .func (PySem.W.fnOf "_law_cell_at" "_law_cell_at" (defArgs st__law_cell_at) (defBody st__law_cell_at) (defScope st__law_cell_at) .none kV__law_cell_at dc__law_cell_at pm__law_cell_at an__law_cell_at cd__law_cell_at ct__law_cell_at), sl__law_cell_at⟩)
    (c__law_cell_at : PySem.W.codeIn K cd__law_cell_at "_law_cell_at" = true)
    (k__law_cell_at : PySem.W.keepIn K (.ref f__law_cell_at) = true)
    (g__law_draw : PySem.W.nsIn K mainGlobals "_law_draw" = some (some (.ref f__law_draw)))
    {oc__law_draw kV__law_draw dc__law_draw pm__law_draw cd__law_draw ct__law_draw : Value} {od__law_draw an__law_draw : Option Addr} {sl__law_draw : Array (Option Value)} (l__law_draw : K.lookup f__law_draw = some ⟨oc__law_draw, od__law_draw, .func (PySem.W.fnOf "_law_draw" "_law_draw" (defArgs st__law_draw) (defBody st__law_draw) (defScope st__law_draw) .none kV__law_draw dc__law_draw pm__law_draw an__law_draw cd__law_draw ct__law_draw), sl__law_draw⟩)
    (c__law_draw : PySem.W.codeIn K cd__law_draw "_law_draw" = true)
    (k__law_draw : PySem.W.keepIn K (.ref f__law_draw) = true)
    (g__law_all : PySem.W.nsIn K mainGlobals "_law_all" = some (some (.ref f__law_all)))
    {oc__law_all kV__law_all dc__law_all pm__law_all cd__law_all ct__law_all : Value} {od__law_all an__law_all : Option Addr} {sl__law_all : Array (Option Value)} (l__law_all : K.lookup f__law_all = some ⟨oc__law_all, od__law_all, .func (PySem.W.fnOf "_law_all" "_law_all" (defArgs st__law_all) (defBody st__law_all) (defScope st__law_all) .none kV__law_all dc__law_all pm__law_all an__law_all cd__law_all ct__law_all), sl__law_all⟩)
    (c__law_all : PySem.W.codeIn K cd__law_all "_law_all" = true)
    (k__law_all : PySem.W.keepIn K (.ref f__law_all) = true)
    (g__law_settling : PySem.W.nsIn K mainGlobals "_law_settling" = some (some (.ref f__law_settling)))
    {oc__law_settling kV__law_settling dc__law_settling pm__law_settling cd__law_settling ct__law_settling : Value} {od__law_settling an__law_settling : Option Addr} {sl__law_settling : Array (Option Value)} (l__law_settling : K.lookup f__law_settling = some ⟨oc__law_settling, od__law_settling, .func (PySem.W.fnOf "_law_settling" "_law_settling" (defArgs st__law_settling) (defBody st__law_settling) (defScope st__law_settling) .none kV__law_settling dc__law_settling pm__law_settling an__law_settling cd__law_settling ct__law_settling), sl__law_settling⟩)
    (c__law_settling : PySem.W.codeIn K cd__law_settling "_law_settling" = true)
    (k__law_settling : PySem.W.keepIn K (.ref f__law_settling) = true)
    (g__law_drawn : PySem.W.nsIn K mainGlobals "_law_drawn" = some (some (.ref f__law_drawn)))
    {oc__law_drawn kV__law_drawn dc__law_drawn pm__law_drawn cd__law_drawn ct__law_drawn : Value} {od__law_drawn an__law_drawn : Option Addr} {sl__law_drawn : Array (Option Value)} (l__law_drawn : K.lookup f__law_drawn = some ⟨oc__law_drawn, od__law_drawn, .func (PySem.W.fnOf "_law_drawn" "_law_drawn" (defArgs st__law_drawn) (defBody st__law_drawn) (defScope st__law_drawn) .none kV__law_drawn dc__law_drawn pm__law_drawn an__law_drawn cd__law_drawn ct__law_drawn), sl__law_drawn⟩)
    (c__law_drawn : PySem.W.codeIn K cd__law_drawn "_law_drawn" = true)
    (k__law_drawn : PySem.W.keepIn K (.ref f__law_drawn) = true)
    (g_is_answers : PySem.W.nsIn K mainGlobals "is_answers" = some (some (.ref f_is_answers)))
    {oc_is_answers kV_is_answers dc_is_answers pm_is_answers cd_is_answers ct_is_answers : Value} {od_is_answers an_is_answers : Option Addr} {sl_is_answers : Array (Option Value)} (l_is_answers : K.lookup f_is_answers = some ⟨oc_is_answers, od_is_answers, .func (PySem.W.fnOf "is_answers" "is_answers" (defArgs st_is_answers) (defBody st_is_answers) (defScope st_is_answers) .none kV_is_answers dc_is_answers pm_is_answers an_is_answers cd_is_answers ct_is_answers), sl_is_answers⟩)
    (c_is_answers : PySem.W.codeIn K cd_is_answers "is_answers" = true)
    (k_is_answers : PySem.W.keepIn K (.ref f_is_answers) = true)
    (g_are_rows : PySem.W.nsIn K mainGlobals "are_rows" = some (some (.ref f_are_rows)))
    {oc_are_rows kV_are_rows dc_are_rows pm_are_rows cd_are_rows ct_are_rows : Value} {od_are_rows an_are_rows : Option Addr} {sl_are_rows : Array (Option Value)} (l_are_rows : K.lookup f_are_rows = some ⟨oc_are_rows, od_are_rows, .func (PySem.W.fnOf "are_rows" "are_rows" (defArgs st_are_rows) (defBody st_are_rows) (defScope st_are_rows) .none kV_are_rows dc_are_rows pm_are_rows an_are_rows cd_are_rows ct_are_rows), sl_are_rows⟩)
    (c_are_rows : PySem.W.codeIn K cd_are_rows "are_rows" = true)
    (k_are_rows : PySem.W.keepIn K (.ref f_are_rows) = true)
    {oc_Board___init__ kV_Board___init__ dc_Board___init__ pm_Board___init__ cd_Board___init__ ct_Board___init__ : Value} {od_Board___init__ an_Board___init__ : Option Addr} {sl_Board___init__ : Array (Option Value)} (l_Board___init__ : K.lookup f_Board___init__ = some ⟨oc_Board___init__, od_Board___init__, .func (PySem.W.fnOf "__init__" "Board.__init__" (defArgs st_Board___init__) (defBody st_Board___init__) (defScope st_Board___init__) .none kV_Board___init__ dc_Board___init__ pm_Board___init__ an_Board___init__ cd_Board___init__ ct_Board___init__), sl_Board___init__⟩)
    (c_Board___init__ : PySem.W.codeIn K cd_Board___init__ "Board.__init__" = true)
    (k_Board___init__ : PySem.W.keepIn K (.ref f_Board___init__) = true)
    {oc_Board_read kV_Board_read dc_Board_read pm_Board_read cd_Board_read ct_Board_read : Value} {od_Board_read an_Board_read : Option Addr} {sl_Board_read : Array (Option Value)} (l_Board_read : K.lookup f_Board_read = some ⟨oc_Board_read, od_Board_read, .func (PySem.W.fnOf "read" "Board.read" (defArgs st_Board_read) (defBody st_Board_read) (defScope st_Board_read) .none kV_Board_read dc_Board_read pm_Board_read an_Board_read cd_Board_read ct_Board_read), sl_Board_read⟩)
    (c_Board_read : PySem.W.codeIn K cd_Board_read "Board.read" = true)
    (k_Board_read : PySem.W.keepIn K (.ref f_Board_read) = true)
    (g__law_shuffled : PySem.W.nsIn K mainGlobals "_law_shuffled" = some (some (.ref f__law_shuffled)))
    {oc__law_shuffled kV__law_shuffled dc__law_shuffled pm__law_shuffled cd__law_shuffled ct__law_shuffled : Value} {od__law_shuffled an__law_shuffled : Option Addr} {sl__law_shuffled : Array (Option Value)} (l__law_shuffled : K.lookup f__law_shuffled = some ⟨oc__law_shuffled, od__law_shuffled, .func (PySem.W.fnOf "_law_shuffled" "_law_shuffled" (defArgs st__law_shuffled) (defBody st__law_shuffled) (defScope st__law_shuffled) .none kV__law_shuffled dc__law_shuffled pm__law_shuffled an__law_shuffled cd__law_shuffled ct__law_shuffled), sl__law_shuffled⟩)
    (c__law_shuffled : PySem.W.codeIn K cd__law_shuffled "_law_shuffled" = true)
    (k__law_shuffled : PySem.W.keepIn K (.ref f__law_shuffled) = true)
    (g__law_all_parts : PySem.W.nsIn K mainGlobals "_law_all_parts" = some (some (.ref f__law_all_parts)))
    {oc__law_all_parts kV__law_all_parts dc__law_all_parts pm__law_all_parts cd__law_all_parts ct__law_all_parts : Value} {od__law_all_parts an__law_all_parts : Option Addr} {sl__law_all_parts : Array (Option Value)} (l__law_all_parts : K.lookup f__law_all_parts = some ⟨oc__law_all_parts, od__law_all_parts, .func (PySem.W.fnOf "_law_all_parts" "_law_all_parts" (defArgs st__law_all_parts) (defBody st__law_all_parts) (defScope st__law_all_parts) .none kV__law_all_parts dc__law_all_parts pm__law_all_parts an__law_all_parts cd__law_all_parts ct__law_all_parts), sl__law_all_parts⟩)
    (c__law_all_parts : PySem.W.codeIn K cd__law_all_parts "_law_all_parts" = true)
    (k__law_all_parts : PySem.W.keepIn K (.ref f__law_all_parts) = true)
    (g__law_has : PySem.W.nsIn K mainGlobals "_law_has" = some (some (.ref f__law_has)))
    {oc__law_has kV__law_has dc__law_has pm__law_has cd__law_has ct__law_has : Value} {od__law_has an__law_has : Option Addr} {sl__law_has : Array (Option Value)} (l__law_has : K.lookup f__law_has = some ⟨oc__law_has, od__law_has, .func (PySem.W.fnOf "_law_has" "_law_has" (defArgs st__law_has) (defBody st__law_has) (defScope st__law_has) .none kV__law_has dc__law_has pm__law_has an__law_has cd__law_has ct__law_has), sl__law_has⟩)
    (c__law_has : PySem.W.codeIn K cd__law_has "_law_has" = true)
    (k__law_has : PySem.W.keepIn K (.ref f__law_has) = true)
    (g__law_some_have : PySem.W.nsIn K mainGlobals "_law_some_have" = some (some (.ref f__law_some_have)))
    {oc__law_some_have kV__law_some_have dc__law_some_have pm__law_some_have cd__law_some_have ct__law_some_have : Value} {od__law_some_have an__law_some_have : Option Addr} {sl__law_some_have : Array (Option Value)} (l__law_some_have : K.lookup f__law_some_have = some ⟨oc__law_some_have, od__law_some_have, .func (PySem.W.fnOf "_law_some_have" "_law_some_have" (defArgs st__law_some_have) (defBody st__law_some_have) (defScope st__law_some_have) .none kV__law_some_have dc__law_some_have pm__law_some_have an__law_some_have cd__law_some_have ct__law_some_have), sl__law_some_have⟩)
    (c__law_some_have : PySem.W.codeIn K cd__law_some_have "_law_some_have" = true)
    (k__law_some_have : PySem.W.keepIn K (.ref f__law_some_have) = true)
    (g__law_issues : PySem.W.nsIn K mainGlobals "_law_issues" = some (some (.ref f__law_issues)))
    {oc__law_issues kV__law_issues dc__law_issues pm__law_issues cd__law_issues ct__law_issues : Value} {od__law_issues an__law_issues : Option Addr} {sl__law_issues : Array (Option Value)} (l__law_issues : K.lookup f__law_issues = some ⟨oc__law_issues, od__law_issues, .func (PySem.W.fnOf "_law_issues" "_law_issues" (defArgs st__law_issues) (defBody st__law_issues) (defScope st__law_issues) .none kV__law_issues dc__law_issues pm__law_issues an__law_issues cd__law_issues ct__law_issues), sl__law_issues⟩)
    (c__law_issues : PySem.W.codeIn K cd__law_issues "_law_issues" = true)
    (k__law_issues : PySem.W.keepIn K (.ref f__law_issues) = true)
    (g__law_does_clash : PySem.W.nsIn K mainGlobals "_law_does_clash" = some (some (.ref f__law_does_clash)))
    {oc__law_does_clash kV__law_does_clash dc__law_does_clash pm__law_does_clash cd__law_does_clash ct__law_does_clash : Value} {od__law_does_clash an__law_does_clash : Option Addr} {sl__law_does_clash : Array (Option Value)} (l__law_does_clash : K.lookup f__law_does_clash = some ⟨oc__law_does_clash, od__law_does_clash, .func (PySem.W.fnOf "_law_does_clash" "_law_does_clash" (defArgs st__law_does_clash) (defBody st__law_does_clash) (defScope st__law_does_clash) .none kV__law_does_clash dc__law_does_clash pm__law_does_clash an__law_does_clash cd__law_does_clash ct__law_does_clash), sl__law_does_clash⟩)
    (c__law_does_clash : PySem.W.codeIn K cd__law_does_clash "_law_does_clash" = true)
    (k__law_does_clash : PySem.W.keepIn K (.ref f__law_does_clash) = true)
    (g__law_clashes : PySem.W.nsIn K mainGlobals "_law_clashes" = some (some (.ref f__law_clashes)))
    {oc__law_clashes kV__law_clashes dc__law_clashes pm__law_clashes cd__law_clashes ct__law_clashes : Value} {od__law_clashes an__law_clashes : Option Addr} {sl__law_clashes : Array (Option Value)} (l__law_clashes : K.lookup f__law_clashes = some ⟨oc__law_clashes, od__law_clashes, .func (PySem.W.fnOf "_law_clashes" "_law_clashes" (defArgs st__law_clashes) (defBody st__law_clashes) (defScope st__law_clashes) .none kV__law_clashes dc__law_clashes pm__law_clashes an__law_clashes cd__law_clashes ct__law_clashes), sl__law_clashes⟩)
    (c__law_clashes : PySem.W.codeIn K cd__law_clashes "_law_clashes" = true)
    (k__law_clashes : PySem.W.keepIn K (.ref f__law_clashes) = true)
    (g_need_board : PySem.W.nsIn K mainGlobals "need_board" = some (some (.ref f_need_board)))
    {oc_need_board kV_need_board dc_need_board pm_need_board cd_need_board ct_need_board : Value} {od_need_board an_need_board : Option Addr} {sl_need_board : Array (Option Value)} (l_need_board : K.lookup f_need_board = some ⟨oc_need_board, od_need_board, .func (PySem.W.fnOf "need_board" "need_board" (defArgs st_need_board) (defBody st_need_board) (defScope st_need_board) .none kV_need_board dc_need_board pm_need_board an_need_board cd_need_board ct_need_board), sl_need_board⟩)
    (c_need_board : PySem.W.codeIn K cd_need_board "need_board" = true)
    (k_need_board : PySem.W.keepIn K (.ref f_need_board) = true)
    {oc_Board_rows kV_Board_rows dc_Board_rows pm_Board_rows cd_Board_rows ct_Board_rows : Value} {od_Board_rows an_Board_rows : Option Addr} {sl_Board_rows : Array (Option Value)} (l_Board_rows : K.lookup f_Board_rows = some ⟨oc_Board_rows, od_Board_rows, .func (PySem.W.fnOf "rows" "Board.rows" (defArgs st_Board_rows) (defBody st_Board_rows) (defScope st_Board_rows) .none kV_Board_rows dc_Board_rows pm_Board_rows an_Board_rows cd_Board_rows ct_Board_rows), sl_Board_rows⟩)
    (c_Board_rows : PySem.W.codeIn K cd_Board_rows "Board.rows" = true)
    (k_Board_rows : PySem.W.keepIn K (.ref f_Board_rows) = true)
    (g_held_parts : PySem.W.nsIn K mainGlobals "held_parts" = some (some (.ref f_held_parts)))
    {oc_held_parts kV_held_parts dc_held_parts pm_held_parts cd_held_parts ct_held_parts : Value} {od_held_parts an_held_parts : Option Addr} {sl_held_parts : Array (Option Value)} (l_held_parts : K.lookup f_held_parts = some ⟨oc_held_parts, od_held_parts, .func (PySem.W.fnOf "held_parts" "held_parts" (defArgs st_held_parts) (defBody st_held_parts) (defScope st_held_parts) .none kV_held_parts dc_held_parts pm_held_parts an_held_parts cd_held_parts ct_held_parts), sl_held_parts⟩)
    (c_held_parts : PySem.W.codeIn K cd_held_parts "held_parts" = true)
    (k_held_parts : PySem.W.keepIn K (.ref f_held_parts) = true)
    (g_parts : PySem.W.nsIn K mainGlobals "parts" = some (some (.ref f_parts)))
    {oc_parts kV_parts dc_parts pm_parts cd_parts ct_parts : Value} {od_parts an_parts : Option Addr} {sl_parts : Array (Option Value)} (l_parts : K.lookup f_parts = some ⟨oc_parts, od_parts, .func (PySem.W.fnOf "parts" "parts" (defArgs st_parts) (defBody st_parts) (defScope st_parts) .none kV_parts dc_parts pm_parts an_parts cd_parts ct_parts), sl_parts⟩)
    (c_parts : PySem.W.codeIn K cd_parts "parts" = true)
    (k_parts : PySem.W.keepIn K (.ref f_parts) = true)
    {oc_Board_issues kV_Board_issues dc_Board_issues pm_Board_issues cd_Board_issues ct_Board_issues : Value} {od_Board_issues an_Board_issues : Option Addr} {sl_Board_issues : Array (Option Value)} (l_Board_issues : K.lookup f_Board_issues = some ⟨oc_Board_issues, od_Board_issues, .func (PySem.W.fnOf "issues" "Board.issues" (defArgs st_Board_issues) (defBody st_Board_issues) (defScope st_Board_issues) .none kV_Board_issues dc_Board_issues pm_Board_issues an_Board_issues cd_Board_issues ct_Board_issues), sl_Board_issues⟩)
    (c_Board_issues : PySem.W.codeIn K cd_Board_issues "Board.issues" = true)
    (k_Board_issues : PySem.W.keepIn K (.ref f_Board_issues) = true)
    (g_answered : PySem.W.nsIn K mainGlobals "answered" = some (some (.ref f_answered)))
    {oc_answered kV_answered dc_answered pm_answered cd_answered ct_answered : Value} {od_answered an_answered : Option Addr} {sl_answered : Array (Option Value)} (l_answered : K.lookup f_answered = some ⟨oc_answered, od_answered, .func (PySem.W.fnOf "answered" "answered" (defArgs st_answered) (defBody st_answered) (defScope st_answered) .none kV_answered dc_answered pm_answered an_answered cd_answered ct_answered), sl_answered⟩)
    (c_answered : PySem.W.codeIn K cd_answered "answered" = true)
    (k_answered : PySem.W.keepIn K (.ref f_answered) = true)
    (g_without : PySem.W.nsIn K mainGlobals "without" = some (some (.ref f_without)))
    {oc_without kV_without dc_without pm_without cd_without ct_without : Value} {od_without an_without : Option Addr} {sl_without : Array (Option Value)} (l_without : K.lookup f_without = some ⟨oc_without, od_without, .func (PySem.W.fnOf "without" "without" (defArgs st_without) (defBody st_without) (defScope st_without) .none kV_without dc_without pm_without an_without cd_without ct_without), sl_without⟩)
    (c_without : PySem.W.codeIn K cd_without "without" = true)
    (k_without : PySem.W.keepIn K (.ref f_without) = true)
    (g_all_clashes : PySem.W.nsIn K mainGlobals "all_clashes" = some (some (.ref f_all_clashes)))
    {oc_all_clashes kV_all_clashes dc_all_clashes pm_all_clashes cd_all_clashes ct_all_clashes : Value} {od_all_clashes an_all_clashes : Option Addr} {sl_all_clashes : Array (Option Value)} (l_all_clashes : K.lookup f_all_clashes = some ⟨oc_all_clashes, od_all_clashes, .func (PySem.W.fnOf "all_clashes" "all_clashes" (defArgs st_all_clashes) (defBody st_all_clashes) (defScope st_all_clashes) .none kV_all_clashes dc_all_clashes pm_all_clashes an_all_clashes cd_all_clashes ct_all_clashes), sl_all_clashes⟩)
    (c_all_clashes : PySem.W.codeIn K cd_all_clashes "all_clashes" = true)
    (k_all_clashes : PySem.W.keepIn K (.ref f_all_clashes) = true)
    (g_clashes : PySem.W.nsIn K mainGlobals "clashes" = some (some (.ref f_clashes)))
    {oc_clashes kV_clashes dc_clashes pm_clashes cd_clashes ct_clashes : Value} {od_clashes an_clashes : Option Addr} {sl_clashes : Array (Option Value)} (l_clashes : K.lookup f_clashes = some ⟨oc_clashes, od_clashes, .func (PySem.W.fnOf "clashes" "clashes" (defArgs st_clashes) (defBody st_clashes) (defScope st_clashes) .none kV_clashes dc_clashes pm_clashes an_clashes cd_clashes ct_clashes), sl_clashes⟩)
    (c_clashes : PySem.W.codeIn K cd_clashes "clashes" = true)
    (k_clashes : PySem.W.keepIn K (.ref f_clashes) = true)
    (g_law : PySem.W.nsIn K mainGlobals "law" = some (some (.ref f_law)))
    {oc_law kV_law dc_law pm_law cd_law ct_law : Value} {od_law an_law : Option Addr} {sl_law : Array (Option Value)} (l_law : K.lookup f_law = some ⟨oc_law, od_law, .func (PySem.W.fnOf "law" "law" (defArgs st_law) (defBody st_law) (defScope st_law) .none kV_law dc_law pm_law an_law cd_law ct_law), sl_law⟩)
    (c_law : PySem.W.codeIn K cd_law "law" = true)
    (k_law : PySem.W.keepIn K (.ref f_law) = true)
    (pg_Board : PySem.W.plainGet K C_Board Str.empty = true)
    (hd_Board : PySem.W.hasDictIn K C_Board = true)
    (po_Board : PySem.W.plainOver K C_Board = true)
    (sa_Board : PySem.W.findIn K (.ref C_Board) "__setattr__" = some (some (.builtin "object.__setattr__")))
    (ns_Board : PySem.W.noSeq K C_Board = true)
    (ca_Board_read : PySem.W.findCls K (.ref C_Board) (.type "type") "read" = some (.get (.builtin "classmethod.__get__") (.ref p_Board_read) .none (.ref C_Board)))
    {rs_Board_read : List Value} (cb_Board_read : PySem.W.recIn K p_Board_read "classmethod" = some (.ref f_Board_read :: rs_Board_read))
    (cf_Board_read : PySem.W.fnIn K f_Board_read = true)
    (cra_Board : PySem.W.readsIn K C_Board (.type "type") = true)
    (crb_Board : PySem.W.specialIn K (.ref C_Board) "__getattribute__" = some (some (.builtin "type.__getattribute__")))
    {tk_MOST : Tok} (cv_MOST : PySem.W.findCls K (.ref C_Board) (.type "type") "MOST" = some (.val (.int 6 tk_MOST)))
    (n_Board_known : PySem.W.findIn K (.ref C_Board) "known" = some none)
    (ki_Board_0 : PySem.W.kitOne K (.type "NoneType") (.ref C_Board) = some false)
    (ki_Board_1 : PySem.W.kitOne K (.type "bool") (.ref C_Board) = some false)
    (ki_Board_2 : PySem.W.kitOne K (.type "int") (.ref C_Board) = some false)
    (ki_Board_3 : PySem.W.kitOne K (.type "str") (.ref C_Board) = some false)
    (ki_Board_4 : PySem.W.kitOne K (.type "tuple") (.ref C_Board) = some false)
    (ki_Board_5 : PySem.W.kitOne K (.type "list") (.ref C_Board) = some false)
    (ki_Board_6 : PySem.W.kitOne K (.type "dict") (.ref C_Board) = some false)
    (kj_Board : PySem.W.kitOne K (.ref C_Board) (.ref C_Board) = some true)
    (ic_Board : PySem.W.findIn K (.ref C_Board) "__class__" = some (some (.builtin "object.__class__")))
    (gs_get : PySem.W.specialIn K (.builtin "object.__class__") "__get__" = some (some (.builtin "getset_descriptor.__get__")))
    (gs_tk : PySem.W.takesIn K (.builtin "object.__class__") = some true)
    (mo_Board : PySem.W.mroIn K C_Board (.type "object") = some true)
    (mk_Board : PySem.W.makesIn K C_Board = true)
    (mi_Board : PySem.W.findIn K (.ref C_Board) "__init__" = some (some (.ref f_Board___init__)))
    (mf_Board : PySem.W.isFn K (.ref f_Board___init__) = true)
    (mk2_Board : PySem.W.keepIn K (.ref C_Board) = true)
    (pa_Board_issues : PySem.W.findIn K (.ref C_Board) "issues" = some (some (.ref p_Board_issues)))
    (pb_Board_issues : PySem.W.specialIn K (.ref p_Board_issues) "__get__" = some (some (.builtin "property.__get__")))
    (pc_Board_issues : PySem.W.takesIn K (.ref p_Board_issues) = some true)
    {rs_Board_issues : List Value} (pd_Board_issues : PySem.W.recIn K p_Board_issues "property" = some (.ref f_Board_issues :: rs_Board_issues))
    (pa_Board_rows : PySem.W.findIn K (.ref C_Board) "rows" = some (some (.ref p_Board_rows)))
    (pb_Board_rows : PySem.W.specialIn K (.ref p_Board_rows) "__get__" = some (some (.builtin "property.__get__")))
    (pc_Board_rows : PySem.W.takesIn K (.ref p_Board_rows) = some true)
    {rs_Board_rows : List Value} (pd_Board_rows : PySem.W.recIn K p_Board_rows "property" = some (.ref f_Board_rows :: rs_Board_rows))
    (x_RowsError : PySem.W.excIn K C_RowsError [.type "ValueError", .type "Exception", .type "BaseException", .type "object"] "ValueError.__new__" = true)
    (k_RowsError : PySem.W.keepIn K (.ref C_RowsError) = true)
    (b_RowsError : PySem.W.subIn K (.ref C_RowsError) (.type "BaseException") = some true)
    (t_RowsError : PySem.W.typeIn K (.ref C_RowsError) = some (.type "type"))
    (x_TextError : PySem.W.excIn K C_TextError [.type "ValueError", .type "Exception", .type "BaseException", .type "object"] "ValueError.__new__" = true)
    (k_TextError : PySem.W.keepIn K (.ref C_TextError) = true)
    (b_TextError : PySem.W.subIn K (.ref C_TextError) (.type "BaseException") = some true)
    (t_TextError : PySem.W.typeIn K (.ref C_TextError) = some (.type "type"))
    (x_BoardError : PySem.W.excIn K C_BoardError [.type "ValueError", .type "Exception", .type "BaseException", .type "object"] "ValueError.__new__" = true)
    (k_BoardError : PySem.W.keepIn K (.ref C_BoardError) = true)
    (b_BoardError : PySem.W.subIn K (.ref C_BoardError) (.type "BaseException") = some true)
    (t_BoardError : PySem.W.typeIn K (.ref C_BoardError) = some (.type "type"))
    : ∃ (T : Tab) (g : M EV), T.tb = [] ∧ (∀ ns : List Int, ns.length ≤ 63 → ∃ e, g [.val (.scr ns)] = some (.ok (.v (.bl true)) e)) ∧ ∀ base : Heap, K.In base → base.Ns mainGlobals mg → FnG False PySem.Challenge.pw_quotaboard_k20_clashes_by_listing w K mg base 9 fa (spD K T g) := by
  have H : Hd K mg ⟨C_RowsError, C_TextError, C_BoardError, C_Board, f__law_pen, f__law_cell_at, f__law_draw, f__law_all, f__law_settling, f__law_drawn, f_is_answers, f_are_rows, f_Board___init__, f_Board_read, f__law_shuffled, f__law_all_parts, f__law_has, f__law_some_have, f__law_issues, f__law_does_clash, f__law_clashes, f_need_board, f_Board_rows, f_held_parts, f_parts, f_Board_issues, f_answered, f_without, f_all_clashes, f_clashes, f_law, p_Board_issues, p_Board_rows, p_Board_read⟩ := hd_of X G z_all z_enumerate z_isinstance z_len z_list z_max z_min z_range z_repr z_set z_sorted z_str z_tuple z_zip g_RowsError g_TextError g_BoardError g_Board g__law_pen l__law_pen c__law_pen k__law_pen g__law_cell_at l__law_cell_at c__law_cell_at k__law_cell_at g__law_draw l__law_draw c__law_draw k__law_draw g__law_all l__law_all c__law_all k__law_all g__law_settling l__law_settling c__law_settling k__law_settling g__law_drawn l__law_drawn c__law_drawn k__law_drawn g_is_answers l_is_answers c_is_answers k_is_answers g_are_rows l_are_rows c_are_rows k_are_rows l_Board___init__ c_Board___init__ k_Board___init__ l_Board_read c_Board_read k_Board_read g__law_shuffled l__law_shuffled c__law_shuffled k__law_shuffled g__law_all_parts l__law_all_parts c__law_all_parts k__law_all_parts g__law_has l__law_has c__law_has k__law_has g__law_some_have l__law_some_have c__law_some_have k__law_some_have g__law_issues l__law_issues c__law_issues k__law_issues g__law_does_clash l__law_does_clash c__law_does_clash k__law_does_clash g__law_clashes l__law_clashes c__law_clashes k__law_clashes g_need_board l_need_board c_need_board k_need_board l_Board_rows c_Board_rows k_Board_rows g_held_parts l_held_parts c_held_parts k_held_parts g_parts l_parts c_parts k_parts l_Board_issues c_Board_issues k_Board_issues g_answered l_answered c_answered k_answered g_without l_without c_without k_without g_all_clashes l_all_clashes c_all_clashes k_all_clashes g_clashes l_clashes c_clashes k_clashes g_law l_law c_law k_law pg_Board hd_Board po_Board sa_Board ns_Board ca_Board_read cb_Board_read cf_Board_read cra_Board crb_Board cv_MOST n_Board_known ki_Board_0 ki_Board_1 ki_Board_2 ki_Board_3 ki_Board_4 ki_Board_5 ki_Board_6 kj_Board ic_Board gs_get gs_tk mo_Board mk_Board mi_Board mf_Board mk2_Board pa_Board_issues pb_Board_issues pc_Board_issues pd_Board_issues pa_Board_rows pb_Board_rows pc_Board_rows pd_Board_rows x_RowsError k_RowsError b_RowsError t_RowsError x_TextError k_TextError b_TextError t_TextError x_BoardError k_BoardError b_BoardError t_BoardError
  have e := hfa.symm.trans H.g_law
  cases e
  exact ⟨tab _, sem_law_v9 C_Board, rfl, fun ns hn => law_true C_Board ns hn, fun base _ _ => ok_law H⟩
end Lw
open PySem PySem.W PyProof.Rows
set_option maxRecDepth 100000 in
set_option maxHeartbeats 0 in
theorem PySem.Challenge.cw_quotaboard_k20_clashes_by_listing_holds : PySem.Challenge.rw_quotaboard_k20_clashes_by_listing.Holds := by
  w_on; o_law; k_head; (case hw => w_witness2)
  k_fill
  refine Dt.walkG (NG := False) (l := PySem.Challenge.rw_quotaboard_k20_clashes_by_listing) (n := 63) (k := 9) rfl (by decide) rfl ⟨rfl, by decide, by decide⟩ (fun w h Y => PySem.W.kIn_of Y) ?F
  case F =>
    intro w mg fa h KX G hmg
    refine' Lw.all_mk (w := w) KX G hmg ?z_all ?z_enumerate ?z_isinstance ?z_len ?z_list ?z_max ?z_min ?z_range ?z_repr ?z_set ?z_sorted ?z_str ?z_tuple ?z_zip ?g_RowsError ?g_TextError ?g_BoardError ?g_Board ?g__law_pen ?l__law_pen ?c__law_pen ?k__law_pen ?g__law_cell_at ?l__law_cell_at ?c__law_cell_at ?k__law_cell_at ?g__law_draw ?l__law_draw ?c__law_draw ?k__law_draw ?g__law_all ?l__law_all ?c__law_all ?k__law_all ?g__law_settling ?l__law_settling ?c__law_settling ?k__law_settling ?g__law_drawn ?l__law_drawn ?c__law_drawn ?k__law_drawn ?g_is_answers ?l_is_answers ?c_is_answers ?k_is_answers ?g_are_rows ?l_are_rows ?c_are_rows ?k_are_rows ?l_Board___init__ ?c_Board___init__ ?k_Board___init__ ?l_Board_read ?c_Board_read ?k_Board_read ?g__law_shuffled ?l__law_shuffled ?c__law_shuffled ?k__law_shuffled ?g__law_all_parts ?l__law_all_parts ?c__law_all_parts ?k__law_all_parts ?g__law_has ?l__law_has ?c__law_has ?k__law_has ?g__law_some_have ?l__law_some_have ?c__law_some_have ?k__law_some_have ?g__law_issues ?l__law_issues ?c__law_issues ?k__law_issues ?g__law_does_clash ?l__law_does_clash ?c__law_does_clash ?k__law_does_clash ?g__law_clashes ?l__law_clashes ?c__law_clashes ?k__law_clashes ?g_need_board ?l_need_board ?c_need_board ?k_need_board ?l_Board_rows ?c_Board_rows ?k_Board_rows ?g_held_parts ?l_held_parts ?c_held_parts ?k_held_parts ?g_parts ?l_parts ?c_parts ?k_parts ?l_Board_issues ?c_Board_issues ?k_Board_issues ?g_answered ?l_answered ?c_answered ?k_answered ?g_without ?l_without ?c_without ?k_without ?g_all_clashes ?l_all_clashes ?c_all_clashes ?k_all_clashes ?g_clashes ?l_clashes ?c_clashes ?k_clashes ?g_law ?l_law ?c_law ?k_law ?pg_Board ?hd_Board ?po_Board ?sa_Board ?ns_Board ?ca_Board_read ?cb_Board_read ?cf_Board_read ?cra_Board ?crb_Board ?cv_MOST ?n_Board_known ?ki_Board_0 ?ki_Board_1 ?ki_Board_2 ?ki_Board_3 ?ki_Board_4 ?ki_Board_5 ?ki_Board_6 ?kj_Board ?ic_Board ?gs_get ?gs_tk ?mo_Board ?mk_Board ?mi_Board ?mf_Board ?mk2_Board ?pa_Board_issues ?pb_Board_issues ?pc_Board_issues ?pd_Board_issues ?pa_Board_rows ?pb_Board_rows ?pc_Board_rows ?pd_Board_rows ?x_RowsError ?k_RowsError ?b_RowsError ?t_RowsError ?x_TextError ?k_TextError ?b_TextError ?t_TextError ?x_BoardError ?k_BoardError ?b_BoardError ?t_BoardError
    (case z_all => k_is)
    (case z_enumerate => k_is)
    (case z_isinstance => k_is)
    (case z_len => k_is)
    (case z_list => k_is)
    (case z_max => k_is)
    (case z_min => k_is)
    (case z_range => k_is)
    (case z_repr => k_is)
    (case z_set => k_is)
    (case z_sorted => k_is)
    (case z_str => k_is)
    (case z_tuple => k_is)
    (case z_zip => k_is)
    (case g_RowsError => k_is)
    (case g_TextError => k_is)
    (case g_BoardError => k_is)
    (case g_Board => k_is)
    (case g__law_pen => k_is)
    (case g__law_cell_at => k_is)
    (case g__law_draw => k_is)
    (case g__law_all => k_is)
    (case g__law_settling => k_is)
    (case g__law_drawn => k_is)
    (case g_is_answers => k_is)
    (case g_are_rows => k_is)
    (case g__law_shuffled => k_is)
    (case g__law_all_parts => k_is)
    (case g__law_has => k_is)
    (case g__law_some_have => k_is)
    (case g__law_issues => k_is)
    (case g__law_does_clash => k_is)
    (case g__law_clashes => k_is)
    (case g_need_board => k_is)
    (case g_held_parts => k_is)
    (case g_parts => k_is)
    (case g_answered => k_is)
    (case g_without => k_is)
    (case g_all_clashes => k_is)
    (case g_clashes => k_is)
    (case g_law => k_is)
    (case ca_Board_read => k_is)
    (case mi_Board => k_is)
    (case pa_Board_issues => k_is)
    (case pa_Board_rows => k_is)
    (case cb_Board_read => k_is)
    (case pd_Board_issues => k_is)
    (case pd_Board_rows => k_is)
    (case l__law_pen => k_is)
    (case c__law_pen => k_is)
    (case k__law_pen => k_is)
    (case l__law_cell_at => k_is)
    (case c__law_cell_at => k_is)
    (case k__law_cell_at => k_is)
    (case l__law_draw => k_is)
    (case c__law_draw => k_is)
    (case k__law_draw => k_is)
    (case l__law_all => k_is)
    (case c__law_all => k_is)
    (case k__law_all => k_is)
    (case l__law_settling => k_is)
    (case c__law_settling => k_is)
    (case k__law_settling => k_is)
    (case l__law_drawn => k_is)
    (case c__law_drawn => k_is)
    (case k__law_drawn => k_is)
    (case l_is_answers => k_is)
    (case c_is_answers => k_is)
    (case k_is_answers => k_is)
    (case l_are_rows => k_is)
    (case c_are_rows => k_is)
    (case k_are_rows => k_is)
    (case l_Board___init__ => k_is)
    (case c_Board___init__ => k_is)
    (case k_Board___init__ => k_is)
    (case l_Board_read => k_is)
    (case c_Board_read => k_is)
    (case k_Board_read => k_is)
    (case l__law_shuffled => k_is)
    (case c__law_shuffled => k_is)
    (case k__law_shuffled => k_is)
    (case l__law_all_parts => k_is)
    (case c__law_all_parts => k_is)
    (case k__law_all_parts => k_is)
    (case l__law_has => k_is)
    (case c__law_has => k_is)
    (case k__law_has => k_is)
    (case l__law_some_have => k_is)
    (case c__law_some_have => k_is)
    (case k__law_some_have => k_is)
    (case l__law_issues => k_is)
    (case c__law_issues => k_is)
    (case k__law_issues => k_is)
    (case l__law_does_clash => k_is)
    (case c__law_does_clash => k_is)
    (case k__law_does_clash => k_is)
    (case l__law_clashes => k_is)
    (case c__law_clashes => k_is)
    (case k__law_clashes => k_is)
    (case l_need_board => k_is)
    (case c_need_board => k_is)
    (case k_need_board => k_is)
    (case l_Board_rows => k_is)
    (case c_Board_rows => k_is)
    (case k_Board_rows => k_is)
    (case l_held_parts => k_is)
    (case c_held_parts => k_is)
    (case k_held_parts => k_is)
    (case l_parts => k_is)
    (case c_parts => k_is)
    (case k_parts => k_is)
    (case l_Board_issues => k_is)
    (case c_Board_issues => k_is)
    (case k_Board_issues => k_is)
    (case l_answered => k_is)
    (case c_answered => k_is)
    (case k_answered => k_is)
    (case l_without => k_is)
    (case c_without => k_is)
    (case k_without => k_is)
    (case l_all_clashes => k_is)
    (case c_all_clashes => k_is)
    (case k_all_clashes => k_is)
    (case l_clashes => k_is)
    (case c_clashes => k_is)
    (case k_clashes => k_is)
    (case l_law => k_is)
    (case c_law => k_is)
    (case k_law => k_is)
    (case pg_Board => k_is)
    (case hd_Board => k_is)
    (case po_Board => k_is)
    (case sa_Board => k_is)
    (case ns_Board => k_is)
    (case cf_Board_read => k_is)
    (case cra_Board => k_is)
    (case crb_Board => k_is)
    (case cv_MOST => k_is)
    (case n_Board_known => k_is)
    (case ki_Board_0 => kit_is)
    (case ki_Board_1 => kit_is)
    (case ki_Board_2 => kit_is)
    (case ki_Board_3 => kit_is)
    (case ki_Board_4 => kit_is)
    (case ki_Board_5 => kit_is)
    (case ki_Board_6 => kit_is)
    (case kj_Board => kit_is)
    (case ic_Board => k_is)
    (case gs_get => k_is)
    (case gs_tk => k_is)
    (case mo_Board => k_is)
    (case mk_Board => k_is)
    (case mf_Board => k_is)
    (case mk2_Board => k_is)
    (case pb_Board_issues => k_is)
    (case pc_Board_issues => k_is)
    (case pb_Board_rows => k_is)
    (case pc_Board_rows => k_is)
    (case x_RowsError => k_exc)
    (case k_RowsError => k_is)
    (case b_RowsError => k_is)
    (case t_RowsError => k_is)
    (case x_TextError => k_exc)
    (case k_TextError => k_is)
    (case b_TextError => k_is)
    (case t_TextError => k_is)
    (case x_BoardError => k_exc)
    (case k_BoardError => k_is)
    (case b_BoardError => k_is)
    (case t_BoardError => k_is)
end
